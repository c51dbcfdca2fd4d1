/- Parts of a proof. -/
import Derived.Test.YtedbfemmehbeoaaGreatDoorXC5
import Derived.RangeFuncNested
import Derived.Shelf.RegionOpen
import Derived.OwnWalkIn
import Derived.LoopNIn
import Derived.LoopIn
set_option maxHeartbeats 8000000
set_option linter.all false
namespace Go.Sy.Zaa
open Go.Proofs Go.Proofs.Tryz
section
attribute [local irreducible]G DR
set_option maxRecDepth 20000
def Ai8(a b:List UInt8):Hl a++Hl b=Hl (a++b):=by
 apply Sm;simp[Hl]
def Aca(m:Nat):I7 m=Hl (Da m).reverse:=by rw[I7,Ai5]
end
section
def Aud(m:Nat)(h:0<m):Azz (-(m:Int))=(Da m++[45]).reverse:=by
 rw[Azz,zE j_];have:(-(m:Int)).natAbs=m:=by omega
 rw[this]
set_option maxRecDepth 20000 in
def Aua(m:Nat)(R:0<m)(hb:m<=9223372036854775808):Sp 47 [Aa (-(m:Int))] (Ap (I7 (-(m:Int)))):=cT F47 ntmps47 λF hF=>by
 have gi:=cB m;have g:=λj=>cC j m
 have a8:=λj=>cE j m
 have kr:(Da m).length<=20:=L0 19 m j_;have w1:IntKind.u64.wrap (0-IntKind.u64.wrap (-(m:Int)))=m:=by rw[IntKind.wrap_u64,IntKind.wrap_u64];omega
 rw[I7,Aud m R];generalize Da m=D at *;refine fW ?_;refine⟨λ_=>?_,λh=>zW (zQ h) j_⟩;refine Ct 3 1000 1 Ae q_ q_ (fU ?_);refine Bl D.length (λj=>[(0,Aa (-(m:Int))),(3,.osl 1000),(4,B1 (m/10^j:Nat)),(5,Ab (decide (j<D.length)))]) (λj=>[(1000,.row 1 Ae (D.take j))]) []
  ⟨⟨rfl,rfl,rfl,rfl,zH (λz=>SV.val (.int .u64 z)) (kS w1.symm),rfl,zH Ab (zL gi),rfl,trivial⟩,⟨.inl rfl,rfl,trivial⟩,rfl,rfl⟩ ?_
 intro j hj;refine gH ?_ ?_<;>intro h
 .have o:j<D.length:=zO h;have p:=a8 j o;have r:=g j;have e:m/10^(j+1)=m/10^j/10:=by rw[tU,tV]
  have hq:m/10^j<=m:=Nat.div_le_self _ _;rw[e]at r;refine fU ?_;refine⟨by decide,?_⟩;refine fW ?_;refine Al (Ah Γ.toTy 23 q_ q_ q_ q_ q_ (.row q_) (.lit (l:=[D[j]]) q_ ?_) qx ?_ ?_) q_ q_ ?_
  .rw[p];simp only[xR,vW,Ae];congr 3;generalize m/10^j=q at *;rw[uE (uB _),IntKind.wrap_u64,IntKind.wrap_u8];simp
  .simp;omega
  .simp;omega
  refine fU ?_;refine⟨by decide,?_⟩;refine fW ?_;refine A9 [(1000,23)] o ⟨⟨q_,q_,q_,q_,zH (λz=>SV.val (.int .u64 z)) ?_,q_,zH Ab ?_,q_,z_⟩,⟨.inl (zH (Ob.row 1 Ae) (zZ o)),q_,z_⟩,q_,q_⟩
  .rw[e,vN (uB _),IntKind.wrap_u64];generalize m/10^j=q at *;omega
  .rw[vN (uB _),IntKind.wrap_u64];generalize m/10^j=q at *;refine decide_eq_decide.2 ?_;omega
 .have:j=D.length:=qB h;subst this;rw[yM];refine fU ?_;refine⟨λ_=>?_,λh=>zW (zQ h) j_⟩;refine fU ?_;refine Al (Ah Γ.toTy 30 q_ q_ q_ q_ q_ (.row q_) (.lit (e:=Ae) (l:=[45]) q_ q_) qx kO kO) q_ q_ ?_;have a0:(D++[45]).length=D.length+1:=by simp
  generalize D++[45]=D at *;refine gE ?_;refine Bl (D.length/2) (λj=>[(3,.osl 1000),(6,Aa j),(7,Aa (D.length-1-j:Nat))]) (λj=>[(1000,.row 1 Ae (bB D j))]) [(1000,30)]
   ⟨⟨rfl,rfl,rfl,rfl,zH (λz=>SV.val (.int .i64 z)) j_,rfl,trivial⟩,⟨.inl (zH (Ob.row 1 Ae) (Aej D)),rfl,trivial⟩,rfl,rfl⟩ ?_
  intro i hi;have lp:=H6 D i;refine fU ?_;constructor<;>intro I
  .have o:2*i+1<D.length:=by have:=zO I;omega
   obtain ⟨u,t⟩:=kE (bB D i);obtain ⟨k,J⟩:=kE (D.length-1-i);rw[t]at lp;have hs:=Aek t o J j_ j_;rw[t,J];refine fU ?_;refine⟨by omega,by omega,?_⟩;refine fW ?_;refine⟨q_,by omega,?_⟩;refine fW ?_;refine⟨by omega,by omega,?_⟩;refine fW ?_;refine⟨q_,by omega,?_⟩;refine fW ?_;refine⟨by omega,by omega,?_⟩;refine fW ?_;refine⟨q_,by omega,u[k],q_,q_,?_⟩;refine fW ?_;refine⟨by omega,by simp;omega,?_⟩;refine fW ?_;refine⟨q_,by simp;omega,u[i],q_,q_,?_⟩;refine fW ?_;refine⟨y_,?_⟩;refine gJ ?_;refine iL ?_;refine fW ?_;refine A9 [] j_ ⟨⟨q_,q_,q_,q_,zH (λz=>SV.val (.int .i64 z)) j_,q_,z_⟩,⟨.inl (zH (Ob.row 1 Ae) hs.symm),q_,z_⟩,q_,q_⟩
  .have h3:D.length<=2*i+1:=by have:=zQ I;omega
   rw[Aii D i h3];refine fU ?_;exact Al (Cz Γ.toTy (bs:=D.reverse) q_ q_ q_ q_ q_ q_ q_ (.row q_)) q_ q_ gC
attribute [local irreducible]G DR
set_option maxRecDepth 20000
def L6(n:Int):Prop:=-9223372036854775808<=n/\n<9223372036854775808
def Bau(m:Nat)(h:0<m):I7 (-(m:Int))=⟨#[45]⟩++I7 (m:Int):=by
 rw[I7,Aud m h,Aca,List.reverse_append];exact(Ai8 [45] _).symm
def Qk{n:Int}(h:L6 n):(I7 n).size<=22:=by
 have g:∀m:Nat,m<10^20->(I7 (m:Int)).size<=21:=λm i=>by
  rw[Aca,Dp,tJ];exact L0 20 m i
 unfold L6 at h;by_cases j:0<=n
 .obtain ⟨m,rfl⟩:=xK j;have:=g m j_;omega
 .obtain ⟨m,l⟩:∃m:Nat,n=-(m:Int):=⟨n.natAbs,by omega⟩
  subst l;have:=g m j_;rw[Bau m j_,ByteArray.size_append];show 1+_<=22;omega
def Yo(n:Int)(h:L6 n):Sp 47 [Aa n] (Ap (I7 n)):=by
 unfold L6 at h;by_cases g:0<=n
 .obtain ⟨m,rfl⟩:=xK g;exact At9 m j_
 .obtain ⟨m,i⟩:∃m:Nat,n=-(m:Int):=⟨n.natAbs,by omega⟩
  subst i;exact Aua m j_ j_
def Mf(p:Nat->Bool)(j:Nat):List Int:=((List.range j).filter p).map Int.ofNat
def Aan(p:Nat->Bool)(j:Nat):Mf p (j+1)=if p j=true then Mf p j++[(j:Int)] else Mf p j:=by
 rw[Mf,wW,List.filter_append,wP];split
 .rename_i h;rw[tM (by exact h),List.filter_nil];rfl
 .rename_i h;rw[List.filter_cons_of_neg (by exact h),List.filter_nil,vW,yV];rfl
def M5(p:Nat->Bool)(j:Nat):(Mf p j).length<=j:=by
 have:=uW p (List.range j);simpa [Mf] using this
def Ti{p:Nat->Bool}{j:Nat}{x:Int}:x∈Mf p j↔0<=x/\x<j/\p x.toNat=true:=by
 simp only[Mf,yT,List.mem_filter,xD];constructor
 .rintro ⟨i,g,rfl⟩;exact⟨uB i,by simp;omega,g.2⟩
 .rintro ⟨g,o,l⟩;exact⟨x.toNat,⟨by omega,l⟩,yQ g⟩
def aV(n:Ai)(d:A0)(i:Nat):Bool:=(Af n.g i).q==d.q&&Hk (Af n.g i) d.z
def Bz(n:Ai)(i:Int):List Int:=Mf (aV n (Af n.c i)) n.g.length
def Ci(n:Ai)(i:Int):List Int:=if (0<=i/\i<n.c.length)/\Ac n=true then Bz n i else []
def Q9(n:Ai)(g:n.Fin)(i:Int):At (Ci n i):=by
 have:=g.g;unfold At at this|-;unfold Ci;split
 .have:=M5 (aV n (Af n.c i)) n.g.length;unfold Bz;omega
 .simp
def X4(n:Ai)(J:n.Fin)(i:Int):Sp 115 [Aq n,Aa i] (.sl 1 Aa (Ci n i)):=cT F115 ntmps115 λF hF=>by
 have hr:=A7 n J;have bd:=Tq 6 Ax n.c i;have ze:=J.g;unfold At at ze
 conv=>whnf
 refine c0 hr F49 ?_;cases o:Ac n
 .rw[Ci,zD (by simp[o])]
  (refine oT ?_;refine bT ?_)
  exact Ar 4 1 Aa q_ gM
 refine oF ?_;refine c0 bd F184 ?_;by_cases hi:0<=i/\i<n.c.length;rotate_left
 .have R:Am i n.c.length=false:=by simp only[Am,xC,yC];omega
  rw[Ci,zD (by simp[o,hi]),R];refine oT ?_;exact Ar 4 1 Aa q_ gM
 have R:Am i n.c.length=true:=by simp only[Am,zG,zK];exact hi
 rw[Ci,zE ⟨hi,o⟩,R];have r:i.toNat<n.c.length:=by omega
 have hf:=K1 o r;have t:Af n.c i=n.c[i.toNat]:=Aj r;rw[Bz,t];obtain ⟨d,hd⟩:=kE (n.c[i.toNat]);rw[hd]at hf|-;refine Bi 2 8 (Aq n) q_ q_ q_ (oF ?_);refine Ct 5 1000 1 Aa q_ q_ ?_;refine Bl n.g.length (λj=>[(1,Aa i),(2,.ref 8 (Aq n) 0),(5,.osl 1000),(19,.sl 7 Bm n.g),(20,Aa n.g.length),(21,Aa j)]) (λj=>[(1000,.row 1 Aa (Mf (aV n d) j))]) []
  kU ?_
 intro j hj;refine gI ?_ ?_<;>intro h
 .have I:j<n.g.length:=by simpa using h
  have g:=Aan (aV n d) j;have je:=M5 (aV n d) j;have br:aV n d j=((n.g[j]).q==d.q&&Hk n.g[j] d.z):=by
   rw[aV,Aj (l:=n.g) (i:=(j:Int)) (kS I)];rfl
  rw[br]at g;have t:n.g[(j:Int).toNat]'j_=n.g[j]:=rfl;have yq:=Aci n.g[j] d.z (J.u _ (zI _));obtain ⟨p,hp⟩:=kE (n.g[j]);rw[hp]at t g yq;obtain ⟨u,hu⟩:=kE (Mf (aV n d) j);rw[hu]at g je|-;refine oO ?_;refine⟨q_,by omega,by omega,?_⟩;rw[t]
  conv=>whnf
  refine⟨q_,hi.1,r,?_⟩;rw[hd]
  conv=>whnf
  constructor<;>intro h2
  .have h3:∃k:Nat,(k:Int)=i:=⟨i.toNat,by omega⟩
   rw[h2,yB]at g;refine oD ?_;refine⟨q_,hi.1,r,?_⟩;rw[hd]
   conv=>whnf
   refine cD yq F185 (gO ?_);constructor<;>intro h4
   .rw[zE h4]at g;refine oO ?_;refine Al (Ah Γ.toTy 48 q_ q_ q_ q_ q_ (.row q_) (.lit (e:=Aa) (l:=[(j:Int)]) q_ q_) qx kO kO) q_ q_ (gG ?_);exact A9 [(1000,48)] I ⟨kA,⟨.inl (zH (Ob.row 1 Aa) g),q_,z_⟩,q_,q_⟩
   .rw[zD (by simp[h4])]at g;refine gG ?_;exact A9 [] I ⟨kA,⟨.inl (zH (Ob.row 1 Aa) g),q_,z_⟩,q_,q_⟩
  .rw[zD (by simp[h2])]at g;refine oD ?_;refine⟨y_,?_⟩
   ((conv=>whnf);refine aF ?_;refine rg ?_;conv=>whnf)
   refine iW ?_;exact A9 [] I ⟨kA,⟨.inl (zH (Ob.row 1 Aa) g),q_,z_⟩,q_,q_⟩
 .have:j=n.g.length:=qB h;subst this;exact Ao 1000 q_ gM
def Aq9(n:Ai)(i:n.Fin)(l:List A0)(p:A0->Bool)(f:FuncId)(first cap:List SV)(g:(SV.clo (.func f) first cap).inn []=true)(j:∀x∈l,J3 prog f (first++[Ax x]++cap) (Ab (p x)))(o:At l):Sp 260 [Aq n,.sl 6 Ax l,.clo (.func f) first cap] (Aa (if Ac n=true then Bt p l else -1)):=cT F260 ntmps260 λF t=>by
 have r:=A7 n i;have q:=Jz l p f first cap g j o
 conv=>whnf
 refine c0 r F49 ?_;cases I:Ac n
 .rw[zD qx];refine oT ?_;exact dN
 rw[zE rfl];refine oF ?_;exact U3 q F256 q_ q_ (by simp only[C7,g,uP];rfl) q_ q_ gM
def Aql(dev g:Int)(d:A0):Sp 261 [Ax d,.ref 1 (Aa dev) 0,.ref 1 (Aa g) 0] (Ab (d.q==dev&&d.z==g)):=cT F261 ntmps261 λF i=>by
 conv=>whnf
 (repeat' (first|(refine⟨λh=>?_,λh=>?_⟩<;>(repeat (first|simp only[yL]at h|simp only[zU]at h))<;>((refine oO ?_)))|(refine Av rfl As ?_ rfl)))
 all_goals (refine zH Ab ?_)
 all_goals simp_all
def D2(n:Ai)(dev g:Int):Int:=if Ac n=true then Ep n dev g else -1
def Q8(n:Ai)(i:n.Fin)(dev g:Int):Sp 195 [Aq n,Aa dev,Aa g] (Aa (D2 n dev g)):=cT F195 ntmps195 λF j=>by
 have q:=Aq9 n i n.c (λd=>d.q==dev&&d.z==g) 261 [] [.ref 1 (Aa dev) 0,.ref 1 (Aa g) 0] rfl (λd _=>⟨⟨_,_,F261⟩,Aql dev g d⟩) i.c
 conv=>whnf
 refine Bi 4 1 (Aa dev) q_ q_ q_ ?_;refine Bi 5 1 (Aa g) q_ q_ q_ (gF q F260 ?_);exact dN
def Eg(n:Ai)(i:Int):Int :=
 if (0<=i/\i<n.g.length)/\0<=(Af n.g i).ah/\Ac n=true then
  (if (Af n.x (Af n.g i).ah).a=i then (Af n.x (Af n.g i).ah).b else (Af n.x (Af n.g i).ah).a) else -1
def Ue{n:Ai}(h:Ac n=true){i:Nat}(hi:i<n.g.length)(j:0<=n.g[i].ah):n.g[i].ah.toNat<n.x.length/\((Af n.x n.g[i].ah).a=i\/(Af n.x n.g[i].ah).b=i):=by
 have:=A1h h hi;simp only[Qj,Am,zG,yR,zK,yL]at this;rcases this.2 with g|g
 .omega
 .exact⟨by omega,g.2⟩
def Acn(n:Ai)(hn:n.Fin)(i:Int):Sp 326 [Aq n,Aa i] (Aa (Eg n i)):=cT F326 ntmps326 λF hF=>by
 have hr:=A7 n hn
 conv=>whnf
 constructor<;>intro h
 .have g:i<0:=zO h;rw[Eg,zD j_]
  (refine oT ?_;refine bT ?_;refine bT ?_)
  exact dN
 have g:0<=i:=qB h;refine gI ?_ ?_<;>intro h
 .have J:n.g.length<=i:=zO h;rw[Eg,zD j_]
  (refine oT ?_;refine bT ?_)
  exact dN
 have J:i<n.g.length:=qB h;have j:i.toNat<n.g.length:=by omega
 have e1:Af n.g i=n.g[i.toNat]:=Aj j;have R:=λ(r:Ac n=true)=>Ue r j
 rw[Eg,e1];obtain ⟨p,hp⟩:=kE (n.g[i.toNat]);rw[hp]at R|-;refine oO ?_;refine⟨q_,g,j,?_⟩;rw[hp]
 conv=>whnf
 constructor<;>intro h
 .have o:p.ah<0:=zO h;rw[zD j_];refine oT ?_;exact dN
 have o:0<=p.ah:=qB h;refine oO ?_;refine c0 hr F49 ?_;cases r:Ac n
 .rw[zD qx];refine oT ?_;exact dN
 rw[zE ⟨⟨g,J⟩,o,rfl⟩];have t:=R r o;have e2:Af n.x p.ah=n.x[p.ah.toNat]:=Aj t.1;rw[e2];obtain ⟨l,hl⟩:=kE (n.x[p.ah.toNat]'t.1);rw[hl];refine oF ?_;refine⟨q_,g,j,?_⟩;rw[hp]
 conv=>whnf
 refine⟨q_,o,t.1,?_⟩;rw[hl]
 conv=>whnf
 refine kW ?_;constructor<;>intro h
 .have I:l.a=i:=by simpa using h
  rw[zE I];exact gM
 .have I:¬l.a=i:=by simpa using h
  rw[zD I];exact gM
end
end Go.Sy.Zaa
namespace Go.Sy
open Go.RowKit
def A34{k:Type}(T:Nat->Prop)(J:k->World->Prop):Prop :=
 ∀s W g row,J s W->W.grownBy g row->(∀r,row=some r->T r)->J s g
def A8g{k:Type}(B:Nat)(T:Nat->Prop)(I:k->World->Prop):Prop :=
 ∀s W g row,I s W->W.grownBy g row->(∀r,row=some r->T r\/(B<=r/\∃o:Obj,W.heap[r]? = some o/\o.isCells=false))->I s g
theorem A8g.putObj{k:Type}{B:Nat}{T:Nat->Prop}{I:k->World->Prop}(h:A8g B T I){s:k}{W:World}{l:Nat}{o:Obj}(g:Obj)(i:I s W)(j:B<=l)(p:W.heap[l]? = some o)(t:o.isCells=false):I s (W.putObj l g) :=
 h s W _ _ i (grownBy_putObj' W l g) (λr e=>by cases e;exact .inr ⟨j,o,p,t⟩)
theorem A8g.alloc{a:Type}{B:Nat}{T:Nat->Prop}{I:a->World->Prop}(h:A8g B T I){s:a}{W:World}(o:Obj)(g:I s W):I s (W.alloc o) :=
 h s W _ none g ⟨rfl,rfl,rfl,by simp,λk i _=>Below.heap_alloc _ _ _ i⟩ (λr e=>by cases e)
def Apa{k:Type}(F:Fence)(n:Nat)(P:Program)(g:Nat)(lb:Array Value)(p:k->Array Value)(T:Nat->Prop)(r:World->World->Prop)(S Sp:List k->Prop)(N:Nat)(w:World):Prop :=
 ∀(l:Nat) (J j:List k->World->Prop) (W:World),Below w.heap.size w W->A34 T J->A34 T j ->
  (∀ pre x o,J pre o->pre.length<N->YieldAt F (n-1) P l (p x) o λ e i =>
   (e=.returned (.bool true)/\J (pre++[x]) i/\r o i)\/(e=.returned (.bool false)/\j (pre++[x]) i)) ->
  J [] W ->
  CallsIn F n P g (#[.func (.yield l) #[] #[]]++lb) W λe i=>(∃v,e=.returned v)/\((∃xs,S xs/\J xs i)\/(∃pre,Sp pre/\j pre i))
def Xl{A B:World}{T:Nat->Prop}{row:Option Nat}{k:Nat}{o:Obj}(g:A.grownBy B row)(i:∀r,row=some r->T r)(j:¬T k)(h:A.heap[k]? = some o):B.heap[k]? = some o:=by
 obtain ⟨_,_,_,_,l⟩:=g;exact(l k (wQ.1 h).1 (λe=>j (i k e.symm))).trans h
variable {F:Fence} {n:Nat} {P:Program}
theorem lB{m:Type}{g:Operand}{ps:Array Tmp}{assign body:Code}{Q:Exit->Act->World->Prop}{a:Act}{w:World}(jj:F.round=none)(h1:1<=n){gf:Nat}{lb:Array Value}(hg:a.eval g=.func (.func gf) #[] lb)(ad:F.fn gf)(eg:∀ args w,(callFunc gf args).run P w=.ok (.enter gf args) w){ph:m->Array Value}{T:Nat->Prop}{Kp:World->World->Prop}{S Sp:List m->Prop}{N:Nat}{w0:World}(a6:Apa F (n-1) P gf lb ph T Kp S Sp N w0)(hT:∀ b,T b->b<w.heap.size)(a7:∀ {A B C:World},Kp A B->Kp B C->Kp A C)(a8:∀ (W:World) (l:Nat) (o o':Obj),w.heap.size<=l->W.heap[l]? = some o->o.isCells=false->o.isWalk=false->Kp W (W.putObj l o'))(pz:Below w0.heap.size w0 w)(j7:∀ x,(ph x).size=ps.size)(I:List m->World->Prop)(Ix:Code->List m->World->Prop)(hI:A8g w.heap.size T I)(a0:∀ c,A8g w.heap.size T (Ix c))(h0:I [] w)(a₁:m->Act)(u7:∀ (l:Nat) (x:m) (W:World) (K:Act->World->Prop),K (a₁ x) W ->
   assign.wpIn (F.inRound l) (n-1-1) P (Exit.then K (λ _ _ _=>False)) { tmps:=(ps.zip (ph x)).foldl (λ t (p,v)=>t.setIfInBounds p v) a.tmps,defers:=[] } W)(a2:∀ (l:Nat) (pre:List m) (x:m) (W:World),I pre W->pre.length<N->body.wpIn (F.inRound l) (n-1-1) P (ownPostK Kp I Ix (pre++[x]) W) (a₁ x) W)(a4:∀ (D:Nat) (xs:List m) (W:World),w.heap.size<=D->S xs->I xs W->W.heap[D]? = some (.deferred (some []))->Q .normal { a with defers:={ target:=.collected D,args:=#[] }::a.defers } W)(a5:∀ (D:Nat) (c:Code) (pre:List m) (W:World),w.heap.size<=D->Sp pre->Ix c pre W->W.heap[D]? = some (.deferred (some []))->c.wpIn F n P Q { a with defers:={ target:=.collected D,args:=#[] }::a.defers } W):(Code.rangeFunc g ps assign body).wpIn F n P Q a w:=by
 refine wpIn_rangeFunc ?_;intro fn wm;rw[jj];obtain ⟨rec,jm⟩:∃rec:LoopState->Option Code->Loop,rec=λst pe=>{state:=st,pending:=pe,fn,tmps:=a.tmps,params:=ps,assign,body,defers:=w.heap.size}:=⟨_,rfl⟩
 obtain ⟨W1,a1⟩:=kE ((w.alloc (.deferred (some []))).alloc (.loop (rec .ready none)));have ae:W1.heap[w.heap.size+1]? = some (.loop (rec .ready none)):=by
  rw[<-a1];have:=World.alloc_heap_new (w.alloc (.deferred (some []))) (.loop (rec .ready none));rwa [World.size_alloc]at this
 have af:W1.heap[w.heap.size]? = some (.deferred (some [])):=by
  rw[<-a1];exact(Below.heap_alloc _ _ _ qx).trans (World.alloc_heap_new w _)
 have ag:I [] W1:=by rw[<-a1];exact hI.alloc _ (hI.alloc _ h0)
 have ff:Below w0.heap.size w0 W1:=by
  rw[<-a1];exact pz.trans ((((Below.refl _ w).alloc (yG _) _).alloc qx _).mono pz.size)
 have nT:∀k,w.heap.size<=k->¬T k:=λk hk h=>Nat.lt_irrefl _ (xB (hT k h) hk)
 refine⟨w.heap.size+1,[{ target:=.collected w.heap.size,args:=#[] }],W1,{ target:=.fn (.func gf) lb,args:=#[.func (.yield (w.heap.size+1)) #[] #[]] },W1,gf,
  #[.func (.yield (w.heap.size+1)) #[] #[]]++lb,W1,?_,?_,?_,?_,λ _=>h1,?_⟩
 .rw[<-a1,jm];exact run_enterLoop_outer _ _ _ _ _
 .simp only[resolve,hg];simp[go_sem]
 .intro f' a9;simp[Target.leads]at a9;subst a9;exact ad
 .simp[invoke,go_sem,eg]
 .refine(a6 (w.heap.size+1)
   (λpre W=>I pre W/\W.heap[w.heap.size+1]? = some (.loop (rec .ready none))/\W.heap[w.heap.size]? = some (.deferred (some [])))
   (λpre W=>∃c,Ix c pre W/\W.heap[w.heap.size+1]? = some (.loop (rec .done (some c)))/\W.heap[w.heap.size]? = some (.deferred (some [])))
   W1 ff
   (λs A B row hs o9 i=>⟨hI s A B row hs.1 o9 (λr e=>.inl (i r e)),Xl o9 i (nT _ j_) hs.2.1,Xl o9 i (nT _ j_) hs.2.2⟩)
   (λ s A B row hs o9 i=>by
    obtain ⟨c,hc,j,hk⟩:=hs;exact⟨c,a0 c s A B row hc o9 (λ r e=>.inl (i r e)),Xl o9 i (nT _ j_) j,Xl o9 i (nT _ j_) hk⟩)
   ?_ ⟨ag,ae,af⟩).mono ?_
  .rintro pre x W ⟨hi,j,hk⟩ aa;have ab:w.heap.size+1<W.heap.size:=(wQ.1 j).1;have hy:=run_yield (P:=P) (args:=ph x) j (by rw[jm];exact j7 x);rw[jm]at hy;refine⟨fn,_,assign,body,hy,roundIn_of_wpIn wm (u7 _ x W _ ⟨_,run_beginRound j (by rw[jm]),?_⟩)⟩;have i7:(W.putObj (w.heap.size+1) (.loop {rec .ready none with state:=.busy})).heap[w.heap.size+1]? = some (.loop {rec .ready none with state:=.busy}):=World.putObj_heap_same ab;have cq:(W.putObj (w.heap.size+1) (.loop {rec .ready none with state:=.busy})).heap[w.heap.size]? = some (.deferred (some [])):=(World.putObj_heap_other j_).trans hk;have rh:Kp W (W.putObj (w.heap.size+1) (.loop {rec .ready none with state:=.busy})):=a8 _ _ _ _ j_ j rfl rfl;refine wpIn_mono (a2 _ pre x _ (hI.putObj _ hi (tF _) j q_) aa) ?_;have fin:∀(R:Option Code) (W3:World),KeepsOthers (W.putObj (w.heap.size+1) (.loop {rec .ready none with state:=.busy})) W3 ->
     (Instr.endRound (w.heap.size+1) R).run P W3=.ok (.bool R.isNone) (W3.putObj (w.heap.size+1) (.loop (rec (if R.isNone then .ready else .done) R))) /\
     W3.heap[w.heap.size+1]? = some (.loop {rec .ready none with state:=.busy}) /\
     (W3.putObj (w.heap.size+1) (.loop (rec (if R.isNone then .ready else .done) R))).heap[w.heap.size+1]? = some (.loop (rec (if R.isNone then .ready else .done) R)) /\
     (W3.putObj (w.heap.size+1) (.loop (rec (if R.isNone then .ready else .done) R))).heap[w.heap.size]? = some (.deferred (some [])):=λR W3 t6=>by
    have J:=t6.same _ _ i7 rfl;have:=run_endRound (P:=P) R J;rw[jm]at this|-;exact⟨this,by rw[jm]at J;exact J,World.putObj_heap_same (wQ.1 J).1,(World.putObj_heap_other j_).trans (t6.same _ _ cq q_)⟩
   rintro e a3 W3 hp;cases e with
   |normal=>
    obtain ⟨t6,ac,xu⟩:=hp;obtain ⟨i,J,xv,xw⟩:=fin none W3 t6;exact⟨_,_,i,.inl ⟨q_,⟨hI.putObj _ xu (tF _) J q_,xv,xw⟩,a7 (a7 rh ac) (a8 _ _ _ _ j_ J q_ q_)⟩⟩
   |ret=>
    obtain ⟨t6,xu⟩:=hp;obtain ⟨i,J,xv,xw⟩:=fin (some .ret) W3 t6;exact⟨_,_,i,.inr ⟨q_,.ret,(a0 _).putObj _ xu (tF _) J q_,xv,xw⟩⟩
   |exit id=>
    obtain ⟨t6,xu⟩:=hp;obtain ⟨i,J,xv,xw⟩:=fin (some (.exit id)) W3 t6;exact⟨_,_,i,.inr ⟨q_,.exit id,(a0 _).putObj _ xu (tF _) J q_,xv,xw⟩⟩
   |goto t=>
    obtain ⟨t6,xu⟩:=hp;obtain ⟨i,J,xv,xw⟩:=fin (some (.goto t)) W3 t6;exact⟨_,_,i,.inr ⟨q_,.goto t,(a0 _).putObj _ xu (tF _) J q_,xv,xw⟩⟩
   |panic ch=>exact hp.elim
   |outgrown=>exact hp.elim
  .rintro e W2 ⟨⟨v,rfl⟩,(⟨xs,hS,hi,j,hk⟩|⟨pre,ah,c,hi,j,hk⟩)⟩
   .exact⟨none,_,by have:=run_endLoop (P:=P) j (by rw[jm];simp);rw[jm]at this;exact this,a4 _ xs _ (yG _) hS (hI.putObj _ hi (tF _) j q_) ((World.putObj_heap_other j_).trans hk)⟩
   .exact⟨some c,_,by have:=run_endLoop (P:=P) j (by rw[jm];simp);rw[jm]at this;exact this,a5 _ c pre _ (yG _) ah ((a0 c).putObj _ hi (tF _) j q_) ((World.putObj_heap_other j_).trans hk)⟩
end Go.Sy
namespace Go.Proofs
open Go.RowKit Go.Shelf Go.Sy Go.Sy.Zaa
attribute [local go_sem] Oper.semAt_some
structure Aa1(W:World)(bp bs bv:Nat)(t:ByteArray):Prop where
 p:W.cell? ⟨bp,0,none⟩=some (.string ⟨#[46]⟩)
 s:W.cell? ⟨bs,0,none⟩=some (.string t)
 v:W.cell? ⟨bv,0,none⟩=some (.int .i64 0)
 f:W.frozen? ⟨bs,0,none⟩=false
def Bdp(bp bs g:Nat)(W W':World):Prop:=W'.heap[bp]? = W.heap[bp]? /\ W'.heap[bs]? = W.heap[bs]? /\ W'.heap[g]? = W.heap[g]?
theorem Aa1.keep{W W':World}{bp bs g:Nat}{t:ByteArray}(h:Aa1 W bp bs g t)(k:Bdp bp bs g W W'):Aa1 W' bp bs g t :=
 ⟨(World.cell?_of_block k.1).trans h.p,(World.cell?_of_block k.2.1).trans h.s,(World.cell?_of_block k.2.2).trans h.v,by
  have:W'.frozen? ⟨bs,0,none⟩=W.frozen? ⟨bs,0,none⟩:=by unfold World.frozen?;rw[k.2.1]
  rw[this];exact h.f⟩
def Avk:∀{l:List UInt8} {c:UInt8},c∉l->Lib.indexByte l c=-1
 |[],_,_=>rfl
 |b::l,c,h=>by
  simp only[yH,vY]at h;rw[Lib.indexByte,zD (kS (Ne.symm h.1)),Avk h.2];rfl
def Bbt(bs:Nat)(W:World):Nat:=match W.cell? ⟨bs,0,none⟩ with|some (.string t)=>t.size|_=>0
set_option maxRecDepth 100000 in
theorem Tryz.split_stops(s:ByteArray)(hs:s.size<100000)(n:Nat)(hn:1<=n)(bp bs i:Nat)(hd:bp≠bs/\i≠bs)(w:World)(hw:Aa1 w bp bs i s)(o:bp<w.heap.size/\bs<w.heap.size/\i<w.heap.size):Apa Fence.wide n Tryz.prog 339 #[.pointer (some ⟨bp,0,none⟩),.pointer (some ⟨bs,0,none⟩),.pointer (some ⟨i,0,none⟩)] (λx:ByteArray=>#[.string x]) (λb=>b=bs) (Bdp bp bs i)
   (λxs=>xs=Bd 46 s) (λpre=>pre <+: Bd 46 s) (Bd 46 s).length w:=λl J Jx W hW hJ a6 hY h0=>by
 refine callsIn_of_wp Tryz.func339 Go.Sy.q_ Go.Sy.z_ ?_ Go.Sy.q_;simp only[Tryz.ntmps339,tC,yI,xG,Nat.reduceAdd,Nat.reduceSub,Array.replicate_succ,Array.replicate_zero,List.push_toArray,List.append_toArray,xO,wF];have l5:Aa1 W bp bs i s:=hw.keep ⟨hW.block _ o.1,hW.block _ o.2.1,hW.block _ o.2.2⟩;have c1:=l5.p;have c2:=l5.s;have c3:=l5.v
 gi_wp2
 gi_loopw [] (λg=>∃j:Nat,j<=Uw 46 s/\Aa1 g bp bs i (Hl (D9 46 s.data.toList j))/\J ((Bd 46 s).take j) g) (λg=>Bbt bs g)
 case atStart=>
  exact⟨0,xV _,by rw[D9,Jw];exact l5,h0⟩
 case round=>
  obtain ⟨j,hj,R,a0⟩:=a4;have d1:=R.p;have d2:=R.s;have d3:=R.v;have yj:=cH 46 s.data.toList j;have az:s.data.toList.length=s.size:=rfl;have jo:=Ly 46 s;have gn:=Dp (D9 46 s.data.toList j);by_cases o:j<Uw 46 s
  .have hi:=Mo (Aij o);obtain ⟨m,ky⟩:∃m:Nat,Lib.indexByte (D9 46 s.data.toList j) 46=m:=⟨(Lib.indexByte (D9 46 s.data.toList j) 46).toNat,by omega⟩
   have q:=Tryz.strings_Index_one (Hl (D9 46 s.data.toList j)) 46 g;rw[Jy,ky]at q;rw[ky,yA]at hi;have yl:=Atw (c:=46) (s:=s) (j:=j) ky;have t:=A2x (c:=46) (s:=s) (j:=j) ky;have a8:(Bd 46 s)[j]? = some (Hl (Qd 46 s.data.toList j)):=by
    have lq:j<s.data.toList.count 46:=o;rw[Bd,xM (by rw[yS,vT];exact lq),wX,uG lq];rfl
   have hx:(Hl (D9 46 s.data.toList j)).extract 0 m=Hl (Qd 46 s.data.toList j):=by
    rw[H8,yl];simp
   have a3:(Hl (D9 46 s.data.toList j)).extract (m+1) (Hl (D9 46 s.data.toList j)).size=Hl (D9 46 s.data.toList (j+1)):=by
    rw[H8,t,gn,yM]
   have gm:(Bd 46 s).take j++[Hl ((D9 46 s.data.toList j).take m)]=(Bd 46 s).take (j+1):=by
    rw[vU,a8,yl];rfl
   obtain ⟨fn,a1,assign,body,hy,hR⟩:=hY _ (Hl ((D9 46 s.data.toList j).take m)) g a0 (by rw[zY];omega);rw[gm]at hR
   gi_wp2
   refine⟨Go.Sy.z_,?_⟩;refine(callsIn_wide.2 q).mono ?_;rintro e w' ⟨rfl,rfl⟩
   gi_wp2
   refine hR.mono ?_;rintro e W' (⟨rfl,I,hk⟩|⟨rfl,xx⟩)
   .have vi:=R.keep hk;have d1:=vi.p;have d2:=vi.s;have d3:=vi.v;have d4:=vi.f;have a5:(Hl (D9 46 s.data.toList (j+1))).size+(m+1)=(Hl (D9 46 s.data.toList j)).size:=by
     rw[gn,Dp,t,yP];omega
    rw[gn]at a3
    gi_wp2
    rw[<-t];have e2:(W'.setCell ⟨bs,0,none⟩ (.string (Hl (D9 46 s.data.toList (j+1))))).cell? ⟨bs,0,none⟩=some (.string (Hl (D9 46 s.data.toList (j+1)))):=World.cell?_setCell_same' _ _ _ (by rw[d2];rfl);refine⟨⟨j+1,o,⟨?_,e2,?_,?_⟩,hJ _ _ _ (some bs) I (grownBy_setCell' _ _ _) (λr e=>by cases e;rfl)⟩,?_⟩
    .rw[World.cell?_setCell_other _ _ _ _ (by intro e;cases e;exact hd.1 rfl)];exact d1
    .rw[World.cell?_setCell_other _ _ _ _ (by intro e;cases e;exact hd.2 rfl)];exact d3
    .rw[World.frozen?_setCell];exact d4
    .unfold Bbt;rw[e2,R.s];simp only;omega
   .gi_wp2
    refine bodyPost_ret (results_none Go.Sy.q_ _ _ _) Go.Sy.q_ ?_;exact⟨⟨_,Go.Sy.q_⟩,.inr ⟨_,List.take_prefix _ _,xx⟩⟩
  .have bu:j=Uw 46 s:=by omega
   have bw:(46:UInt8)∉D9 46 s.data.toList j:=by
    have:=Aat 46 s.data.toList j hj;have e:Uw 46 s=s.data.toList.count 46:=rfl;exact List.count_eq_zero.1 Go.Sy.j_
   have q:=Tryz.strings_Index_one (Hl (D9 46 s.data.toList j)) 46 g;rw[Jy,Avk bw]at q;have a8:(Bd 46 s)[j]? = some (Hl (D9 46 s.data.toList j)):=by
    rw[bu,Bd,wD (by simp[Uw])];simp[Uw]
   have gm:(Bd 46 s).take j++[Hl (D9 46 s.data.toList j)]=Bd 46 s:=by
    have:(Bd 46 s).take (j+1)=Bd 46 s:=xI Go.Sy.j_;rw[vU,a8]at this;exact this
   have a2:((Bd 46 s).take j).length<(Bd 46 s).length:=by rw[zY];omega
   clear bu;obtain ⟨fn,a1,assign,body,hy,hR⟩:=hY _ (Hl (D9 46 s.data.toList j)) g a0 a2;rw[gm]at hR
   gi_wp2
   refine⟨Go.Sy.z_,?_⟩;refine(callsIn_wide.2 q).mono ?_;rintro e w' ⟨rfl,rfl⟩
   gi_wp2
   refine hR.mono ?_;rintro e W' (⟨rfl,I,hk⟩|⟨rfl,xx⟩)
   .gi_wp2
    go_end0
    exact⟨⟨_,Go.Sy.q_⟩,.inl ⟨_,Go.Sy.q_,I⟩⟩
   .gi_wp2
    go_end0
    exact⟨⟨_,Go.Sy.q_⟩,.inr ⟨_,List.prefix_rfl,xx⟩⟩
end Go.Proofs
namespace Go.Sy
open Go.RowKit
theorem Spec.calls{P:Program}{f:FuncId}{A:List SV}{R:SV}(h:Sy.Spec P f A [] R []){w:World}{vs:List Value}(i:B8 k0 w A vs):Calls P f vs.toArray w λe w'=>∃v k',e=.returned v/\Rd k' w' R v/\Below w.heap.size w w':=by
 refine(h k0 w vs (A0q w) (λk j=>zW rfl j) i (λp hp=>by cases hp)).mono ?_;rintro e w' ⟨v,k',rfl,g,inv,l,_⟩;exact⟨v,k',q_,l,Adn g⟩
theorem Spec.calls_tup2{P:Program}{f:FuncId}{A:List SV}{a b:Value}(h:Sy.Spec P f A [] (.tup [.val a,.val b]) []){w:World}{vs:List Value}(i:B8 k0 w A vs):Calls P f vs.toArray w λe w'=>e=.returned (.tuple #[a,b])/\Below w.heap.size w w' :=
 (h.calls i).mono λe w' ⟨v,k',he,g,hb⟩=>by
  simp only[Rd,B8]at g;obtain ⟨cs,rfl,_,_,rfl,rfl,_,_,rfl,rfl,rfl⟩:=g;exact⟨he,hb⟩
theorem Spec.of_calls2{P:Program}{f:FuncId}{A:List SV}{H:It}{a b:Value}(h:∀(k:Ka) (w:World) (vs:List Value),Inv k w->B8 k w A vs->H.ok k w->Calls P f vs.toArray w λe w'=>e=.returned (.tuple #[a,b])/\Below w.heap.size w w'):Spec P f A H (.tup [.val a,.val b]) H:=by
 intro k w vs hi _ l j;refine(h k w vs hi l j).mono λe w' i=>?_
 obtain ⟨o,i⟩:=i;have g:Kb w w':=⟨i.os,i.tape,i.output,i.size,i.block⟩
 have st:=Aec hi g;exact⟨.tuple #[a,b],k,o,(bG.refl k w).step st.2 st.1,st.2,by simp[Rd,B8],λp hp=>B3.step st.1 qx p.2 (j p hp)⟩
def Ajn{w w':World}(h:Below w.heap.size w w'):KeepsOthers w w':=⟨h.size,λk o g _=>(h.block k (wQ.1 g).1).trans g⟩
def Akt{A B:World}{row:Option Nat}{k:Nat}{v:Value}(h:A.cell? ⟨k,0,none⟩=some v)(g:A.grownBy B row)(i:row≠some k):B.cell? ⟨k,0,none⟩=some v/\B.frozen? ⟨k,0,none⟩=A.frozen? ⟨k,0,none⟩:=by
 obtain ⟨o,j,_⟩:=cells_of_cell h;obtain ⟨_,_,_,_,l⟩:=g;have e:B.heap[k]? = A.heap[k]?:=l k (wQ.1 j).1 (λe=>i e.symm);refine⟨(World.cell?_of_block e).trans h,?_⟩;unfold World.frozen?;rw[e]
def Oi(W:World)(k:Nat)(v:Value):Prop:=W.cell? ⟨k,0,none⟩=some v/\W.frozen? ⟨k,0,none⟩=false
theorem Oi.at{W:World}{B:Nat}{v:Value}{t:TypeId}(h:W.heap[B]? = some (.cells #[v] t (0,0))):Oi W B v:=by
 constructor<;>simp[World.cell?,World.frozen?,h]
theorem Oi.below{A B:World}{k:Nat}{v:Value}(h:Oi A k v)(g:Below A.heap.size A B):Oi B k v:=by
 obtain ⟨o,i,_⟩:=cells_of_cell h.1;have e:B.heap[k]? = A.heap[k]?:=g.block k (wQ.1 i).1;refine⟨(World.cell?_of_block e).trans h.1,?_⟩;rw[<-h.2];unfold World.frozen?;rw[e]
theorem Oi.new(W:World)(v:Value)(t:TypeId){k:Nat}(g:k=W.heap.size):Oi (W.alloc (.cells #[v] t)) k v:=by
 subst g;exact Oi.at (World.alloc_heap_new W _)
theorem Oi.grown{A B:World}{row:Option Nat}{k:Nat}{v:Value}(h:Oi A k v)(g:A.grownBy B row)(i:row≠some k):Oi B k v :=
 ⟨(Akt h.1 g i).1,(Akt h.1 g i).2.trans h.2⟩
theorem Oi.alloc{A:World}{k:Nat}{v:Value}(h:Oi A k v)(o:Obj):Oi (A.alloc o) k v:=h.grown (World.grownBy_alloc A o none) qx
theorem Oi.set{A:World}{k:Nat}{v:Value}(h:Oi A k v)(u:Value):Oi (A.setCell ⟨k,0,none⟩ u) k u :=
 ⟨World.cell?_setCell_same' _ _ _ (by rw[h.1];rfl),by rw[World.frozen?_setCell];exact h.2⟩
theorem Oi.other{A:World}{k b:Nat}{v:Value}(h:Oi A k v)(g:b≠k)(u:Value):Oi (A.setCell ⟨b,0,none⟩ u) k v :=
 ⟨(World.cell?_setCell_other _ _ _ _ (by intro e;cases e;exact g rfl)).trans h.1,by rw[World.frozen?_setCell];exact h.2⟩
end Go.Sy
namespace Go.Proofs
open Go.RowKit Go.Shelf Go.Sy Go.Sy.Zaa
attribute [local go_sem] Oper.semAt_some
theorem Tryz.splitSeq_calls(s:ByteArray)(w:World):Calls Tryz.prog 216 #[.string s,.string ⟨#[46]⟩] w λe w'=>
  e=.returned (.func (.func 339) #[] #[.pointer (some ⟨w.heap.size+1,0,none⟩),.pointer (some ⟨w.heap.size,0,none⟩),.pointer (some ⟨w.heap.size+2,0,none⟩)]) /\
   w'=((w.alloc (.cells #[.string s] 9)).alloc (.cells #[.string ⟨#[46]⟩] 9)).alloc (.cells #[.int .i64 0] 3):=by
 have q:Calls Tryz.prog 272 #[.string s,.string ⟨#[46]⟩,.int .i64 0] w λe w'=>
  e=.returned (.func (.func 339) #[] #[.pointer (some ⟨w.heap.size+1,0,none⟩),.pointer (some ⟨w.heap.size,0,none⟩),.pointer (some ⟨w.heap.size+2,0,none⟩)]) /\
   w'=((w.alloc (.cells #[.string s] 9)).alloc (.cells #[.string ⟨#[46]⟩] 9)).alloc (.cells #[.int .i64 0] 3):=by
  refine(callsIn_wide (n:=3)).1 ?_;refine callsIn_of_wp Tryz.func272 Go.Sy.q_ Go.Sy.z_ ?_ Go.Sy.q_;simp only[Tryz.ntmps272,tC,yI,xG,Nat.reduceAdd,Nat.reduceSub,Array.replicate_succ,Array.replicate_zero,List.push_toArray,List.append_toArray,xO,wF]
  gi_wp2
  go_ret
  exact⟨Go.Sy.q_,Go.Sy.q_⟩
 refine(callsIn_wide (n:=3)).1 ?_;refine callsIn_of_wp Tryz.func216 Go.Sy.q_ Go.Sy.z_ ?_ Go.Sy.q_;simp only[Tryz.ntmps216,tC,yI,xG,Nat.reduceAdd,Nat.reduceSub,Array.replicate_succ,Array.replicate_zero,List.push_toArray,List.append_toArray,xO,wF]
 gi_wp2
 refine⟨Go.Sy.z_,?_⟩;refine(callsIn_wide.2 q).mono ?_;rintro e w' ⟨rfl,rfl⟩
 gi_wp2
 go_ret
 exact⟨Go.Sy.q_,Go.Sy.q_⟩
def Agt:List ByteArray->Int
 |[]=>0
 |l=>l.foldl (λa x=>bits .or .u32 (IntKind.u32.wrap (a*2^8)) (IntKind.u32.wrap (Ul x 255).1)) 0
def A57(x:ByteArray):Bool:=(Ul x 255).2
def H7(s:ByteArray):Int×Bool:=if (Bd 46 s).length=4/\(Bd 46 s).all A57=true then (Agt (Bd 46 s),true) else (0,false)
def Aaz(l:List ByteArray)(x:ByteArray):Agt (l++[x])=bits .or .u32 (IntKind.u32.wrap (Agt l*2^8)) (IntKind.u32.wrap (Ul x 255).1):=by
 cases l with
 |nil=>rfl
 |cons y l=>simp[Agt]
set_option maxRecDepth 100000 in
theorem Tryz.addrRead_calls(s:ByteArray)(i:s.size<100000)(w:World):Calls Tryz.prog 144 #[.string s] w λe w'=>e=.returned (.tuple #[.int .u32 (H7 s).1,.bool (H7 s).2])/\Below w.heap.size w w':=by
 refine(callsIn_wide (n:=5)).1 ?_;refine callsIn_of_wp_marks Tryz.func144 Go.Sy.q_ Go.Sy.z_ ?_ Go.Sy.q_;simp only[Tryz.ntmps144,tC,yI,xG,Nat.reduceAdd,Nat.reduceSub,Array.replicate_succ,Array.replicate_zero,List.push_toArray,List.append_toArray,xO,wF]
 gi_wp2
 refine wpIn_wide.2 (wp_scope_straight ((wpIn_wide (n:=5)).1 ?_))
 gi_wp2
 refine wpIn_label ?_
 gi_wp2
 refine⟨Go.Sy.z_,?_⟩;refine(callsIn_wide.2 (Tryz.splitSeq_calls s _)).mono ?_;rintro e w' ⟨rfl,rfl⟩
 gi_wp2
 obtain ⟨W0,j⟩:=kE (((((w.alloc (.cells #[.int .u32 0] 95)).alloc (.cells #[.int .i64 0] 3)).alloc (.cells #[.string s] 9)).alloc (.cells #[.string ⟨#[46]⟩] 9)).alloc (.cells #[.int .i64 0] 3));have az:W0.heap.size=w.heap.size+5:=by rw[<-j];simp
 have a6:Below w.heap.size w W0:=by
  rw[<-j];exact(((((Below.refl _ w).alloc (yG _) _).alloc qx _).alloc kO _).alloc kO _).alloc kO _
 have ca:Oi W0 w.heap.size (.int .u32 0):=by rw[<-j];exact((((Oi.new _ _ _ rfl).alloc _).alloc _).alloc _).alloc _
 have ci:Oi W0 (w.heap.size+1) (.int .i64 0):=by rw[<-j];exact(((Oi.new (w.alloc _) _ _ qx).alloc _).alloc _).alloc _
 have cs:Oi W0 (w.heap.size+2) (.string s):=by rw[<-j];exact((Oi.new ((w.alloc _).alloc _) _ _ qx).alloc _).alloc _
 have cp:Oi W0 (w.heap.size+3) (.string ⟨#[46]⟩):=by rw[<-j];exact(Oi.new (((w.alloc _).alloc _).alloc _) _ _ qx).alloc _
 have cv:Oi W0 (w.heap.size+4) (.int .i64 0):=by rw[<-j];exact Oi.new ((((w.alloc _).alloc _).alloc _).alloc _) _ _ qx
 have cb:Aa1 W0 (w.heap.size+3) (w.heap.size+2) (w.heap.size+4) s:=⟨cp.1,cs.1,cv.1,cs.2⟩
 rw[j];clear j;have dx:∀{k:Nat} {W:World} {row:Option Nat},k<=w.heap.size+1->(∀r,row=some r->r=w.heap.size+2\/(W0.heap.size<=r/\∃o:Obj,W.heap[r]? = some o/\o.isCells=false))->row≠some k:=λhk g e=>by
  rcases g _ e with h|⟨h,_⟩<;>omega
 have wu:∀{W:World} {row:Option Nat},(∀r,row=some r->r=w.heap.size+2\/(W0.heap.size<=r/\∃o:Obj,W.heap[r]? = some o/\o.isCells=false))->∀r,row=some r->w.heap.size<=r:=λg r e=>by
  rcases g _ e with h|⟨h,_⟩<;>omega
 refine lB Go.Sy.q_ Go.Sy.j_ (gf:=339) (lb:=#[.pointer (some ⟨w.heap.size+3,0,none⟩),.pointer (some ⟨w.heap.size+2,0,none⟩),.pointer (some ⟨w.heap.size+4,0,none⟩)]) Go.Sy.q_ Go.Sy.z_ (enters_of Tryz.func339 Go.Sy.y_ Go.Sy.q_)
  (Tryz.split_stops s i 4 Go.Sy.j_ (w.heap.size+3) (w.heap.size+2) (w.heap.size+4) ⟨by omega,by omega⟩ W0 cb Go.Sy.j_) (λb t=>by omega)
  (λh k=>⟨k.1.trans h.1,k.2.1.trans h.2.1,k.2.2.trans h.2.2⟩)
  (λW l o o' hl _ _ _=>⟨World.putObj_heap_other Go.Sy.j_,World.putObj_heap_other Go.Sy.j_,World.putObj_heap_other Go.Sy.j_⟩) (Below.refl _ _) (λ_=>rfl)
  (λpre W=>Oi W w.heap.size (.int .u32 (Agt pre))/\Oi W (w.heap.size+1) (.int .i64 pre.length)/\(pre.length<=4/\pre.all A57=true)/\Below w.heap.size w W/\w.heap.size+5<=W.heap.size)
  (λc pre W=>c=.exit 0/\Oi W (w.heap.size+1) (.int .i64 0)/\¬(pre.length<=4/\pre.all A57=true)/\Below w.heap.size w W)
  (λpre A B row i R g=>⟨i.1.grown R (dx Go.Sy.j_ g),i.2.1.grown R (dx Go.Sy.j_ g),i.2.2.1,i.2.2.2.1.grown R i.2.2.2.1.size (wu g),wI i.2.2.2.2 R.size⟩)
  (λc pre A B row i R g=>⟨i.1,i.2.1.grown R (dx Go.Sy.j_ g),i.2.2.1,i.2.2.2.grown R i.2.2.2.size (wu g)⟩)
  ⟨ca,ci,⟨by simp,rfl⟩,a6,by omega⟩
  (λ x=>{ tmps:=#[.string s,undef,.int .u32 0,.bool false,.pointer (some ⟨w.heap.size,0,none⟩),.pointer (some ⟨w.heap.size+1,0,none⟩),.string x,undef,undef,.string s,
   .func (.func 339) #[] #[.pointer (some ⟨w.heap.size+3,0,none⟩),.pointer (some ⟨w.heap.size+2,0,none⟩),.pointer (some ⟨w.heap.size+4,0,none⟩)],.string x,
   undef,undef,undef,undef,undef,undef,undef,undef,undef,undef,undef,undef,undef,undef,undef,undef,undef,undef,undef,undef,undef],defers:=[] }) ?assign ?body ?done ?stop
 case assign=>
  intro l x W K I
  gi_wp2
  exact I
 case body=>
  rintro l pre x W ⟨ha,hi,⟨eh,fy⟩,hB,a7⟩ _;have q:=(Ak8 x 255).calls_tup2 (w:=W) (vs:=[.string x,.int .i64 255]) (by simp only[B8];exact⟨_,_,rfl,by simp[Rd,Ap],_,_,rfl,by simp[Rd,Aa],rfl⟩);have gp:=Aaz pre x;have m7:((pre++[x]).all A57)=A57 x:=by rw[List.all_append,fy];simp
  have jf:(pre++[x]).length=pre.length+1:=by simp
  have a0:A57 x=(Ul x 255).2:=rfl;generalize Ul x 255=sm at *;obtain ⟨v,ok⟩:=sm;dsimp only at gp a0 q
  gi_wp2
  refine⟨Go.Sy.z_,?_⟩;refine(CallsIn.inRound l (callsIn_wide.2 q)).mono ?_;rintro e w' ⟨rfl,t⟩;have a3:=ha.below t;have hi':=hi.below t;have a4:Below w.heap.size w w':=hB.trans (t.mono hB.size);have dg:=Ajn t;have a1:=a3.1;have a2:=a3.2;have b1:=hi'.1;have b2:=hi'.2;have s1:∀(u v:Value),Below w.heap.size w ((w'.setCell ⟨w.heap.size+1,0,none⟩ u).setCell ⟨w.heap.size+1,0,none⟩ v):=λu v=>
   (a4.setCell (p:=⟨w.heap.size+1,0,none⟩) (tF _) u).setCell (p:=⟨w.heap.size+1,0,none⟩) (tF _) v
  cases ok
  .gi_wp2
   exact⟨dg.trans ((KeepsOthers.setCell _ _ _).trans (KeepsOthers.setCell _ _ _)),rfl,(hi'.set _).set _,(λe=>by rw[m7,a0]at e;cases e.2),s1 _ _⟩
  .by_cases h4:pre.length+1<=4
   .have a5:Agt (pre++[x])=bits .or .u32 (Agt pre*256%4294967296) (v%4294967296):=by rw[gp,IntKind.wrap_u32,IntKind.wrap_u32];rfl
    gi_wp2
    refine⟨dg.trans ((KeepsOthers.setCell _ _ _).trans (KeepsOthers.setCell _ _ _)),⟨?_,?_,?_⟩,?_,?_,⟨by omega,by rw[m7,a0]⟩,?_,?_⟩
    .rw[Below.heap_setCell _ _ _ _ qx,Below.heap_setCell _ _ _ _ qx];exact t.block _ Go.Sy.j_
    .rw[Below.heap_setCell _ _ _ _ qx,Below.heap_setCell _ _ _ _ qx];exact t.block _ Go.Sy.j_
    .rw[Below.heap_setCell _ _ _ _ qx,Below.heap_setCell _ _ _ _ qx];exact t.block _ Go.Sy.j_
    .rw[a5];exact(a3.other qx _).set _
    .rw[jf];exact(hi'.set _).other qx _
    .exact(a4.setCell (p:=⟨w.heap.size+1,0,none⟩) (tF _) _).setCell (p:=⟨w.heap.size,0,none⟩) (yG _) _
    .have:=t.size;simp;omega
   .gi_wp2
    exact⟨dg.trans ((KeepsOthers.setCell _ _ _).trans (KeepsOthers.setCell _ _ _)),Go.Sy.q_,(hi'.set _).set _,λe=>by omega,s1 _ _⟩
 case done=>
  rintro D xs W hD rfl ⟨ha,hi,⟨eh,fy⟩,hB,_⟩ I;have a1:=ha.1;have a2:=ha.2;have b1:=hi.1;have b2:=hi.2;by_cases h4:(Bd 46 s).length=4
  .have g:H7 s=(Agt (Bd 46 s),true):=by rw[H7,zE ⟨h4,fy⟩]
   gi_wp2
   refine⟨by simp,.inl ⟨_,_,Go.Sy.q_,run_takeDeferred I,?_⟩⟩;exact⟨_,results_tmp2 Go.Sy.q_ _ _ _,by rw[g];rfl,hB.trans (belowK_b (w:=w) (yG _) W D _ _ Go.Sy.j_ I Go.Sy.q_ Go.Sy.q_)⟩
  .have g:H7 s=(0,false):=by rw[H7,zD (λe=>h4 e.1)]
   gi_wp2
   refine⟨by simp,.inl ⟨_,_,Go.Sy.q_,run_takeDeferred I,?_⟩⟩;exact⟨_,results_tmp2 Go.Sy.q_ _ _ _,by rw[g];rfl,hB.trans (belowK_b (w:=w) (yG _) W D _ _ Go.Sy.j_ I Go.Sy.q_ Go.Sy.q_)⟩
 case stop=>
  rintro D c pre W hD J ⟨rfl,hi,ew,hB⟩ I;have b1:=hi.1;have b2:=hi.2;have g:H7 s=(0,false):=by
   rw[H7,zD];intro e;refine ew ⟨by have:=J.length_le;omega,?_⟩;rw[yX]at e|-;exact λx hx=>e.2 x (J.subset hx)
  gi_wp2
  refine⟨by simp,.inl ⟨_,_,Go.Sy.q_,run_takeDeferred I,?_⟩⟩;exact⟨_,results_tmp2 Go.Sy.q_ _ _ _,by rw[g];rfl,hB.trans (belowK_b (w:=w) (yG _) W D _ _ Go.Sy.j_ I Go.Sy.q_ Go.Sy.q_)⟩
end Go.Proofs
namespace Go.Sy.Zaa
open Go.Proofs Go.Proofs.Tryz
section
def Ae6(s:ByteArray)(j:s.size<100000):Sp 144 [Ap s] (.tup [Bo (H7 s).1,Ab (H7 s).2]) :=
 Spec.of_calls2 λk w vs _ g _=>by
  simp only[B8]at g;obtain ⟨v,r,rfl,i,rfl⟩:=g;simp only[Ap,Rd]at i;subst i;exact Tryz.addrRead_calls s j w
attribute [local irreducible]G DR
set_option maxRecDepth 100000
def V6(a bits:Int):SV:=.agg [Bo a,Aa bits]
def Ak9(a bits:Int):Sp 275 [V6 a bits] (Ab (decide (0<=bits/\bits<=32))):=cT F275 ntmps275 λF g=>by
 conv=>whnf
 (repeat' (first|(refine⟨λh=>?_,λh=>?_⟩<;>(repeat (first|simp only[zK]at h|simp only[yC]at h))<;>((refine oO ?_)))|(refine Av rfl As ?_ rfl)))
 all_goals (refine zH Ab ?_;clear g;grind)
def Ao8(a bits:Int)(h:0<=bits/\bits<=32):Sp 276 [V6 a bits] (Bo (2^(32-bits).toNat-1)):=cT F276 ntmps276 λF l=>by
 conv=>whnf
 refine iW ?_;refine⟨by omega,?_⟩
 conv=>whnf
 refine Av q_ As ?_ q_;refine zH (λz=>SV.val (.int .u32 z)) ?_;obtain ⟨k,g,i⟩:∃k:Nat,(32-bits).toNat=k/\k<=32:=⟨_,rfl,by omega⟩
 have j:min (32-bits).toNat IntKind.u32.bits=k:=by show min (32-bits).toNat 32=k;omega
 rw[j,g,IntKind.wrap_u32,IntKind.wrap_u32];have o:(2:Int)^k<=4294967296:=by
  have:=vC (n:=2) qq i;rw[show (2:Int)^k=((2^k:Nat):Int) by rw[tB];rfl];have e:(2:Nat)^32=4294967296:=rfl;rw[e]at this;omega
 have p:(1:Int)<=2^k:=by
  have:=vF (n:=k);rw[show (2:Int)^k=((2^k:Nat):Int) by rw[tB];rfl];omega
 generalize (2:Int)^k=q at *;omega
def Ak2(a k:Nat)(g:a<4294967296)(o:k<=32):bits .andNot .u32 (a:Int) ((2^k-1:Nat):Int)=((a-a%2^k:Nat):Int):=by
 have hp:=vC (n:=2) qq o;have j:(2:Nat)^32=4294967296:=rfl;rw[j]at hp;have h1:=vF (n:=k);have p:(BitVec.ofInt 32 (a:Int)).toNat=a:=by rw[BitVec.ofInt_natCast,BitVec.toNat_ofNat];exact xN j_
 have r:(BitVec.ofInt 32 ((2^k-1:Nat):Int)).toNat=2^k-1:=by rw[BitVec.ofInt_natCast,BitVec.toNat_ofNat];exact xN j_
 have key:(BitVec.ofInt 32 (a:Int) &&& ~~~ BitVec.ofInt 32 ((2^k-1:Nat):Int)).toNat=a-a%2^k:=by
  have t:a-a%2^k=2^k*(a/2^k):=by have:=uI a (2^k);omega
  rw[t];refine Nat.eq_of_testBit_eq λi=>?_
  rw[BitVec.testBit_toNat,BitVec.getLsbD_and,BitVec.getLsbD_not,<-BitVec.testBit_toNat,<-BitVec.testBit_toNat,p,r,Nat.testBit_two_pow_sub_one,Nat.testBit_two_pow_mul,Nat.testBit_div_two_pow];by_cases hi:i<k
  .have:¬i>=k:=by omega
   simp[hi,this]
  .have I:i>=k:=by omega
   have l:i-k+k=i:=by omega
   by_cases J:i<32
   .simp[hi,I,J,l]
   .have R:a.testBit i=false:=Nat.testBit_lt_two_pow (xB (by rw[<-j]at g;exact g) (vC qq j_));rw[l,R];simp
 show IntKind.u32.wrap (((BitVec.ofInt 32 (a:Int) &&& ~~~ BitVec.ofInt 32 ((2^k-1:Nat):Int)).toNat:Nat):Int)=_;rw[key,IntKind.wrap_u32];omega
def Th(a k:Nat)(bits:Int)(h:0<=bits/\bits<=32)(g:(32-bits).toNat=k):I0 a bits=((a-a%2^k:Nat):Int):=by
 rw[I0,zE h,g];have i:=Nat.mod_le a (2^k);rw[show (2:Int)^k=((2^k:Nat):Int) by rw[tB];rfl];omega
def Alb(a:Nat)(bits:Int)(p:a<4294967296):Sp 220 [V6 a bits] (Bo (I0 a bits)):=cT F220 ntmps220 λF J=>by
 have i:=Ak9 a bits;by_cases g:0<=bits/\bits<=32
 .have j:=Ao8 a bits g;rw[zL g]at i;obtain ⟨k,o,r⟩:∃k:Nat,(32-bits).toNat=k/\k<=32:=⟨_,rfl,by omega⟩
  have t:=Ak2 a k p r;have l:=Th a k bits g o;have R:=vF (n:=k);have I:(2:Int)^k-1=((2^k-1:Nat):Int):=by
   rw[show (2:Int)^k=((2^k:Nat):Int) by rw[tB];rfl];omega
  rw[o,I]at j;rw[l,<-t];refine gQ i F275 ?_;refine fU ?_
  first|refine cD j F276 ?_|refine c0 j F276 ?_
  refine fU ?_
  first|(refine⟨y_,?_⟩;(refine fW ?_))|skip
  exact dN
 .rw[zJ g]at i;have l:I0 a bits=0:=by rw[I0,zD g]
  rw[l];refine gQ i F275 ?_;exact gC
def Lq(a bits:Int):Int:=if 0<=bits/\bits<=32 then I0 a bits+2^(32-bits).toNat-1 else 0
def or_low(a k:Nat)(R:a<4294967296)(g:k<=32):bits .or .u32 (a:Int) ((2^k-1:Nat):Int)=((a-a%2^k+(2^k-1):Nat):Int):=by
 have hp:=vC (n:=2) qq g;have j:(2:Nat)^32=4294967296:=rfl;rw[j]at hp;have h1:=vF (n:=k);have l:(BitVec.ofInt 32 (a:Int)).toNat=a:=by rw[BitVec.ofInt_natCast,BitVec.toNat_ofNat];exact xN j_
 have o:(BitVec.ofInt 32 ((2^k-1:Nat):Int)).toNat=2^k-1:=by rw[BitVec.ofInt_natCast,BitVec.toNat_ofNat];exact xN j_
 have p:a-a%2^k=2^k*(a/2^k):=by have:=uI a (2^k);omega
 have r:=xX (i:=k) (b:=2^k-1) j_ (a/2^k);have key:(BitVec.ofInt 32 (a:Int)|||BitVec.ofInt 32 ((2^k-1:Nat):Int)).toNat=a-a%2^k+(2^k-1):=by
  rw[p,r];refine Nat.eq_of_testBit_eq λi=>?_
  rw[BitVec.testBit_toNat,BitVec.getLsbD_or,<-BitVec.testBit_toNat,<-BitVec.testBit_toNat,l,o,Nat.testBit_or,Nat.testBit_two_pow_sub_one,Nat.testBit_two_pow_mul,Nat.testBit_div_two_pow];by_cases hi:i<k
  .simp[hi]
  .have t:i>=k:=by omega
   have I:i-k+k=i:=by omega
   simp[hi,t,I]
 show IntKind.u32.wrap (((BitVec.ofInt 32 (a:Int)|||BitVec.ofInt 32 ((2^k-1:Nat):Int)).toNat:Nat):Int)=_;have J:(BitVec.ofInt 32 (a:Int)|||BitVec.ofInt 32 ((2^k-1:Nat):Int)).toNat<4294967296:=BitVec.isLt _;rw[key]at J;rw[key,IntKind.wrap_u32];omega
def Aev(a k:Nat)(bits:Int)(h:0<=bits/\bits<=32)(g:(32-bits).toNat=k):Lq a bits=((a-a%2^k+(2^k-1):Nat):Int):=by
 rw[Lq,zE h,g,Th a k bits h g];have i:=vF (n:=k);rw[show (2:Int)^k=((2^k:Nat):Int) by rw[tB];rfl];omega
def Ae7(a:Nat)(bits:Int)(p:a<4294967296):Sp 221 [V6 a bits] (Bo (Lq a bits)):=cT F221 ntmps221 λF J=>by
 have i:=Ak9 a bits;by_cases g:0<=bits/\bits<=32
 .have j:=Ao8 a bits g;rw[zL g]at i;obtain ⟨k,o,r⟩:∃k:Nat,(32-bits).toNat=k/\k<=32:=⟨_,rfl,by omega⟩
  have t:=or_low a k p r;have l:=Aev a k bits g o;have R:=vF (n:=k);have I:(2:Int)^k-1=((2^k-1:Nat):Int):=by
   rw[show (2:Int)^k=((2^k:Nat):Int) by rw[tB];rfl];omega
  rw[o,I]at j;rw[l,<-t];refine gQ i F275 ?_;refine fU ?_
  first|refine cD j F276 ?_|refine c0 j F276 ?_
  refine fU ?_
  first|(refine⟨y_,?_⟩;(refine fW ?_))|skip
  exact dN
 .rw[zJ g]at i;have l:Lq a bits=0:=by rw[Lq,zD g]
  rw[l];refine gQ i F275 ?_;exact gC
def Bd0(a b:Nat)(l:a<4294967296)(o:b<4294967296):bits .xor .u32 (a:Int) (b:Int)=((a^^^b:Nat):Int):=by
 have g:(BitVec.ofInt 32 (a:Int)).toNat=a:=by rw[BitVec.ofInt_natCast,BitVec.toNat_ofNat];exact xN j_
 have i:(BitVec.ofInt 32 (b:Int)).toNat=b:=by rw[BitVec.ofInt_natCast,BitVec.toNat_ofNat];exact xN j_
 show IntKind.u32.wrap (((BitVec.ofInt 32 (a:Int)^^^BitVec.ofInt 32 (b:Int)).toNat:Nat):Int)=_;have j:(BitVec.ofInt 32 (a:Int)^^^BitVec.ofInt 32 (b:Int)).toNat<4294967296:=BitVec.isLt _;rw[BitVec.toNat_xor,g,i]at j|-;rw[IntKind.wrap_u32];omega
def Bbf(a x k:Nat)(i:a<4294967296)(j:x<4294967296)(l:k<=32):(bits .andNot .u32 (bits .xor .u32 (a:Int) (x:Int)) ((2^k-1:Nat):Int)==0)=decide (a/2^k=x/2^k):=by
 have g:a^^^x<4294967296:=Nat.xor_lt_two_pow (n:=32) i j;rw[Bd0 a x i j,Ak2 _ k g l];have o:(a^^^x)-(a^^^x)%2^k=2^k*((a^^^x)/2^k):=by have:=uI (a^^^x) (2^k);omega
 rw[o,Nat.xor_div_two_pow];have p:=vF (n:=k);by_cases h:a/2^k=x/2^k
 .rw[h,Nat.xor_self];simp
 .rw[zJ h];have:a / 2 ^ k ^^^ x / 2 ^ k≠0:=λ e=>h (by
   have:=zH (λ z=>z ^^^ x / 2 ^ k) e;simpa [Nat.xor_assoc] using this)
  rw[zU];intro e;have e:=Int.natCast_eq_zero.1 e;rcases Nat.mul_eq_zero.1 e with e|e
  .omega
  .exact this e
def A5b(a x q:Nat)(g:0<q):(a/q=x/q)↔(a-a%q<=x/\x<=a-a%q+(q-1)):=by
 have o:=uI a q;have j:a-a%q=q*(a/q):=by omega
 rw[j];constructor
 .intro e;have i:=uI x q;have l:=tQ x g;rw[<-e]at i;omega
 .rintro ⟨i,l⟩;symm;rw[Nat.div_eq_iff g];generalize a/q=m at *;have:q*m=m*q:=vJ ..;constructor<;>omega
def Eb(n:Ai):Prop:=∀x∈n.r,0<=x.addr/\x.addr<4294967296
set_option maxRecDepth 20000
def e_link{n:Ai}(h:Ac n=true){i:Nat}(hi:i<n.x.length):(0<=n.x[i].a/\n.x[i].a.toNat<n.g.length)/\(0<=n.x[i].b/\n.x[i].b.toNat<n.g.length):=by
 simp only[Ac,zG]at h;have:=Cm.1 h.1.1.1.1.2 i hi;simp only[aU,Am,zG,zK]at this;omega
def Q7{n:Ai}{i:Int}(h:0<=Eg n i):(0<=i/\i.toNat<n.g.length)/\Ac n=true/\(Eg n i).toNat<n.g.length:=by
 unfold Eg at h|-;split at h
 .rename_i g;rw[zE g];have j:i.toNat<n.g.length:=by omega
  have p:Af n.g i=n.g[i.toNat]:=Aj j;rw[p]at g h|-;have l:=Ue g.2.2 j g.2.1;have r:Af n.x n.g[i.toNat].ah=n.x[n.g[i.toNat].ah.toNat]:=Aj l.1;have o:=e_link g.2.2 l.1;rw[r]at h|-;refine⟨by omega,g.2.2,?_⟩;split
  .exact o.2.2
  .exact o.1.2
 .omega
def Xp(n:Ai)(i v:Int):Int:=if v=(Af n.g i).native then (Af n.g (Eg n i)).native else if Li (Af n.g (Eg n i)).u v=true then v else 0
def Mv(n:Ai)(i v:Int):Int×Int×Bool :=
 if 0<=Eg n i/\Hk (Af n.g i) v=true/\Xp n i v≠0 then (Eg n i,Xp n i v,true) else (0,0,false)
def Auy(n:Ai)(J:n.Fin)(i v:Int):Sp 332 [Aq n,Aa i,Aa v] (.tup [Aa (Mv n i v).1,Aa (Mv n i v).2.1,Ab (Mv n i v).2.2]):=cT F332 ntmps332 λF hF=>by
 have q:=Acn n J i;have mz:=Q7 (n:=n) (i:=i);have g:=Mv.eq_1 n i v;unfold Xp at g;generalize Mv n i v=r at *;obtain ⟨far,cx⟩:=kE (Eg n i);rw[cx]at q mz g;refine gQ q F326 ?_;refine gH ?_ ?_<;>intro h
 .have l:far<0:=zO h;rw[zD j_]at g;subst g;exact gC
 have l:0<=far:=qB h;obtain ⟨⟨dq,I⟩,hb,R⟩:=mz l;have e1:Af n.g i=n.g[i.toNat]:=Aj I;have e2:Af n.g far=n.g[far.toNat]:=Aj R;rw[e1,e2]at g;have t:=J.u _ (zI I);have oc:=J.u _ (zI R);obtain ⟨p,hp⟩:=kE (n.g[i.toNat]);obtain ⟨o,ho⟩:=kE (n.g[far.toNat]);rw[hp]at g t;rw[ho]at g oc;have yq:=Aci p v t;have mj:=Ij o.u v oc;refine Bi 3 8 (Aq n) q_ q_ q_ (fU ?_);refine⟨q_,dq,I,?_⟩;rw[hp];refine gQ yq F185 ?_;cases bx:Hk p v
 .rw[zD (by simp[bx])]at g;subst g;exact gC
 refine fU ?_;refine⟨q_,l,R,?_⟩;rw[ho];refine fW ?_;refine⟨q_,dq,I,?_⟩;rw[hp];refine gR ?_ ?_<;>intro h
 .have h2:v=p.native:=by simpa using h
  rw[zE h2]at g;refine gH ?_ ?_<;>intro h
  .have j:o.native=0:=by simpa using h
   rw[zD (λhh=>hh.2.2 j)]at g;subst g;exact gC
  .have j:o.native≠0:=by simpa using h
   rw[zE ⟨l,bx,j⟩]at g;subst g;exact gC
 have h2:¬v=p.native:=kS h;rw[zD h2]at g;refine gL mj F114 ?_;cases br:Li o.u v
 .rw[br,zD qx]at g;subst g;exact gC
 rw[br,zE rfl]at g;refine gH ?_ ?_<;>intro h
 .have j:v=0:=by simpa using h
  rw[zD (λhh=>hh.2.2 j)]at g;subst g;exact gC
 .have j:v≠0:=by simpa using h
  rw[zE ⟨l,bx,j⟩]at g;subst g;exact gC
def Ef(n:Ai)(i v:Int):Int×Bool:=if (Mv n i v).2.2=true then (D2 n (Af n.g (Mv n i v).1).q (Mv n i v).2.1,true) else (0,false)
def Adf{n:Ai}{i v:Int}(h:(Mv n i v).2.2=true):0<=(Mv n i v).1/\(Mv n i v).1.toNat<n.g.length:=by
 unfold Mv at h|-;split at h
 .rename_i g;rw[zE g];exact⟨g.1,(Q7 g.1).2.2⟩
 .cases h
def Aco(n:Ai)(l:n.Fin)(i v:Int):Sp 263 [Aq n,Aa i,Aa v] (.tup [Aa (Ef n i v).1,Ab (Ef n i v).2]):=cT F263 ntmps263 λF hF=>by
 have q:=Auy n l i v;have t:=Adf (n:=n) (i:=i) (v:=v);have g:=Ef.eq_1 n i v;generalize Ef n i v=r at *;generalize Mv n i v=x at *;obtain ⟨far,I,ok⟩:=x;refine gQ q F332 ?_;cases ok
 .rw[zD qx]at g;subst g;exact gC
 rw[zE rfl]at g;have j:=t rfl;dsimp only at j g;have J:Af n.g far=n.g[far.toNat]:=Aj j.2;rw[J]at g;obtain ⟨o,p⟩:=kE (n.g[far.toNat]'j.2);rw[p]at g;have R:=Q8 n l o.q I;subst g;refine Bi 3 8 (Aq n) q_ q_ q_ (fU ?_);refine⟨q_,j.1,j.2,?_⟩;rw[p];refine fW ?_;refine cD R F195 (fU ?_);refine⟨y_,?_⟩;refine fW ?_;exact dN
def Wi:=iD Aa 1 F392 ntmps392
def Adh(l:List Int)(p:Int->Bool)(f:FuncId)(first cap:List SV)(g:(SV.clo (.func f) first cap).inn []=true)(i:∀x∈l,J3 prog f (first++[Aa x]++cap) (Ab (p x)))(j:At l):Sp 436 [.sl 1 Aa l,.clo (.func f) first cap] (Ab (decide (0<=Bt p l))):=cT F436 ntmps436 λF r=>by
 have o:C7 [] [.sl 1 Aa l,.clo (.func f) first cap]=true:=by simp only[C7,g];rfl
 conv=>whnf
 exact U3 (Wi l p f first cap g i j) F392 q_ q_ (by simp only[o];rfl) q_ q_ gM
theorem iA{A0:Type}(v0:A0->SV)(g:Nat){f0 m0:Nat}{r:Func}(F0:fT f0 r)(J:r.ntmps=m0)(h:let A0:Type:=A0;let v0:A0->SV:=v0;let g:=g;fT f0 r->r.ntmps=m0->∀ (l:List A0) (p:A0->Bool) (f:FuncId) (first cap:List SV) (o:(SV.clo (.func f) first cap).inn []=true) (R:∀ x∈l,J3 prog f (first++[v0 x]++cap) (Ab (p x))) (hl:At l),Sp f0 [.sl g v0 l,.clo (.func f) first cap] (Aa (Bt p l)):=by
 intro A0 v0 g F0 J l p f first cap o R hl
 refine cT F0 J λF hF=>?_
 unfold At at hl;have br:∀x:A0,C7 [] (first++[v0 x]++cap)=true:=λx=>El o rfl
 refine fW ?_;refine Bb l.length (λj=>Ic (λ_ x=>!(p x)) l j) (λj=>[(0,.sl g v0 l),(1,.clo (.func f) first cap),(7,Aa l.length),(8,Aa j)]) (λ_=>[]) [] (Bn _ _) ⟨⟨q_,q_,Br _,o,q_,q_,q_,q_,z_⟩,z_,q_,q_⟩ ?_;intro j hj t;refine gH ?_ ?_<;>intro h
 .have h:=zO h;have I:j<l.length:=by omega
  refine fU ?_;refine⟨q_,by omega,by omega,?_⟩;refine fW ?_;refine Is (R l[j] (zI I)) q_ q_ q_ (by simp only[br];rfl) q_ q_ ?_;refine fU ?_;constructor<;>intro h2
  .refine fU ?_;refine Av q_ As (zH Aa ?_) q_;exact Dz I (λi hi df=>kS (t i hi df)) h2
  .refine gE ?_;exact A6 [] t I (Bk t I (by simp[h2])) ⟨⟨q_,q_,Br _,o,q_,q_,q_,q_,z_⟩,z_,q_,q_⟩
 .have h:=zQ h;refine fU ?_;refine Av q_ As (zH Aa ?_) q_;exact Ez (λ i hi=>kS (t i hi j_))):∀ (l:List A0) (p:A0->Bool) (f:FuncId) (first cap:List SV) (o:(SV.clo (.func f) first cap).inn []=true) (R:∀ x∈l,J3 prog f (first++[v0 x]++cap) (Ab (p x))) (hl:At l),Sp f0 [.sl g v0 l,.clo (.func f) first cap] (Aa (Bt p l)):=h F0 J
def Ajw:=iA Dx 5 F394 ntmps394
def Sn(l:List Irb)(p:Irb->Bool)(f:FuncId)(first cap:List SV)(g:(SV.clo (.func f) first cap).inn []=true)(i:∀x∈l,J3 prog f (first++[Dx x]++cap) (Ab (p x)))(j:At l):Sp 334 [.sl 5 Dx l,.clo (.func f) first cap] (Ab (decide (0<=Bt p l))):=cT F334 ntmps334 λF r=>by
 have o:C7 [] [.sl 5 Dx l,.clo (.func f) first cap]=true:=by simp only[C7,g];rfl
 refine fW ?_;exact U3 (Ajw l p f first cap g i j) F394 q_ q_ (by simp only[o];rfl) q_ q_ gC
def Bd2(v:Vrf)(g:At v.ak)(t:Int):Sp 435 [Aa t,.ref 5 (D5 v) 0] (Ab (Li v.ak t)):=cT F435 ntmps435 λF i=>by
 have q:=Ij v.ak t g
 conv=>whnf
 refine gF q F114 ?_;exact dN
def A0j(n:Ai)(i k:Int):Bool:=i==k||(Af n.ag i).q==(Af n.ag k).q&&decide (0<=Bt (Li (Af n.ag k).ak) (Af n.ag i).am)
def Axq(n:Ai)(p:n.Fin)(J:Ac n=true)(i k:Int)(hi:0<=i/\i.toNat<n.ag.length)(g:0<=k/\k.toNat<n.ag.length):Sp 416 [Aq n,Aa i,Aa k] (Ab (A0j n i k)):=cT F416 ntmps416 λF R=>by
 have r:=A7 n p;rw[J]at r;have j:=p.ak _ (zI g.2);have l:=p.am _ (zI hi.2);rw[A0j,Aj hi.2,Aj g.2];obtain ⟨a,I⟩:=kE (n.ag[i.toNat]'hi.2);obtain ⟨b,o⟩:=kE (n.ag[k.toNat]'g.2);rw[I]at l|-;rw[o]at j|-;have q:=Adh a.am (Li b.ak) 435 [] [.ref 5 (D5 b) 0] rfl (λt _=>⟨⟨_,_,F435⟩,Bd2 b j t⟩) l
 conv=>whnf
 refine⟨λh=>zW (zO h) j_,λ_=>?_⟩;refine oO ?_;refine⟨λh=>zW (zO h) j_,λ_=>?_⟩;refine oO ?_;refine⟨λh=>zW (zO h) j_,λ_=>?_⟩;refine oO ?_;refine⟨λh=>zW (zO h) j_,λ_=>?_⟩;refine oO ?_;refine c0 r F49 (oF ?_);refine⟨q_,hi.1,hi.2,?_⟩;rw[I]
 conv=>whnf
 refine⟨q_,g.1,g.2,?_⟩;rw[o]
 conv=>whnf
 refine kW ?_;constructor<;>intro h
 .rw[h,wT];exact gM
 rw[h,vI];refine gI ?_ ?_<;>intro h
 .rw[h,yB];refine Bi 8 5 (D5 b) q_ q_ q_ (oO ?_);refine gF q F436 ?_;exact dN
 .rw[h,yE];exact gM
def Sc(n:Ai)(i:Int):Int:=(Af n.c (Af n.r i).l).q
def Bcr{n:Ai}(h:Ac n=true){i:Nat}(hi:i<n.r.length):Ajq n i n.r[i]=true:=by
 simp only[Ac,zG]at h;exact Cm.1 h.2 i hi
def E1{n:Ai}(h:Ac n=true){i:Nat}(hi:i<n.r.length):(0<=n.r[i].l/\n.r[i].l.toNat<n.c.length)/\(0<=n.r[i].bb/\n.r[i].bb.toNat<n.ag.length)/\(0<=n.r[i].bits/\n.r[i].bits<=32):=by
 have:=Bcr h hi;simp only[Ajq,Am,zG,zK]at this;omega
def Va(n:Ai)(o:Ac n=true)(i:Int)(hi:0<=i/\i.toNat<n.r.length):Sp 377 [Aq n,Aa i] (Aa (Sc n i)):=cT F377 ntmps377 λF p=>by
 have g:=(E1 o hi.2).1;rw[Sc,Aj hi.2];obtain ⟨x,j⟩:=kE (n.r[i.toNat]'hi.2);rw[j]at g|-;rw[Aj g.2];obtain ⟨d,l⟩:=kE (n.c[x.l.toNat]'g.2);rw[l]
 conv=>whnf
 refine⟨q_,hi.1,hi.2,?_⟩;rw[j]
 conv=>whnf
 refine⟨q_,g.1,g.2,?_⟩;rw[l]
 conv=>whnf
 refine kW ?_;exact dN
def Am6(n:Ai)(i k:Int):Bool:=Sc n i==Sc n k&&A0j n (Af n.r k).bb (Af n.r i).bb
def Ay3(n:Ai)(r:n.Fin)(j:Ac n=true)(i k:Int)(hi:0<=i/\i.toNat<n.r.length)(g:0<=k/\k.toNat<n.r.length):Sp 379 [Aq n,Aa i,Aa k] (Ab (Am6 n i k)):=cT F379 ntmps379 λF J=>by
 have t:=Va n j i hi;have I:=Va n j k g;have f1:=(E1 j hi.2).2.1;have f2:=(E1 j g.2).2.1;have p:=Axq n r j _ _ f2 f1;rw[Am6,Aj hi.2,Aj g.2];obtain ⟨x,l⟩:=kE (n.r[i.toNat]'hi.2);obtain ⟨y,o⟩:=kE (n.r[k.toNat]'g.2);rw[l,o]at p;rw[l,o];generalize Sc n i=R at *;generalize Sc n k=dk at *
 conv=>whnf
 refine cD t F377 (oD ?_);refine cD I F377 (oD ?_);constructor<;>intro h
 .rw[h,yB];refine oD ?_;refine⟨q_,g.1,g.2,?_⟩;rw[o]
  conv=>whnf
  refine⟨q_,hi.1,hi.2,?_⟩;rw[l]
  conv=>whnf
  refine cD p F416 (gO ?_);exact dN
 .rw[h,yE];refine gO ?_;exact dN
abbrev A22(a b:Int):SV:=.agg [Bo a,Aa b]
def A50(a b:Int)(h:0<=b/\b<=32):Sp 275 [A22 a b] (Ab true):=cT F275 ntmps275 λF i=>by
 conv=>whnf
 refine⟨λ_=>?_,λg=>zW (zQ g) j_⟩;refine oO ?_;refine Av q_ As (zH Ab ?_) q_;simp;omega
def Ath(b:Int):Int:=IntKind.u32.wrap (IntKind.u32.wrap (1*2^(min (32-b).toNat IntKind.u32.bits))-1)
def Bai(a b:Int)(h:0<=b/\b<=32):Sp 276 [A22 a b] (Bo (Ath b)):=cT F276 ntmps276 λF g=>by
 conv=>whnf
 refine iW ?_;refine⟨by omega,?_⟩
 conv=>whnf
 exact dN
def Al9(a b x:Int):Bool:=bits .andNot .u32 (bits .xor .u32 a x) (Ath b)==0
def Ala(a b x:Int)(h:0<=b/\b<=32):Sp 378 [A22 a b,Bo x] (Ab (Al9 a b x)):=cT F378 ntmps378 λF j=>by
 have g:=A50 a b h;have i:=Bai a b h;rw[Al9];generalize Ath b=r at *
 conv=>whnf
 refine cD g F275 ?_
 (refine oD ?_;refine aT ?_;refine oD ?_)
 refine cD i F276 (gO ?_);exact dN
def lF(c:Int->Int->Int)(l:List Int)(j:Nat):Int:=((l.drop 1).take j).foldl (λm x=>if 0<c x m then x else m) (Af l 0)
def Aes(c:Int->Int->Int)(l:List Int)(j:Nat)(h:j+1<l.length):lF c l (j+1)=if 0<c l[j+1] (lF c l j) then l[j+1] else lF c l j:=by
 have g:j<(l.drop 1).length:=by rw[yP];omega
 rw[lF,zZ g,xS];have e:(l.drop 1)[j]=l[j+1]:=by rw[vS];congr 1;omega
 simp only[vG,tN,e];rfl
def cW(c:Int->Int->Int)(l:List Int)(h:0<l.length):∀j,j+1<=l.length->lF c l j∈l
 |0,_=>by
  rw[lF,List.take_zero,tN,Aj (l:=l) (i:=0) (kS h)];exact zI _
 |j+1,g=>by
  rw[Aes c l j j_];split
  .exact zI _
  .exact cW c l h j j_
def Bbe(l:List Int)(c:Int->Int->Int)(f:FuncId)(first cap:List SV)(o:(SV.clo (.func f) first cap).inn []=true)(p:0<l.length)(hl:At l)(hf:∀x∈l,∀y∈l,J3 prog f (first++[Aa x,Aa y]++cap) (Aa (c x y))):Sp 381 [.sl 1 Aa l,.clo (.func f) first cap] (Aa (lF c l (l.length-1))):=cT F381 ntmps381 λF hF=>by
 unfold At at hl;have br:∀x y:Int,C7 [] (first++[Aa x,Aa y]++cap)=true:=λx y=>El o rfl
 have gw:=cW c l p;have af:=Aes c l;have hz:lF c l 0=l[0]:=by rw[lF,List.take_zero,tN,Aj (l:=l) (i:=0) (kS p)];rfl
 generalize lF c l=m at *
 conv=>whnf
 refine⟨λh=>zW (zO h) j_,λ_=>?_⟩;refine oO ?_;refine⟨q_,by omega,kS p,?_⟩
 conv=>whnf
 refine Bl (l.length-1) (λj=>[(0,.sl 1 Aa l),(1,.clo (.func f) first cap),(5,Aa (m j)),(6,Aa ((j:Int)+1))]) (λ_=>[]) []
  ⟨⟨rfl,rfl,Br _,o,zH Aa hz,rfl,rfl,rfl,trivial⟩,trivial,rfl,rfl⟩ ?_
 intro j hj;have s8:=gw j j_;have g:=af j;refine gI ?_ ?_<;>intro h
 .have J:j+1<l.length:=qA h;have g:=g J;have r:((j:Int)+1).toNat<l.length:=by omega
  have t:l[((j:Int)+1).toNat]'r=l[j+1]:=by congr 1
  obtain ⟨x,R⟩:=kE (l[j+1]);have I:x∈l:=R▸zI J;rw[R]at t g;refine oO ?_;refine⟨q_,by omega,r,?_⟩;rw[t]
  conv=>whnf
  refine Is (hf x I (m j) s8) q_ q_ q_ (by simp only[br];rfl) q_ q_ ?_;refine oO ?_;constructor<;>intro h2
  .rw[zE (zO h2)]at g;refine oO ?_;refine⟨q_,by omega,r,?_⟩;rw[t]
   conv=>whnf
   refine iW ?_;exact A9 [] j_ ⟨⟨q_,q_,Br _,o,zH Aa g,q_,zH Aa j_,q_,z_⟩,z_,q_,q_⟩
  .rw[zD (zQ h2)]at g;refine gG ?_;exact A9 [] j_ ⟨⟨q_,q_,Br _,o,zH Aa g,q_,zH Aa j_,q_,z_⟩,z_,q_,q_⟩
 .have:j=l.length-1:=qB h;subst this;exact gM
def Alw(n:Ai)(irb i:Int):Int:=if (Af n.r i).bb=(Af n.r irb).bb then 1 else 0
abbrev Kw(n:Ai)(i:Int):Prop:=0<=i/\i.toNat<n.r.length
def Auv(n:Ai)(irb i:Int)(hi:Kw n i)(g:Kw n irb):Sp 380 [Aa i,.ref 8 (Aq n) 0,.ref 1 (Aa irb) 0] (Aa (Alw n irb i)):=cT F380 ntmps380 λF o=>by
 rw[Alw,Aj hi.2,Aj g.2];obtain ⟨x,j⟩:=kE (n.r[i.toNat]'hi.2);obtain ⟨y,l⟩:=kE (n.r[irb.toNat]'g.2);rw[j,l]
 conv=>whnf
 refine⟨q_,hi.1,hi.2,?_⟩;rw[j]
 conv=>whnf
 refine⟨q_,g.1,g.2,?_⟩;rw[l]
 conv=>whnf
 refine kW ?_;constructor<;>intro h
 .rw[zE (kS h)];exact gM
 .rw[zD (kS h)];exact gM
def Aav(n:Ai)(irb a b:Int):Int:=if (Af n.r a).bits≠(Af n.r b).bits then (Af n.r a).bits-(Af n.r b).bits else Alw n irb a-Alw n irb b
def Ahi(n:Ai)(irb i:Int):0<=Alw n irb i/\Alw n irb i<=1:=by
 unfold Alw;split<;>omega
def Bbn(n:Ai)(j:Ac n=true)(irb a b:Int)(l:Kw n irb)(g:Kw n a)(i:Kw n b):Sp 382 [Aa a,Aa b,.ref 8 (Aq n) 0,.ref 1 (.clo (.func 380) [] [.ref 8 (Aq n) 0,.ref 1 (Aa irb) 0]) 0] (Aa (Aav n irb a b)):=cT F382 ntmps382 λF J=>by
 have fa:=(E1 j g.2).2.2;have r:=(E1 j i.2).2.2;have t:=Auv n irb a g l;have I:=Auv n irb b i l;have R:=Ahi n irb a;have l2:=Ahi n irb b;rw[Aav,Aj g.2,Aj i.2];obtain ⟨x,o⟩:=kE (n.r[a.toNat]'g.2);obtain ⟨y,p⟩:=kE (n.r[b.toNat]'i.2);rw[o]at fa|-;rw[p]at r|-;generalize Alw n irb a=oa at *;generalize Alw n irb b=ob at *
 conv=>whnf
 refine⟨q_,g.1,g.2,?_⟩;rw[o]
 conv=>whnf
 refine⟨q_,i.1,i.2,?_⟩;rw[p]
 conv=>whnf
 refine kW ?_;constructor<;>intro h
 .rw[zE (kS h)];refine gG ?_;exact dN
 .rw[zD (kS h)];refine oO ?_;refine A1u ⟨⟨_,_,F380⟩,t⟩ q_ q_ q_ q_ y_ q_ ?_;refine oD ?_;refine A1u ⟨⟨_,_,F380⟩,I⟩ q_ q_ q_ q_ y_ q_ ?_;refine oD ?_;refine iW ?_;refine kW ?_;exact dN
def Vv(n:Ai)(irb dst:Int)(i:Nat):Bool:=Sc n i==Sc n irb&&(Af n.r i).addr==dst
def oC(n:Ai)(irb dst:Int)(i:Nat):Bool:=Al9 (Af n.r i).addr (Af n.r i).bits dst&&Am6 n irb i
def Ok(n:Ai)(irb dst:Int):List Int:=Mf (oC n irb dst) n.r.length
def Cu(n:Ai)(irb dst:Int):Int×Bool :=
 if (List.range n.r.length).any (Vv n irb dst)=true then (0,false)
 else if Ok n irb dst=[] then (0,false) else (lF (Aav n irb) (Ok n irb dst) ((Ok n irb dst).length-1),true)
def A3a(n:Ai)(hn:n.Fin)(hb:Ac n=true)(irb dst:Int)(hk:Kw n irb):Sp 318 [Aq n,Aa irb,Bo dst] (.tup [Aa (Cu n irb dst).1,Ab (Cu n irb dst).2]):=cT F318 ntmps318 λF hF=>by
 have J:=Cu.eq_1 n irb dst;generalize Cu n irb dst=r at *;have a0:=hn.r;unfold At at a0;have qk:=Va n hb irb hk
 conv=>whnf
 refine Bi 3 8 (Aq n) q_ q_ q_ ?_;refine Bi 4 1 (Aa irb) q_ q_ q_ (Ct 8 1000 1 Aa q_ q_ ?_);refine Bb n.r.length (λj=>∀i,i<j->Vv n irb dst i=false) (λj=>[(2,Bo dst),(3,.ref 8 (Aq n) 0),(4,.ref 1 (Aa irb) 0),(8,.osl 1000),(13,.sl 5 Dx n.r),(14,Aa n.r.length),(15,Aa j)]) (λj=>[(1000,.row 1 Aa (Mf (oC n irb dst) j))]) [] (λi hi=>zW hi j_)
  kU ?_
 intro j hj o;refine gI ?_ ?_<;>intro h
 .have t:j<n.r.length:=by simpa using h
  have df:Kw n (j:Int):=⟨by omega,kS t⟩
  have qj:=Va n hb j df;have g:=Aan (oC n irb dst) j;have je:=M5 (oC n irb dst) j;have sk:Vv n irb dst j=(Sc n j==Sc n irb&&(Af n.r j).addr==dst):=rfl;have R:oC n irb dst j=(Al9 (Af n.r j).addr (Af n.r j).bits dst&&Am6 n irb j):=rfl;have a1:Af n.r (j:Int)=n.r[j]:=Aj (l:=n.r) (i:=(j:Int)) (kS t);have hf:=(E1 hb t).2.2;have e1:n.r[(j:Int).toNat]'j_=n.r[j]:=rfl;rw[a1]at sk R;obtain ⟨x,hx⟩:=kE (n.r[j]);rw[hx]at e1 sk R hf;have q1:=Ala x.addr x.bits dst hf;have q2:=Ay3 n hn hb irb j hk df;rw[R]at g;obtain ⟨u,hu⟩:=kE (Mf (oC n irb dst) j);rw[hu]at g je|-;refine oO ?_;refine⟨q_,by omega,by omega,?_⟩;rw[e1]
  conv=>whnf
  refine cD qj F377 (oD ?_);refine cD qk F377 (oD ?_);constructor<;>intro h2
  .rw[h2,yB]at sk;refine gO ?_;constructor<;>intro h3
   .have:(List.range n.r.length).any (Vv n irb dst)=true:=wA.2 ⟨j,kS t,sk.trans h3⟩;rw[zE this]at J;subst J;exact gM
   .have nh:=sk.trans h3;refine oO ?_;refine gF q1 F378 ?_;constructor<;>intro I
    .rw[I,yB]at g;refine oO ?_;refine gF q2 F379 ?_;constructor<;>intro h5
     .rw[zE h5]at g;refine oO ?_;refine Al (Ah Γ.toTy 47 q_ q_ q_ q_ q_ (.row q_) (.lit (e:=Aa) (l:=[(j:Int)]) q_ q_) qx kO kO) q_ q_ (gG ?_);exact A6 [(1000,47)] o t (λi hi=>if e:i=j then (by rw[e];exact nh) else o i j_) ⟨kA,⟨.inl (zH (Ob.row 1 Aa) g),q_,z_⟩,q_,q_⟩
     .rw[zD (by simp[h5])]at g;refine gG ?_;exact A6 [] o t (λi hi=>if e:i=j then (by rw[e];exact nh) else o i j_) ⟨kA,⟨.inl (zH (Ob.row 1 Aa) g),q_,z_⟩,q_,q_⟩
    .rw[zD (by simp[I])]at g;refine oF ?_;refine iW ?_;exact A6 [] o t (λi hi=>if e:i=j then (by rw[e];exact nh) else o i j_) ⟨kA,⟨.inl (zH (Ob.row 1 Aa) g),q_,z_⟩,q_,q_⟩
  .have nh:Vv n irb dst j=false:=by rw[sk,h2,yE]
   refine oD ?_;refine⟨y_,?_⟩
   ((conv=>whnf);refine aF ?_;refine rg ?_;conv=>whnf)
   refine gF q1 F378 ?_;constructor<;>intro I
   .rw[I,yB]at g;refine oO ?_;refine gF q2 F379 ?_;constructor<;>intro h5
    .rw[zE h5]at g;refine oO ?_;refine Al (Ah Γ.toTy 47 q_ q_ q_ q_ q_ (.row q_) (.lit (e:=Aa) (l:=[(j:Int)]) q_ q_) qx kO kO) q_ q_ (gG ?_);exact A6 [(1000,47)] o t (λi hi=>if e:i=j then (by rw[e];exact nh) else o i j_) ⟨kA,⟨.inl (zH (Ob.row 1 Aa) g),q_,z_⟩,q_,q_⟩
    .rw[zD (by simp[h5])]at g;refine gG ?_;exact A6 [] o t (λi hi=>if e:i=j then (by rw[e];exact nh) else o i j_) ⟨kA,⟨.inl (zH (Ob.row 1 Aa) g),q_,z_⟩,q_,q_⟩
   .rw[zD (by simp[I])]at g;refine oF ?_;refine iW ?_;exact A6 [] o t (λi hi=>if e:i=j then (by rw[e];exact nh) else o i j_) ⟨kA,⟨.inl (zH (Ob.row 1 Aa) g),q_,z_⟩,q_,q_⟩
 .have:j=n.r.length:=qB h;subst this;have bw:¬(List.range n.r.length).any (Vv n irb dst)=true:=λh=>by
   obtain ⟨i,h1,h2⟩:=wA.1 h;rw[o i (kS h1)]at h2;cases h2
  rw[zD bw]at J;have br:∀y∈Ok n irb dst,Kw n y:=λy hy=>by
   have:=(Ti (p:=oC n irb dst) (j:=n.r.length)).1 hy;exact⟨this.1,by omega⟩
  have jo:=M5 (oC n irb dst) n.r.length;have a2:Mf (oC n irb dst) n.r.length=Ok n irb dst:=rfl;rw[a2]at jo|-;have q:∀h0:0<(Ok n irb dst).length,_:=λh0=>Bbe (Ok n irb dst) (Aav n irb) 382 [] [.ref 8 (Aq n) 0,.ref 1 (.clo (.func 380) [] [.ref 8 (Aq n) 0,.ref 1 (Aa irb) 0]) 0] rfl h0 (by unfold At;omega) (λy hy z hz=>⟨⟨_,_,F382⟩,Bbn n hb irb y z hk (br y hy) (br z hz)⟩)
  generalize Ok n irb dst=l at *;refine Ao 1000 q_ (oO ?_);constructor<;>intro h3
  .have I:l=[]:=by simpa using h3
   rw[zE I]at J;subst J;exact gM
  .have I:¬l=[]:=by simpa using h3
   rw[zD I]at J;have q:=q (xP.2 I);subst J;refine oO ?_;refine Bi 11 1 (.clo (.func 380) [] [.ref 8 (Aq n) 0,.ref 1 (Aa irb) 0]) q_ q_ q_ (oO ?_);refine gF q F381 ?_;exact dN
def Ap1(n:Ai)(g:n.Fin)(i:Ac n=true)(irb dst:Int)(l:Kw n irb):Sp 333 [Aq n,Aa irb,Bo dst] (.tup [Aa (Cu n irb dst).1,Ab (Cu n irb dst).2]):=cT F333 ntmps333 λF o=>by
 have j:=A7 n g;rw[i]at j;have q:=A3a n g i irb dst l;generalize Cu n irb dst=r at *;refine fW ?_;refine⟨λh=>zW (zO h) j_,λ_=>?_⟩;refine fU ?_;refine⟨λh=>zW (zO h) j_,λ_=>?_⟩;refine gL j F49 ?_;refine gL q F318 ?_;exact gC
def cZ{n:Ai}{irb dst:Int}(h:(Cu n irb dst).2=true):Kw n (Cu n irb dst).1:=by
 unfold Cu at h|-;split at h
 .cases h
 rename_i i;rw[zD i];split at h
 .cases h
 rename_i g;rw[zD g];have hm:=cW (Aav n irb) (Ok n irb dst) (xP.2 g) ((Ok n irb dst).length-1) (by have:=xP.2 g;omega);have:=(Ti (p:=oC n irb dst) (j:=n.r.length)).1 hm;exact⟨this.1,by omega⟩
end
section
set_option maxRecDepth 20000
def fL{x:Int}(g:0<=x)(i:x<4294967297):IntKind.i64.wrap x=x:=by
 rw[IntKind.wrap_i64];omega
def A4e{x:Int}(g:0<=x)(i:x<4294967296):IntKind.u32.wrap x=x:=by
 rw[IntKind.wrap_u32];omega
def Ana(b:Int)(h:0<=b/\b<=32):Ath b=((2^(32-b).toNat-1:Nat):Int):=by
 obtain ⟨k,g,i⟩:∃k:Nat,(32-b).toNat=k/\k<=32:=⟨_,rfl,by omega⟩
 have j:min (32-b).toNat IntKind.u32.bits=k:=by show min (32-b).toNat 32=k;omega
 have hp:=vC (n:=2) qq i;have l:(2:Nat)^32=4294967296:=rfl;rw[l]at hp;have o:=vF (n:=k);rw[Ath,j,g,IntKind.wrap_u32,IntKind.wrap_u32,show (2:Int)^k=((2^k:Nat):Int) by rw[tB];rfl];generalize 2^k=q at *;omega
def dM(a b x:Int)(g:0<=b/\b<=32)(j:0<=a/\a<4294967296)(l:0<=x/\x<4294967296):Al9 a b x=true↔I0 a b<=x/\x<=Lq a b:=by
 obtain ⟨a,rfl⟩:=xK j.1;obtain ⟨x,rfl⟩:=xK l.1;obtain ⟨k,i,o⟩:∃k:Nat,(32-b).toNat=k/\k<=32:=⟨_,rfl,by omega⟩
 have p:=vF (n:=k);rw[Al9,Ana b g,i,Bbf a x k j_ j_ o,decide_eq_true_iff,A5b a x (2^k) j_,Th a k b g i,Aev a k b g i];omega
def Yv(a b:Int)(j:0<=a/\a<4294967296):0<=Lq a b/\Lq a b<4294967296:=by
 by_cases i:0<=b/\b<=32
 .obtain ⟨a,rfl⟩:=xK j.1;obtain ⟨k,l,o⟩:∃k:Nat,(32-b).toNat=k/\k<=32:=⟨_,rfl,by omega⟩
  have p:=vF (n:=k);rw[Aev a k b i l];have r:a-a%2^k=2^k*(a/2^k):=by have:=uI a (2^k);omega
  have g:2^k*2^(32-k)=4294967296:=by
   rw[<-Nat.pow_add,show k+(32-k)=32 by omega]
  have:a/2^k<2^(32-k):=by rw[Nat.div_lt_iff_lt_mul j_,vJ,g];omega
  have:2^k*(a/2^k)+2^k<=2^k*2^(32-k):=by
   rw[<-Nat.mul_succ];exact Nat.mul_le_mul_left _ this
  omega
 .rw[Lq,zD i];omega
def Ae1(a b:Int)(i:0<=a/\a<4294967296):0<=I0 a b/\I0 a b<4294967296:=by
 by_cases g:0<=b/\b<=32
 .obtain ⟨a,rfl⟩:=xK i.1;rw[Th a _ b g rfl];omega
 .rw[I0,zD g];omega
attribute [local irreducible]G DR
def A6w{n:Ai}{irb dst:Int}(h:(Cu n irb dst).2=true):oC n irb dst (Cu n irb dst).1.toNat=true:=by
 unfold Cu at h|-;split at h
 .cases h
 rename_i i;rw[zD i];split at h
 .cases h
 rename_i g;rw[zD g];have hm:=cW (Aav n irb) (Ok n irb dst) (xP.2 g) ((Ok n irb dst).length-1) (by have:=xP.2 g;omega);exact((Ti (p:=oC n irb dst) (j:=n.r.length)).1 hm).2.2
def A5c(x:Int)(i:Irb):Sp 395 [Dx i,.ref 1 (Bo x) 0] (Ab (i.addr==x)):=cT F395 ntmps395 λF g=>by
 refine fW ?_;exact dN
def A5d(x:Int)(i:Irb):Sp 335 [Dx i,.ref 1 (Bo x) 0] (Ab (i.addr==x)):=cT F335 ntmps335 λF g=>by
 refine fW ?_;exact dN
def L3(n:Ai)(a:Int):Bool:=decide (0<=Bt (λi:Irb=>i.addr==a) n.r)
def aS(n:Ai)(a g:Int):Int:=if L3 n a=true then a+1 else Lq (Af n.r g).addr (Af n.r g).bits+1
def Awo(n:Ai)(t:n.Fin)(I:Eb n)(a g:Int)(ha:0<=a/\a<4294967296)(J:L3 n a=false->Kw n g):Sp 336 [Aq n,Bo a,Aa g] (Aa (aS n a g)):=cT F336 ntmps336 λF hF=>by
 have j:=aS.eq_1 n a g;generalize aS n a g=R at *;have p:=Sn n.r (λi:Irb=>i.addr==a) 395 [] [.ref 1 (Bo a) 0] rfl (λi _=>⟨⟨_,_,F395⟩,A5c a i⟩) t.r;have ht:decide (0<=Bt (λi:Irb=>i.addr==a) n.r)=L3 n a:=rfl;rw[ht]at p;generalize L3 n a=tk at *;refine fW ?_;refine Bi 3 8 (Aq n) q_ q_ q_ ?_;refine Bi 4 1 (Bo a) q_ q_ q_ (gL p F334 ?_);cases tk;rotate_left
 .rw[zE rfl]at j;subst j;refine fU ?_;rw[fL j_ j_];refine iL ?_;refine fW ?_;exact dN
 rw[zD qx]at j;have l:=J rfl;rw[Aj l.2]at j;have o:=I _ (zI l.2);obtain ⟨x,r⟩:=kE (n.r[g.toNat]'l.2);rw[r]at j o;obtain ⟨y,hy⟩:=xK o.1;have q:=Ae7 y x.bits j_;have a0:=Yv x.addr x.bits o;rw[<-hy]at q;generalize Lq x.addr x.bits=z at *;subst j;refine fU ?_;refine⟨q_,l.1,l.2,?_⟩;rw[r];refine fW ?_
 first|refine cD q F221 ?_|refine c0 q F221 ?_
 refine fU ?_;rw[fL j_ j_];refine iL ?_;refine fW ?_;exact dN
def At1{n:Ai}(l:Eb n)(o:Ac n=true){irb a:Int}(p:0<=a/\a<4294967296)(h:L3 n a=false->(Cu n irb a).2=true):a<aS n a (Cu n irb a).1/\aS n a (Cu n irb a).1<=4294967296:=by
 rw[aS];split
 .omega
 rename_i r;have i:=h (kS r);have g:=A6w i;have hi:=cZ i;have e:((Cu n irb a).1.toNat:Int)=(Cu n irb a).1:=by have:=hi.1;omega
 rw[oC,zG,e]at g;rw[Aj hi.2]at g|-;have j:=l _ (zI hi.2);have t:=(E1 o hi.2).2.2;have I:=(dM _ _ _ t j p).1 g.1;have J:=Yv _ (n.r[(Cu n irb a).1.toNat]'hi.2).bits j;omega
def Ji(n:Ai)(irb g e:Int)(x:Int):Int×Bool :=
 if x<=e then
  if (Cu n irb x).2=true/\(Cu n irb x).1=g/\L3 n x=false then (x,true)
  else if (Cu n irb x).2=false/\L3 n x=false then (0,false)
  else if x<aS n x (Cu n irb x).1 then Ji n irb g e (aS n x (Cu n irb x).1) else (0,false)
 else (0,false)
 termination_by (e+1-x).toNat
 decreasing_by omega
def Za(n:Ai)(irb g:Int):Int×Bool :=
 if (0<=irb/\irb<n.r.length)/\(0<=g/\g<n.r.length)/\Ac n=true then
  Ji n irb g (Lq (Af n.r g).addr (Af n.r g).bits) (I0 (Af n.r g).addr (Af n.r g).bits) else (0,false)
def Aks(n:Ai)(t:n.Fin)(hu:Eb n)(irb j:Int):Sp 264 [Aq n,Aa irb,Aa j] (.tup [Bo (Za n irb j).1,Ab (Za n irb j).2]):=cT F264 ntmps264 λF hF=>by
 have g:=Za.eq_1 n irb j;generalize Za n irb j=a0 at *;have hr:=A7 n t;have a1:=t.r;unfold At at a1;refine gR ?_ ?_<;>intro h
 .rw[zD (qA h)]at g;subst g;exact gC
 have h1:¬irb<0:=zQ h;refine gH ?_ ?_<;>intro h
 .rw[zD (qA h)]at g;subst g;exact gC
 have h2:¬j<0:=zQ h;refine Bi 3 8 (Aq n) q_ q_ q_ ?_;refine gH ?_ ?_<;>intro h
 .rw[zD (qA h)]at g;subst g;exact gC
 have h3:irb<n.r.length:=qB h;refine gH ?_ ?_<;>intro h
 .rw[zD (qA h)]at g;subst g;exact gC
 have h4:j<n.r.length:=qB h;refine gL hr F49 ?_;cases J:Ac n
 .rw[zD (by simp[J])]at g;subst g;exact gC
 rw[zE ⟨⟨by omega,h3⟩,⟨by omega,h4⟩,J⟩]at g;have I:Kw n j:=⟨by omega,by omega⟩
 have a2:Kw n irb:=⟨by omega,by omega⟩
 rw[Aj I.2]at g;have R:=hu _ (zI I.2);obtain ⟨x,hx⟩:=kE (n.r[j.toNat]'I.2);rw[hx]at g R;obtain ⟨y,hy⟩:=xK R.1;have q1:=Alb y x.bits j_;have q2:=Ae7 y x.bits j_;have hf:=Ae1 x.addr x.bits R;have a3:=Yv x.addr x.bits R;rw[<-hy]at q1 q2;generalize Lq x.addr x.bits=e at *;generalize I0 x.addr x.bits=s at *;refine fU ?_;refine⟨q_,I.1,I.2,?_⟩;rw[hx];refine fW ?_;refine cD q1 F220 (gK q2 F221 ?_);refine⟨y_,?_⟩;refine fW ?_;refine Dc (λz:Int=>0<=z/\z<=4294967296/\a0=Ji n irb j e z) (λz=>[(1,Aa irb),(2,Aa j),(3,.ref 8 (Aq n) 0),(9,Aa z),(10,Aa e)]) (λ_=>[]) (λz=>(e+1-z).toNat) s [] ⟨hf.1,by omega,g⟩
  ⟨⟨rfl,rfl,rfl,rfl,rfl,rfl,zH Aa (fL (x:=s) j_ j_).symm,rfl,zH Aa (fL (x:=e) j_ j_).symm,rfl,trivial⟩,trivial,rfl,rfl⟩ ?_
 clear g;rintro z ⟨cj,a4,g⟩;refine gH ?_ ?_<;>intro h
 .have h5:z<=e:=zO h;rw[Ji,zE h5]at g;have tz:0<=z/\z<4294967296:=by omega
  have q6:=Ap1 n t J irb z a2;have o:=At1 (irb:=irb) hu J tz;have mz:=cZ (n:=n) (irb:=irb) (dst:=z);have q8:=λl hl=>Awo n t hu z l tz hl
  have q7:=Sn n.r (λi:Irb=>i.addr==z) 335 [] [.ref 1 (Bo z) 0] rfl (λi _=>⟨⟨_,_,F335⟩,A5d z i⟩) t.r;have ht:decide (0<=Bt (λi:Irb=>i.addr==z) n.r)=L3 n z:=rfl;rw[ht]at q7;clear ht;generalize L3 n z=tk at *;generalize Cu n irb z=ld at *;obtain ⟨l,ok⟩:=ld;dsimp only at *;refine fU ?_;rw[A4e tz.1 tz.2];refine c0 q6 F333 ?_;refine Bi 11 1 (Bo z) q_ q_ q_ (gL q7 F334 ?_);cases ok
  .cases tk
   .rw[zD qx,zE ⟨rfl,rfl⟩]at g;subst g;exact gC
   .rw[zD qx,zD qx,zE (o (λh=>by cases h)).1]at g;have p:=o (λh=>by cases h);have q:=q8 l (λh=>by cases h);generalize aS n z l=r at *;refine gL q F336 ?_;refine fU ?_;exact A8 r [] ⟨by omega,p.2,g⟩ j_ kU
  .have q:=q8 l (λ_=>mz rfl);have p:=o (λ_=>rfl);cases tk
   .by_cases gh:l=j
    .subst gh;rw[zE ⟨rfl,rfl,rfl⟩]at g;subst g;refine gH ?_ ?_<;>intro h
     .exact gC
     .simp at h
    .rw[zD (by simp[gh]),zD qx,zE p.1]at g;generalize aS n z l=r at *;refine fU ?_;refine⟨λh=>zW (kS h) gh,λh=>?_⟩;refine gL q F336 ?_;refine fU ?_;exact A8 r [] ⟨by omega,p.2,g⟩ j_ kU
   .rw[zD qx,zD qx,zE p.1]at g;generalize aS n z l=r at *;refine gH ?_ ?_<;>intro h
    .refine gL q F336 ?_;refine fU ?_;exact A8 r [] ⟨by omega,p.2,g⟩ j_ kU
    .refine gL q F336 ?_;refine fU ?_;exact A8 r [] ⟨by omega,p.2,g⟩ j_ kU
 .have h5:¬z<=e:=zQ h;rw[Ji,zD h5]at g;subst g;exact gC
structure Kg where
 (kind ac l addr:Int)
abbrev Er(h:Kg):SV:=.agg [Aa h.kind,Aa h.ac,Aa h.l,Bo h.addr]
instance:Inhabited Kg:=⟨⟨0,0,0,0⟩⟩
def Akk(n:Ai)(d:Int):Prop:=(0<=d/\d<n.c.length)/\Ac n=true
instance (n:Ai)(d:Int):Decidable (Akk n d):=inferInstanceAs (Decidable (_/\_))
def Atj(n:Ai)(j:n.Fin)(d:Int):Sp 262 [Aq n,Aa d] (Ab (decide (Akk n d))):=cT F262 ntmps262 λF p=>by
 have l:=A7 n j;refine gR ?_ ?_<;>intro h
 .have g:0<=d:=zO h;refine Bi 2 8 (Aq n) q_ q_ q_ ?_;refine gH ?_ ?_<;>intro h
  .have i:d<n.c.length:=zO h;refine gL l F49 ?_;refine fU ?_;refine Av q_ As (zH Ab ?_) q_;cases o:Ac n<;>simp[Akk,g,i,o]
  .have i:¬d<n.c.length:=zQ h;refine fU ?_;refine Av q_ As (zH Ab ?_) q_;simp[Akk,i]
 .have g:¬0<=d:=zQ h;refine fU ?_;refine Av q_ As (zH Ab ?_) q_;simp[Akk,g]
def Md(n:Ai)(d p:Int):Option Kg:=if (Ef n p (Af n.c d).z).2=true then some ⟨1,p,(Ef n p (Af n.c d).z).1,0⟩ else none
def Xg(p:Int):Kg:=⟨2,0,p,0⟩
def Ajz(n:Ai)(d:Int):List Kg:=(Ci n d).filterMap (Md n d)++(Af n.c d).ae.map Xg
def J0(n:Ai)(d:Int):List Kg:=if Akk n d then Ajz n d else []
def Aqr{n:Ai}{d:Int}{l:List Int}{j:Nat}{p:Int}(h:j<l.length)(hp:l[j]=p):(l.take (j+1)).filterMap (Md n d) =
  (l.take j).filterMap (Md n d)++(match Md n d p with|some h=>[h]|none=>[]):=by
 subst hp;rw[vU,zT h,List.filterMap_append];cases g:Md n d l[j]<;>simp[g]
def Azc(n:Ai)(t:n.Fin)(d:Int):Sp 198 [Aq n,Aa d] (.sl 4 Er (J0 n d)):=cT F198 ntmps198 λF hF=>by
 have hp:=Atj n t d;have bx:=X4 n t d;have yq:=Q9 n t d;unfold At at yq;refine fW ?_;refine Bi 2 8 (Aq n) q_ q_ q_ (gL hp F262 ?_);by_cases o:Akk n d;rotate_left
 .rw[J0,zD o,zJ o];refine fU ?_;exact Ar 4 4 Er q_ gC
 rw[J0,zE o,zL o];have I:d.toNat<n.c.length:=by have:=o.1;omega
 have h0:0<=d:=o.1.1;have gk:=t.ae _ (zI I);unfold At at gk;have hh:=Ajz.eq_1 n d;have i:=Md.eq_1 n d;have gp:=λj p h hp=>Aqr (n:=n) (d:=d) (l:=Ci n d) (j:=j) (p:=p) h hp
 have je:∀j,((Ci n d).take j |>.filterMap (Md n d)).length<=(Ci n d).length:=λj=>by
  refine wI (tH _ _) ?_;rw[zY];omega
 have db:(Ci n d).take (Ci n d).length=Ci n d:=yM;rw[Aj I]at hh i;obtain ⟨x,hx⟩:=kE (n.c[d.toNat]'I);rw[hx]at hh i gk;generalize Ajz n d=a0 at *;generalize Ci n d=mem at *;refine gL bx F115 ?_;refine fU ?_;refine Ct 5 1000 4 Er q_ q_ ?_;refine Bl mem.length (λj=>[(1,Aa d),(2,.ref 8 (Aq n) 0),(5,.osl 1000),(18,.sl 1 Aa mem),(19,Aa mem.length),(20,Aa j)]) (λj=>[(1000,.row 4 Er ((mem.take j).filterMap (Md n d)))]) []
  kU ?_
 intro j hj;have J:=je j;refine gH ?_ ?_<;>intro h
 .have g:j<mem.length:=by simpa using h
  have R:(j:Int).toNat<mem.length:=kS g;obtain ⟨p,wg⟩:∃p,mem[(j:Int).toNat]'R=p:=⟨_,rfl⟩
  have r:=gp j p g wg;have q:=Aco n t p x.z;rw[i p]at r;generalize Ef n p x.z=ld at *;obtain ⟨to,ok⟩:=ld;refine fU ?_;refine⟨q_,by omega,R,?_⟩;rw[wg];refine fW ?_;refine⟨q_,h0,I,?_⟩;rw[hx];refine fW ?_;refine cD q F263 (fU ?_);refine⟨y_,?_⟩;refine fW ?_;dsimp only at r;refine⟨λh=>?_,λh=>?_⟩<;>(have h:ok=_:=h;subst h)
  .refine fU ?_;refine Al (Ah Γ.toTy 42 q_ q_ q_ q_ q_ (.row q_) (.lit (e:=Er) (l:=[⟨1,p,to,0⟩]) q_ q_) qx kO kO) q_ q_ (gE ?_);exact A9 [(1000,42)] g ⟨kA,⟨.inl (zH (Ob.row 4 Er) r),q_,z_⟩,q_,q_⟩
  .refine gE ?_;exact A9 [] g ⟨kA,⟨.inl (zH (Ob.row 4 Er) (r.trans (yV _))),q_,z_⟩,q_,q_⟩
 .have:j=mem.length:=qB h;subst this;rw[db]at J|-;generalize mem.filterMap (Md n d)=first at *
  refine fU ?_;refine⟨q_,h0,I,?_⟩;rw[hx];refine fW ?_;refine Bl x.ae.length (λj=>[(5,.osl 1000),(49,.sl 1 Aa x.ae),(50,Aa x.ae.length),(51,Aa j)]) (λj=>[(1000,.row 4 Er (first++(x.ae.take j).map Xg))]) []
   ⟨⟨rfl,rfl,rfl,rfl,rfl,rfl,rfl,rfl,trivial⟩,⟨.inl (zH (Ob.row 4 Er) (yV _)),rfl,trivial⟩,rfl,rfl⟩ ?_
  intro j hj;refine gH ?_ ?_<;>intro h
  .have g:j<x.ae.length:=by simpa using h
   have R:(j:Int).toNat<x.ae.length:=kS g;obtain ⟨p,wg⟩:∃p,x.ae[(j:Int).toNat]'R=p:=⟨_,rfl⟩
   have r:(first++(x.ae.take j).map Xg)++[⟨2,0,p,0⟩]=first++(x.ae.take (j+1)).map Xg:=by
    rw[vU,zT g,wP,yW];congr 2;simp only[Option.toList,xR,vW,Xg];congr 2;exact wg.symm
   refine fU ?_;refine⟨q_,by omega,R,?_⟩;rw[wg];refine fW ?_;refine Al (Ah Γ.toTy 59 q_ q_ q_ q_ q_ (.row q_) (.lit (e:=Er) (l:=[⟨2,0,p,0⟩]) q_ q_) qx kO kO) q_ q_ (gE ?_);exact A9 [(1000,59)] g ⟨kA,⟨.inl (zH (Ob.row 4 Er) r.symm),q_,z_⟩,q_,q_⟩
  .have:j=x.ae.length:=qB h;subst this;refine fU ?_;refine Ao 1000 q_ (fU ?_);refine Av q_ As ?_ q_;rw[hh,yM];rfl
structure lL where
 (to l addr:Int)
abbrev Wg(l:lL):SV:=.agg [Aa l.to,Aa l.l,Bo l.addr]
instance:Inhabited lL:=⟨⟨0,0,0⟩⟩
def Af4(n:Ai)(irb:Int)(i:Nat):Option lL:=if (Za n irb i).2=true then some ⟨i,(Af n.r i).l,(Za n irb i).1⟩ else none
def Z4(n:Ai)(irb:Int)(j:Nat):List lL:=(List.range j).filterMap (Af4 n irb)
def Hw(n:Ai)(d:Int):List lL:=if (0<=d/\d<n.c.length)/\0<=(Af n.c d).ar/\Ac n=true then Z4 n (Af n.c d).ar n.r.length else []
def Au8(n:Ai)(irb:Int)(j:Nat):Z4 n irb (j+1)=Z4 n irb j++(match Af4 n irb j with|some h=>[h]|none=>[]):=by
 rw[Z4,wW,List.filterMap_append];cases h:Af4 n irb j<;>simp[h,Z4]
def nF(n:Ai)(irb:Int)(j:Nat):(Z4 n irb j).length<=j:=by
 have:=tH (Af4 n irb) (List.range j);simpa [Z4] using this
def Amm(n:Ai)(r:n.Fin)(hu:Eb n)(d:Int):Sp 199 [Aq n,Aa d] (.sl 3 Wg (Hw n d)):=cT F199 ntmps199 λF hF=>by
 have g:=Hw.eq_1 n d;generalize Hw n d=a0 at *;have hr:=A7 n r;have t:=r.r;unfold At at t;refine gR ?_ ?_<;>intro h
 .rw[zD (qA h)]at g;subst g;refine fU ?_;exact Ar 4 3 Wg q_ gC
 have h1:¬d<0:=zQ h;refine Bi 2 8 (Aq n) q_ q_ q_ ?_;refine gH ?_ ?_<;>intro h
 .rw[zD (qA h)]at g;subst g;refine fU ?_;exact Ar 4 3 Wg q_ gC
 have h2:d<n.c.length:=qB h;have p:d.toNat<n.c.length:=by omega
 rw[Aj p]at g;obtain ⟨x,I⟩:=kE (n.c[d.toNat]'p);rw[I]at g;refine fU ?_;refine⟨q_,by omega,p,?_⟩;rw[I];refine gR ?_ ?_<;>intro h
 .rw[zD (qA h)]at g;subst g;refine fU ?_;exact Ar 4 3 Wg q_ gC
 have h3:0<=x.ar:=qB h;refine gL hr F49 ?_;cases hb:Ac n
 .rw[zD (by simp[hb])]at g;subst g;refine fU ?_;exact Ar 4 3 Wg q_ gC
 rw[zE ⟨⟨by omega,h2⟩,h3,hb⟩]at g;subst g;refine fU ?_;refine Ct 5 1000 3 Wg q_ q_ ?_;refine Bl n.r.length (λj=>[(1,Aa d),(2,.ref 8 (Aq n) 0),(5,.osl 1000),(34,.sl 5 Dx n.r),(35,Aa n.r.length),(36,Aa j)]) (λj=>[(1000,.row 3 Wg (Z4 n x.ar j))]) []
  kU ?_
 intro j hj;have jf:=nF n x.ar j;refine gH ?_ ?_<;>intro h
 .have J:j<n.r.length:=by simpa using h
  have R:(j:Int).toNat<n.r.length:=kS J;have q:=Aks n r hu x.ar j;have i:=Au8 n x.ar j;have o:=Af4.eq_1 n x.ar j;rw[Aj R]at o;rw[o]at i;obtain ⟨y,hy⟩:=kE (n.r[(j:Int).toNat]'R);rw[hy]at i;generalize Za n x.ar j=ad at *;obtain ⟨a,ok⟩:=ad;dsimp only at i q;refine fU ?_;refine⟨q_,by omega,R,?_⟩;rw[hy];refine fW ?_;refine⟨q_,by omega,p,?_⟩;rw[I];refine fW ?_;refine cD q F264 (fU ?_);refine⟨y_,?_⟩;refine fW ?_;refine⟨λh=>?_,λh=>?_⟩<;>(have h:ok=_:=h;subst h)
  .refine fU ?_;refine Al (Ah Γ.toTy 61 q_ q_ q_ q_ q_ (.row q_) (.lit (e:=Wg) (l:=[⟨j,y.l,a⟩]) q_ q_) qx kO kO) q_ q_ (gE ?_);exact A9 [(1000,61)] J ⟨kA,⟨.inl (zH (Ob.row 3 Wg) i),q_,z_⟩,q_,q_⟩
  .refine gE ?_;exact A9 [] J ⟨kA,⟨.inl (zH (Ob.row 3 Wg) (i.trans (yV _))),q_,z_⟩,q_,q_⟩
 .have:j=n.r.length:=qB h;subst this;refine fU ?_;exact Ao 1000 q_ gC
def Qq(n:Ai)(i:Int):Bool:=decide (0<=i)&&decide (i<n.g.length)&&decide ((Af n.g i).ah<0)
def Aa7(n:Ai)(i:Int):Sp 57 [Aq n,Aa i] (Ab (Qq n i)):=cT F57 ntmps57 λF o=>by
 refine gR ?_ ?_<;>intro h
 .have g:0<=i:=zO h;refine Bi 2 8 (Aq n) q_ q_ q_ ?_;refine gH ?_ ?_<;>intro h
  .have j:i<n.g.length:=zO h;have l:i.toNat<n.g.length:=by omega
   rw[Qq,Aj l,zL g,zL j,yB,yB];obtain ⟨p,hp⟩:=kE (n.g[i.toNat]'l);rw[hp];refine fU ?_;refine⟨q_,g,l,?_⟩;rw[hp];refine fW ?_;exact dN
  .have j:¬i<n.g.length:=zQ h;rw[Qq,zJ j,wR,yE];exact gC
 .have g:¬0<=i:=zQ h;rw[Qq,zJ g,yE,yE];exact gC
structure Fnd where
 (l kind:Int) (hop:Kg) (ahead:Int)
abbrev nM(f:Fnd):SV:=.agg [Aa f.l,Aa f.kind,Aa f.hop.kind,Aa f.hop.ac,Aa f.hop.l,Bo f.hop.addr,Aa f.ahead]
instance:Inhabited Fnd:=⟨⟨0,0,default,0⟩⟩
structure Dn where
 (m0 m1:List Bool) (list:List Fnd)
abbrev stSV(d k:Int):SV:=.agg [Aa d,Aa k]
abbrev Afh(n:Ai)(S:Dn):It:=[(0,.box [.sl 5 Bh n.j,.sl 7 Bm n.g,.sl 3 Dq n.x,.sl 6 Ax n.c,.sl 4 Bp n.ab,.sl 4 B6 n.y,.sl 5 D5 n.ag,.sl 5 Dx n.r,.osl 1,.osl 2,.osl 3]),
 (1,.row 1 Ab S.m0),(2,.row 1 Ab S.m1),(3,.row 7 nM S.list)]
abbrev Abk(n:Ai)(S:Dn):It:=[(0,.box [.sl 5 Bh n.j,.sl 7 Bm n.g,.sl 3 Dq n.x,.sl 6 Ax n.c,.sl 4 Bp n.ab,.sl 4 B6 n.y,.sl 5 D5 n.ag,.sl 5 Dx n.r,.osl 1,.osl 2,.osl 4]),
 (1,.row 1 Ab S.m0),(2,.row 1 Ab S.m1),(3,.non),(4,.row 7 nM S.list)]
def Z0(S:Dn)(d k:Int):Bool:=if k=0 then Af S.m0 d else Af S.m1 d
def Wa(S:Dn)(d k:Int)(h:Kg)(ahead:Int):Dn :=
 if k=0 then ⟨S.m0.set d.toNat true,S.m1,S.list++[⟨d,k,h,ahead⟩]⟩ else ⟨S.m0,S.m1.set d.toNat true,S.list++[⟨d,k,h,ahead⟩]⟩
def Hf(S:Dn)(d k:Int)(h:Kg)(ahead:Int):Dn:=if Z0 S d k=true then S else Wa S d k h ahead
def Bbd(n:Ai)(S:Dn)(d:Int)(h:Kg)(ahead:Int)(g:0<=d/\d.toNat<S.m0.length)(p:At S.list):Sq 196 [.ptr 0 0,stSV d 0,Er h,Aa ahead] (Afh n S) (.tup []) (Abk n (Hf S d 0 h ahead)):=cT F196 ntmps196 λF r=>by
 unfold At at p;have i:=Hf.eq_1 S d 0 h ahead;rw[Z0,zE rfl,Aj g.2,show Wa S d 0 h ahead=⟨S.m0.set d.toNat true,S.m1,S.list++[⟨d,0,h,ahead⟩]⟩ from zE rfl]at i;generalize Hf S d 0 h ahead=j at *;refine fW ?_;refine⟨by decide,by decide,?_⟩;refine fW ?_;refine⟨g.1,g.2,?_⟩;refine fW ?_;refine⟨q_,g.2,?_⟩;refine fW ?_;refine⟨y_,?_⟩;refine fW ?_;constructor<;>intro o
 rotate_left
 .rw[zE (kS o)]at i;subst i;refine eV 3 1000 q_ q_ qq (fU ?_);exact Bf q_ .nil [(4,1000)] (Abk n j) (λ_ h=>h) q_ q_ kU
 rw[zD (kS o)]at i;subst i;refine fU ?_;refine⟨by decide,by decide,?_⟩;refine fW ?_;refine⟨g.1,g.2,?_⟩;refine fW ?_;refine⟨q_,g.2,true,q_,q_,?_⟩;refine fW ?_;refine⟨y_,?_⟩;refine fW ?_;refine C6 (Ah Γ.toTy 40 q_ q_ q_ q_ q_ (.row q_) (.lit (e:=nM) (l:=[⟨d,0,h,ahead⟩]) q_ q_) qx kO kO) y_ q_ (fU ?_);refine⟨y_,?_⟩;refine fW ?_;exact Bf q_ .nil [(4,40)] (Abk n ⟨S.m0.set d.toNat true,S.m1,S.list++[⟨d,0,h,ahead⟩]⟩) (λ_ h=>h) q_ q_ kU
def Bbc(n:Ai)(S:Dn)(d:Int)(h:Kg)(ahead:Int)(g:0<=d/\d.toNat<S.m1.length)(p:At S.list):Sq 196 [.ptr 0 0,stSV d 1,Er h,Aa ahead] (Afh n S) (.tup []) (Abk n (Hf S d 1 h ahead)):=cT F196 ntmps196 λF r=>by
 unfold At at p;have i:=Hf.eq_1 S d 1 h ahead;rw[show Z0 S d 1=Af S.m1 d from zD qq,Aj g.2,show Wa S d 1 h ahead=⟨S.m0,S.m1.set d.toNat true,S.list++[⟨d,1,h,ahead⟩]⟩ from zD qq]at i;generalize Hf S d 1 h ahead=j at *;refine fW ?_;refine⟨by decide,by decide,?_⟩;refine fW ?_;refine⟨g.1,g.2,?_⟩;refine fW ?_;refine⟨q_,g.2,?_⟩;refine fW ?_;refine⟨y_,?_⟩;refine fW ?_;constructor<;>intro o
 rotate_left
 .rw[zE (kS o)]at i;subst i;refine eV 3 1000 q_ q_ qq (fU ?_);exact Bf q_ .nil [(4,1000)] (Abk n j) (λ_ h=>h) q_ q_ kU
 rw[zD (kS o)]at i;subst i;refine fU ?_;refine⟨by decide,by decide,?_⟩;refine fW ?_;refine⟨g.1,g.2,?_⟩;refine fW ?_;refine⟨q_,g.2,true,q_,q_,?_⟩;refine fW ?_;refine⟨y_,?_⟩;refine fW ?_;refine C6 (Ah Γ.toTy 40 q_ q_ q_ q_ q_ (.row q_) (.lit (e:=nM) (l:=[⟨d,1,h,ahead⟩]) q_ q_) qx kO kO) y_ q_ (fU ?_);refine⟨y_,?_⟩;refine fW ?_;exact Bf q_ .nil [(4,40)] (Abk n ⟨S.m0,S.m1.set d.toNat true,S.list++[⟨d,1,h,ahead⟩]⟩) (λ_ h=>h) q_ q_ kU
structure Dn.OK(n:Ai)(S:Dn):Prop where
 l0:S.m0.length=n.c.length
 l1:S.m1.length=n.c.length
 az:∀f∈S.list,(0<=f.l/\f.l.toNat<n.c.length)/\(f.kind=0\/f.kind=1)
 len:S.list.length<=S.m0.count true+S.m1.count true
theorem Dn.OK.le{n:Ai}{S:Dn}(h:S.OK n):S.list.length<=2*n.c.length:=by
 have g:S.m0.count true<=S.m0.length:=List.count_le_length;have i:S.m1.count true<=S.m1.length:=List.count_le_length;have:=h.len;rw[h.l0]at g;rw[h.l1]at i;omega
def count_set{l:List Bool}{i:Nat}(h:i<l.length)(hi:l[i]=false):(l.set i true).count true=l.count true+1:=by
 rw[List.count_set h,hi];simp
theorem Dn.OK.meet{n:Ai}{S:Dn}(h:S.OK n){d k:Int}(i:0<=d/\d.toNat<n.c.length)(p:k=0\/k=1)(hp:Kg)(a:Int):(Hf S d k hp a).OK n:=by
 rw[Hf];split
 .exact h
 rename_i j;have l:d.toNat<S.m0.length:=by rw[h.l0];exact i.2
 have o:d.toNat<S.m1.length:=by rw[h.l1];exact i.2
 rcases p with rfl|rfl
 .rw[Z0,zE rfl,Aj l]at j;rw[Wa,zE rfl];refine⟨by simp[h.l0],h.l1,λf g=>?_,?_⟩
  .rcases yJ.1 g with g|g
   .exact h.az f g
   .rw[zX]at g;subst g;exact⟨i,.inl q_⟩
  .rw[count_set l (kS j),zR,yD];have:=h.len;show _<=_+S.m1.count true;omega
 .rw[Z0,zD qq,Aj o]at j;rw[Wa,zD qq];refine⟨h.l0,by simp[h.l1],λf g=>?_,?_⟩
  .rcases yJ.1 g with g|g
   .exact h.az f g
   .rw[zX]at g;subst g;exact⟨i,.inr q_⟩
  .rw[count_set o (kS j),zR,yD];have:=h.len;show _<=S.m0.count true+_;omega
def Ac7{n:Ai}(h:Ac n=true){i:Nat}(hi:i<n.g.length){v:Int}(o:Hk n.g[i] v=true):0<=Ep n n.g[i].q v/\(Ep n n.g[i].q v).toNat<n.c.length:=by
 have hp:=A1h h hi;simp only[Qj,zG,xH]at hp;simp only[Hk,zG,xF,yR,yL]at o;have r:0<=Ep n n.g[i].q v:=by
  rcases o.2 with p|p
  .have g:=hp.1.2;have l:=hp.1.1.1.1.1.1.1.2;rw[p]at o|-;have t:decide (0<n.g[i].native)=true:=by
    simp only[zK]at l|-;omega
   rw[t]at g;simpa [I8] using g
  .have g:=hp.1.1.2;obtain ⟨x,I,e⟩:=wA.1 p;obtain ⟨j,J,rfl⟩:=yY.1 I;have l:=Cm.1 g j J;simp only[yL]at e;rw[e]at l;simpa [I8] using l
 refine⟨r,?_⟩;have:=Kf (λd:A0=>d.q==n.g[i].q&&d.z==v) n.c;have e:Ep n n.g[i].q v=Bt (λd:A0=>d.q==n.g[i].q&&d.z==v) n.c:=rfl;omega
def dB{n:Ai}{i v:Int}(h:(Ef n i v).2=true):0<=(Ef n i v).1/\(Ef n i v).1.toNat<n.c.length:=by
 unfold Ef at h|-;split at h
 .rename_i j;rw[zE j];have l:=Adf j;unfold Mv at j l|-;split at j
  .rename_i o;rw[zE o]at l|-;have r:=(Q7 o.1).2.1;have g:=o.2.2;rw[Xp]at g|-;rw[D2,zE r];dsimp only at l|-;rw[Aj l.2]at g|-;refine Ac7 r l.2 ?_;simp only[Hk,zG,xF,yR,yL];refine⟨g,?_⟩;split
   .exact .inl q_
   .rename_i t;rw[zD t]at g;split
    .rename_i p;exact .inr p
    .rename_i p;rw[zD p]at g;exact zW q_ g
  .cases j
 .cases h
def A1i{n:Ai}(h:Ac n=true){i:Nat}(hi:i<n.c.length){p:Int}(hp:p∈n.c[i].ae):0<=p/\p.toNat<n.c.length:=by
 simp only[Ac,zG]at h;have g:=Cm.1 h.1.1.1.1.1.1.2 i hi;obtain ⟨j,l,rfl⟩:=yY.1 hp;have o:=Cm.1 g j l;simp only[Yn,Am,zG,zK]at o;omega
def Yz{n:Ai}{d:Int}{h:Kg}(g:h∈J0 n d):0<=h.l/\h.l.toNat<n.c.length:=by
 rw[J0]at g;split at g
 .rename_i i;have j:d.toNat<n.c.length:=by have:=i.1;omega
  rw[Ajz,Aj j]at g;rcases yJ.1 g with g|g
  .obtain ⟨p,_,hp⟩:=vM.1 g;rw[Md]at hp;split at hp
   .rename_i l;simp only[Option.some.injEq]at hp;subst hp;exact dB l
   .cases hp
  .obtain ⟨p,hp,rfl⟩:=yT.1 g;exact A1i i.2 j hp
 .cases g
def Zn{n:Ai}{d:Int}{q:lL}(g:q∈Hw n d):0<=q.l/\q.l.toNat<n.c.length:=by
 rw[Hw]at g;split at g
 .rename_i j;obtain ⟨i,hi,hp⟩:=vM.1 g;rw[Af4]at hp;split at hp
  .simp only[Option.some.injEq]at hp;subst hp;have hi':(i:Int).toNat<n.r.length:=kS hi;show 0<=(Af n.r i).l/\_;rw[Aj hi'];exact(E1 j.2.2 hi').1
  .cases hp
 .cases g
def ext1(S:Dn)(k i:Int)(l:List Kg):Dn:=l.foldl (λS h=>Hf S h.l k h i) S
def ext2(S:Dn)(i:Int)(l:List lL):Dn:=l.foldl (λS q=>Hf S q.l 1 ⟨3,0,q.l,q.addr⟩ i) S
def Y4(n:Ai)(S:Dn)(i:Int):Dn :=
 if (Af S.list i).kind=0 then ext2 (ext1 S 0 i (J0 n (Af S.list i).l)) i (Hw n (Af S.list i).l) else ext1 S 1 i (J0 n (Af S.list i).l)
def A7n(S:Dn)(k i:Int){l:List Kg}{j:Nat}{h:Kg}(g:j<l.length)(o:l[j]=h):ext1 S k i (l.take (j+1))=Hf (ext1 S k i (l.take j)) h.l k h i:=by
 subst o;rw[ext1,vU,zT g,xS];rfl
def A7m(S:Dn)(i:Int){l:List lL}{j:Nat}{q:lL}(g:j<l.length)(o:l[j]=q):ext2 S i (l.take (j+1))=Hf (ext2 S i (l.take j)) q.l 1 ⟨3,0,q.l,q.addr⟩ i:=by
 subst o;rw[ext2,vU,zT g,xS];rfl
theorem Dn.OK.ext1{n:Ai}{k i:Int}(g:k=0\/k=1):∀{l:List Kg} {S:Dn},S.OK n->(∀h∈l,0<=h.l/\h.l.toNat<n.c.length)->(ext1 S k i l).OK n
 |[],S,h,_=>h
 |x::l,S,h,j=>Dn.OK.ext1 g (l:=l) (h.meet (j x qx) g x i) (λy o=>j y (by simp[o]))
theorem Dn.OK.ext2{n:Ai}{i:Int}:∀{l:List lL} {S:Dn},S.OK n->(∀h∈l,0<=h.l/\h.l.toNat<n.c.length)->(ext2 S i l).OK n
 |[],S,h,_=>h
 |x::l,S,h,g=>Dn.OK.ext2 (l:=l) (h.meet (g x qx) (.inr rfl) _ i) (λy j=>g y (by simp[j]))
theorem Dn.OK.ext{n:Ai}{S:Dn}(h:S.OK n)(i:Int):(Y4 n S i).OK n:=by
 rw[Y4];split
 .exact(h.ext1 (.inl q_) (λx g=>Yz g)).ext2 (λx g=>Zn g)
 .exact h.ext1 (.inr q_) (λx g=>Yz g)
def Avl{n:Ai}(g:n.Fin)(d:Int):(J0 n d).length<4294967296:=by
 have j:=Q9 n g d;unfold At at j;rw[J0];split
 .rename_i l;have i:d.toNat<n.c.length:=by have:=l.1;omega
  have o:=g.ae _ (zI i);unfold At at o;have p:=tH (Md n d) (Ci n d);rw[Ajz,Aj i,zR,yS];omega
 .decide
def Alk{n:Ai}(g:n.Fin)(d:Int):(Hw n d).length<4294967296:=by
 have i:=g.r;unfold At at i;rw[Hw];split
 .have:=nF n (Af n.c d).ar n.r.length;omega
 .decide
abbrev A9m(n:Ai)(S:Dn)(d k:Int):It:=[(0,.box [.sl 5 Bh n.j,.sl 7 Bm n.g,.sl 3 Dq n.x,.sl 6 Ax n.c,.sl 4 Bp n.ab,.sl 4 B6 n.y,.sl 5 D5 n.ag,.sl 5 Dx n.r,.osl 1,.osl 2,.osl 1000]),
 (1,.row 1 Ab S.m0),(2,.row 1 Ab S.m1),(3,.non),(1000,.row 7 nM S.list),(4,.box [Aa d,Aa k])]
def Bfo(n:Ai)(hn:n.Fin)(hu:Eb n)(hD:n.c.length<1000000)(S:Dn)(hS:S.OK n)(i:Int)(hi:0<=i/\i.toNat<S.list.length):Sq 117 [.ptr 0 0,Aa i] (Afh n S) (.tup []) (Abk n (Y4 n S i)):=cT F117 ntmps117 λF hF=>by
 have t:=Y4.eq_1 n S i;rw[Aj hi.2]at t;generalize Y4 n S i=a2 at *;have xy:=(hS.az _ (zI hi.2)).2;obtain ⟨f,hf⟩:=kE (S.list[i.toNat]'hi.2);rw[hf]at t xy;obtain ⟨d,k,hp,ah⟩:=f;dsimp only at t xy;have q1:=Azc n hn d;have q2:=Amm n hn hu d;have lz:=λh=>Yz (n:=n) (d:=d) (h:=h)
 have xz:=λh=>Zn (n:=n) (d:=d) (q:=h)
 have wz:=Avl hn d;have m6:=Alk hn d;generalize J0 n d=g at *;generalize Hw n d=o at *;have yu:∀k,k=0\/k=1->∀j,(ext1 S k i (g.take j)).OK n:=λk hk j=>hS.ext1 hk (λx hx=>lz x (wK hx))
 have uw:∀j,(ext2 (ext1 S 0 i g) i (o.take j)).OK n:=λj=>Dn.OK.ext2 (hS.ext1 (.inl rfl) (λx hx=>lz x hx)) (λx hx=>xz x (wK hx))
 have af:=λk j h hj hh=>A7n S k i (l:=g) (j:=j) (h:=h) hj hh
 have nk:=λj h hj hh=>A7m (ext1 S 0 i g) i (l:=o) (j:=j) (q:=h) hj hh
 refine fW ?_;refine⟨hi.1,hi.2,?_⟩;refine fW ?_;refine⟨by intro e;rw[e]at hi;simp at hi,?_⟩;refine fW ?_;refine⟨q_,hi.2,?_⟩;rw[hf];refine fW ?_;rcases xy with rfl|rfl
 .rw[zE rfl]at t;have yu:=yu 0 qq;have af:=af 0;refine gK q1 F198 ?_;refine⟨y_,?_⟩;refine fW ?_;refine eV 3 1000 q_ q_ qq ?_;refine Bl g.length (λj=>[(0,.ptr 0 0),(1,Aa i),(4,.ptr 4 0),(23,.sl 4 Er g),(24,Aa g.length),(25,Aa j)]) (λj=>A9m n (ext1 S 0 i (g.take j)) d 0) []
   kU ?_
  intro j hj;have I:=yu j;have a0:=I.le;have l0:=I.l0;have x3:=af j;generalize wj:ext1 S 0 i (g.take j)=Sj at *;refine gH ?_ ?_<;>intro h
  .have p:j<g.length:=by simpa using h
   have J:(j:Int).toNat<g.length:=kS p;obtain ⟨hp,r⟩:=kE (g[(j:Int).toNat]'J);have nu:=lz hp (by rw[<-r];exact zI _);have sc:=x3 hp p r;have R:=Bbd n Sj hp.l hp i (by rw[l0];exact nu) (by unfold At;omega);rw[<-sc]at R;refine fU ?_;refine⟨q_,by omega,J,?_⟩;rw[r];refine fW ?_;refine Al (Ad [(0,0),(1,1),(2,2),(3,1000),(4,1001)] q_ F196 R q_ kA q_ kB) q_ q_ (gE ?_);exact A9 [(1000,1001)] p kU
  .have:j=g.length:=qB h;subst this;rw[yM]at wj;simp only[wj]at t uw nk;refine gK q2 F199 ?_;refine⟨y_,?_⟩;refine fW ?_;refine Bl o.length (λj=>[(0,.ptr 0 0),(1,Aa i),(4,.ptr 4 0),(48,.sl 3 Wg o),(49,Aa o.length),(50,Aa j)]) (λj=>A9m n (ext2 Sj i (o.take j)) d 0) []
    kU ?_
   intro j hj;have I:=uw j;have a0:=I.le;have l0:=I.l1;have x3:=nk j;generalize a1:ext2 Sj i (o.take j)=Sk at *;refine gH ?_ ?_<;>intro h
   .have p:j<o.length:=by simpa using h
    have J:(j:Int).toNat<o.length:=kS p;obtain ⟨hp,r⟩:=kE (o[(j:Int).toNat]'J);have nu:=xz hp (by rw[<-r];exact zI _);have sc:=x3 hp p r;have R:=Bbc n Sk hp.l ⟨3,0,hp.l,hp.addr⟩ i (by rw[l0];exact nu) (by unfold At;omega);rw[<-sc]at R;refine fU ?_;refine⟨q_,by omega,J,?_⟩;rw[r];refine fW ?_;refine Al (Ad [(0,0),(1,1),(2,2),(3,1000),(4,1001)] q_ F196 R q_ kA q_ kB) q_ q_ (gE ?_);exact A9 [(1000,1001)] p kU
   .have:j=o.length:=qB h;subst this;rw[yM]at a1;rw[a1]at t;subst t;refine fU ?_;exact Bf q_ .nil [(4,1000)] (Abk n _) (λ_ h=>h) q_ q_ kU
 .rw[zD qq]at t;clear uw nk q2 m6 xz;have yu:=yu 1 qq;have af:=af 1;refine gK q1 F198 ?_;refine⟨y_,?_⟩;refine fW ?_;refine eV 3 1000 q_ q_ qq ?_;refine Bl g.length (λj=>[(0,.ptr 0 0),(1,Aa i),(4,.ptr 4 0),(23,.sl 4 Er g),(24,Aa g.length),(25,Aa j)]) (λj=>A9m n (ext1 S 1 i (g.take j)) d 1) []
   kU ?_
  intro j hj;have I:=yu j;have a0:=I.le;have l0:=I.l1;have x3:=af j;generalize wj:ext1 S 1 i (g.take j)=Sj at *;refine gH ?_ ?_<;>intro h
  .have p:j<g.length:=by simpa using h
   have J:(j:Int).toNat<g.length:=kS p;obtain ⟨hp,r⟩:=kE (g[(j:Int).toNat]'J);have nu:=lz hp (by rw[<-r];exact zI _);have sc:=x3 hp p r;have R:=Bbc n Sj hp.l hp i (by rw[l0];exact nu) (by unfold At;omega);rw[<-sc]at R;refine fU ?_;refine⟨q_,by omega,J,?_⟩;rw[r];refine fW ?_;refine Al (Ad [(0,0),(1,1),(2,2),(3,1000),(4,1001)] q_ F196 R q_ kA q_ kB) q_ q_ (gE ?_);exact A9 [(1000,1001)] p kU
  .have:j=g.length:=qB h;subst this;rw[yM]at wj;rw[wj]at t;subst t;refine fU ?_;exact Bf q_ .nil [(4,1000)] (Abk n _) (λ_ h=>h) q_ q_ kU
def Qh(n:Ai)(dev:Int)(S:Dn)(v:Int):Dn:=if v=0 then S else Hf S (D2 n dev v) 0 ⟨0,0,D2 n dev v,0⟩ (-1)
def Q5(n:Ai):Dn:=⟨List.replicate n.c.length false,List.replicate n.c.length false,[]⟩
def Wp(n:Ai)(dev:Int)(l:List Int):Dn:=l.foldl (Qh n dev) (Q5 n)
def I1(n:Ai)(port:Int):Dn:=Wp n (Af n.g port).q ((Af n.g port).native::(Af n.g port).u)
def Awv(n:Ai)(dev:Int){l:List Int}{j:Nat}{v:Int}(g:j<l.length)(i:l[j]=v):Wp n dev (l.take (j+1))=Qh n dev (Wp n dev (l.take j)) v:=by
 subst i;rw[Wp,vU,zT g,xS];rfl
def Ast(n:Ai):(Q5 n).OK n:=⟨by simp[Q5],by simp[Q5],λf g=>by simp[Q5]at g,by simp[Q5]⟩
def fY{n:Ai}{dev:Int}{l:List Int}(h:∀v∈l,v≠0->0<=D2 n dev v/\(D2 n dev v).toNat<n.c.length):(Wp n dev l).OK n:=by
 suffices j:∀(l:List Int) (S:Dn),S.OK n->(∀v∈l,v≠0->0<=D2 n dev v/\(D2 n dev v).toNat<n.c.length)->(l.foldl (Qh n dev) S).OK n from j l _ (Ast n) h
 intro l
 induction l with
 |nil=>exact λS h _=>h
 |cons x l o=>
  intro S g i;refine o _ ?_ (λv p=>i v (by simp[p]));rw[Qh];split
  .exact g
  .rename_i r;exact g.meet (i x qx r) (.inl q_) _ _
def Qt{n:Ai}(g:Ac n=true){i:Nat}(hi:i<n.g.length){v:Int}(j:v∈n.g[i].native::n.g[i].u)(l:v≠0):0<=D2 n n.g[i].q v/\(D2 n n.g[i].q v).toNat<n.c.length:=by
 rw[D2,zE g];refine Ac7 g hi ?_;simp only[Hk,zG,xF,yR,yL];refine⟨l,?_⟩;rcases yH.1 j with h|h
 .exact .inl h
 .exact .inr (wA.2 ⟨v,h,by simp⟩)
abbrev Ah5(n:Ai)(a b c:SV):Ob:=.box [.sl 5 Bh n.j,.sl 7 Bm n.g,.sl 3 Dq n.x,.sl 6 Ax n.c,.sl 4 Bp n.ab,.sl 4 B6 n.y,.sl 5 D5 n.ag,.sl 5 Dx n.r,a,b,c]
abbrev Ace:SV:=Jl
def madeO(n:Ai):Nat->It
 |0=>[(0,Ah5 n Ace Ace Ace)]
 |1=>[(0,Ah5 n (.osl 1001) Ace Ace),(1001,.row 1 Ab (List.replicate n.c.length false))]
 |_=>[(0,Ah5 n (.osl 1001) (.osl 1002) Ace),(1001,.row 1 Ab (List.replicate n.c.length false)),(1002,.row 1 Ab (List.replicate n.c.length false))]
abbrev srchB(n:Ai)(S:Dn)(vs:List Int):It:=[(0,Ah5 n (.osl 1001) (.osl 1002) (.osl 1003)),(1001,.row 1 Ab S.m0),(1002,.row 1 Ab S.m1),(1003,.row 7 nM S.list),(38,.row 1 Aa vs)]
def beginS(n:Ai)(hn:n.Fin)(hb:Ac n=true)(hD:n.c.length<1000000)(port:Int)(hp:0<=port/\port.toNat<n.g.length):Sq 113 [.ptr 0 0,Aa port] [(0,Ah5 n Ace Ace Ace)] (.tup []) (Afh n (I1 n port)):=cT F113 ntmps113 λF hF=>by
 have J:=I1.eq_1 n port;rw[Aj hp.2]at J;generalize I1 n port=a3 at *;have R:=λv i g=>Qt hb hp.2 (v:=v) i g
 have r:=hn.u _ (zI hp.2);unfold At at r;obtain ⟨p,m5⟩:=kE (n.g[port.toNat]'hp.2);rw[m5]at J R r;have aq:∀j,(Wp n p.q ((p.native::p.u).take j)).OK n:=λj=>fY λv i g=>R v (wK i) g
 have a0:=λj v hj hh=>Awv n p.q (l:=p.native::p.u) (j:=j) (v:=v) hj hh
 have hd:=λv=>Q8 n hn p.q v
 refine fW ?_;refine⟨q_,hp.1,hp.2,?_⟩;rw[m5];refine fW ?_;refine Bi 4 7 (Bm p) q_ q_ q_ ?_;refine Bb 2 (λ_=>True) (λj=>[(0,.ptr 0 0),(4,.ref 7 (Bm p) 0),(17,Aa j)]) (λj=>madeO n j) [] z_ kU ?_;intro j hj _;refine gH ?_ ?_<;>intro h
 .have t:j<2:=qA h;have I:j=0\/j=1:=by omega
  rcases I with rfl|rfl
  .refine fU ?_;refine C6 (Cw Γ.toTy (d:=28) (n:=n.c.length) Ab false q_ q_ q_ q_ q_ q_ q_ q_ j_ j_ q_ q_ q_) y_ q_ (fU ?_);refine⟨by decide,by decide,?_⟩;refine fW ?_;refine⟨y_,?_⟩;refine fW ?_;refine⟨by unfold S2;decide,?_⟩;refine fW ?_;exact A6 [(1001,28)] z_ qq z_ kU
  .refine fU ?_;refine C6 (Cw Γ.toTy (d:=28) (n:=n.c.length) Ab false q_ q_ q_ q_ q_ q_ q_ q_ j_ j_ q_ q_ q_) y_ q_ (fU ?_);refine⟨by decide,by decide,?_⟩;refine fW ?_;refine⟨y_,?_⟩;refine fW ?_;refine⟨by unfold S2;decide,?_⟩;refine fW ?_;exact A6 [(1002,28)] z_ qq z_ kU
 .have:j=2:=qB h;subst this;refine fU ?_;refine Al (Ah Γ.toTy 38 q_ q_ q_ q_ q_ (.lit (e:=Aa) (l:=[p.native]) q_ q_) .sl qq kO kO) q_ q_ (Zb 0 10 1003 7 nM q_ q_ q_ q_ ?_);refine fU ?_;generalize j5:p.native::p.u=vs at *;have jc:vs.length=p.u.length+1:=by rw[<-j5];rfl
  refine Bl vs.length (λj=>[(0,.ptr 0 0),(4,.ref 7 (Bm p) 0),(38,.osl 38),(39,Aa vs.length),(40,Aa j)]) (λj=>srchB n (Wp n p.q (vs.take j)) vs) []
   ⟨⟨rfl,rfl,rfl,rfl,rfl,rfl,zH Aa (by rw[jc];rfl),rfl,rfl,rfl,trivial⟩,⟨.inl rfl,rfl,.inl rfl,rfl,.inl rfl,rfl,.inl rfl,rfl,.inl (zH (Ob.row 1 Aa) j5.symm),rfl,trivial⟩,rfl,rfl⟩ ?_
  intro j hj;have sx:=aq j;have a4:=sx.le;have l0:=sx.l0;have x3:=a0 j;generalize wj:Wp n p.q (vs.take j)=Sj at *;refine gH ?_ ?_<;>intro h
  .have t:j<vs.length:=by simpa using h
   have ai:(j:Int).toNat<vs.length:=kS t;obtain ⟨v,i⟩:=kE (vs[(j:Int).toNat]'ai);have gw:v∈vs:=by rw[<-i];exact zI _
   have o:=x3 v t i;rw[Qh]at o;have a1:=hd v;have a2:=R v gw;generalize D2 n p.q v=dm at *;refine fU ?_;refine⟨by omega,ai,?_⟩;refine fW ?_;refine⟨q_,ai,?_⟩;rw[i];refine gR ?_ ?_<;>intro h
   .have g:v≠0:=by simpa using h
    rw[zD g]at o;have q3:=Bbd n Sj dm ⟨0,0,dm,0⟩ (-1) (by rw[l0];exact a2 g) (by unfold At;omega);rw[<-o]at q3;refine gK a1 F195 ?_;refine⟨y_,?_⟩;refine fW ?_;refine Al (Ad [(0,0),(1,1001),(2,1002),(3,1003),(4,1004)] q_ F196 q3 q_ kA q_ kB) q_ q_ (gE ?_);exact A9 [(1003,1004)] t kU
   .have g:v=0:=by simpa using h
    rw[zE g]at o;refine gE ?_;exact A9 [] t ⟨kA,⟨.inl q_,q_,.inl (zH (λS=>Ob.row 1 Ab (Dn.m0 S)) o),q_,.inl (zH (λS=>Ob.row 1 Ab (Dn.m1 S)) o),q_,.inl (zH (λS=>Ob.row 7 nM (Dn.list S)) o),q_,.inl q_,q_,z_⟩,q_,q_⟩
  .have:j=vs.length:=qB h;subst this;rw[yM]at wj;rw[wj]at J;subst J;refine fU ?_;exact Bf q_ .nil [(1,1001),(2,1002),(3,1003)] (Afh n _) (λ_ h=>h) q_ q_ kU
def Atg(D:List Kg)(R:D.length<4294967296):Sq 197 [.osl 0] [(0,.row 4 Er D)] (.tup []) [(0,.row 4 Er D.reverse)]:=cT F197 ntmps197 λF hF=>by
 refine gJ ?_;refine Bl (D.length/2) (λj=>[(0,.osl 0),(2,Aa j),(3,Aa ((D.length:Int)-1-j))]) (λj=>[(0,.row 4 Er (bB D j))]) []
  ⟨⟨rfl,rfl,rfl,rfl,zH (λz=>SV.val (.int .i64 z)) j_,rfl,trivial⟩,⟨.inl (zH (Ob.row 4 Er) (Aej D)),rfl,trivial⟩,rfl,rfl⟩ ?_
 intro i hi;have o:=H6 D i;refine fU ?_;constructor<;>intro l
 .have p:2*i+1<D.length:=by have:=zO l;omega
  obtain ⟨u,g⟩:=kE (bB D i);obtain ⟨k,r⟩:=kE (D.length-1-i);have t:(D.length:Int)-1-i=(k:Nat):=by omega
  rw[g]at o;have I:=Aek g p r j_ j_;rw[g,t];refine fU ?_;refine⟨by omega,by omega,?_⟩;refine fW ?_;refine⟨q_,by omega,?_⟩;refine fW ?_;refine⟨by omega,by omega,?_⟩;refine fW ?_;refine⟨q_,by omega,?_⟩;refine fW ?_;refine⟨by omega,by omega,?_⟩;refine fW ?_;refine⟨q_,by omega,u[k],q_,q_,?_⟩;refine fW ?_;refine⟨by omega,by simp;omega,?_⟩;refine fW ?_;refine⟨q_,by simp;omega,u[i],q_,q_,?_⟩;refine fW ?_;refine⟨y_,?_⟩;refine gJ ?_;refine iL ?_;refine fW ?_;refine A9 [] j_ ⟨⟨q_,q_,q_,q_,zH (λz=>SV.val (.int .i64 z)) j_,q_,z_⟩,⟨.inl (zH (Ob.row 4 Er) I.symm),q_,z_⟩,q_,q_⟩
 .have J:D.length<=2*i+1:=by have:=zQ l;omega
  rw[Aii D i J];refine fU ?_;exact Bf q_ .nil [] [(0,.row 4 Er D.reverse)] (λ_ h=>h) q_ q_ kU
def Mw(l:List Fnd)(i:Int):List Kg :=
 if _h:0<=i/\(Af l i).ahead<i then (Af l i).hop::Mw l (Af l i).ahead else []
 termination_by (i+1).toNat
 decreasing_by omega
def Ia(l:List Fnd)(i:Int):List Kg:=(Mw l i).reverse
def Hu(l:List Fnd):Prop:=∀i (h:i<l.length),-1<=l[i].ahead/\l[i].ahead<i
theorem Hu.snoc{l:List Fnd}(h:Hu l){f:Fnd}(j:-1<=f.ahead/\f.ahead<l.length):Hu (l++[f]):=λi hi=>by
 by_cases g:i<l.length
 .rw[yZ g];exact h i g
 .have:i=l.length:=by simp at hi;omega
  subst this;simpa using j
theorem Hu.meet{S:Dn}(h:Hu S.list)(d k:Int)(hp:Kg){a:Int}(g:-1<=a/\a<S.list.length):Hu (Hf S d k hp a).list/\S.list.length<=(Hf S d k hp a).list.length:=by
 rw[Hf];split
 .exact⟨h,yG _⟩
 .rw[Wa];split
  .exact⟨h.snoc g,by simp⟩
  .exact⟨h.snoc g,by simp⟩
theorem Hu.ext1{k i:Int}:∀{l:List Kg} {S:Dn},Hu S.list->(-1<=i/\i<S.list.length)->Hu (ext1 S k i l).list/\S.list.length<=(ext1 S k i l).list.length
 |[],S,h,_=>⟨h,yG _⟩
 |x::l,S,h,hi=>by
  obtain ⟨g,j⟩:=h.meet x.l k x hi;obtain ⟨o,p⟩:=Hu.ext1 (k:=k) (i:=i) (l:=l) g ⟨hi.1,by omega⟩;exact⟨o,wI j p⟩
theorem Hu.ext2{i:Int}:∀{l:List lL} {S:Dn},Hu S.list->(-1<=i/\i<S.list.length)->Hu (ext2 S i l).list/\S.list.length<=(ext2 S i l).list.length
 |[],S,h,_=>⟨h,yG _⟩
 |x::l,S,h,hi=>by
  obtain ⟨g,j⟩:=h.meet x.l 1 ⟨3,0,x.l,x.addr⟩ hi;obtain ⟨o,p⟩:=Hu.ext2 (i:=i) (l:=l) g ⟨hi.1,by omega⟩;exact⟨o,wI j p⟩
theorem Hu.ext{n:Ai}{S:Dn}(h:Hu S.list){i:Int}(hi:0<=i/\i<S.list.length):Hu (Y4 n S i).list/\S.list.length<=(Y4 n S i).list.length:=by
 rw[Y4];split
 .obtain ⟨g,j⟩:=h.ext1 (k:=0) (i:=i) (l:=J0 n (Af S.list i).l) ⟨by omega,hi.2⟩;obtain ⟨o,p⟩:=g.ext2 (i:=i) (l:=Hw n (Af S.list i).l) ⟨by omega,by omega⟩;exact⟨o,wI j p⟩
 .exact h.ext1 ⟨by omega,hi.2⟩
def aM(n:Ai)(dev:Int)(l:List Int):Hu (Wp n dev l).list:=by
 suffices j:∀(l:List Int) (S:Dn),Hu S.list->Hu (l.foldl (Qh n dev) S).list from j l _ (λi h=>by simp[Q5]at h)
 intro l
 induction l with
 |nil=>exact λS h=>h
 |cons x l o=>
  intro S g;refine o _ ?_;rw[Qh];split
  .exact g
  .exact(g.meet _ _ _ ⟨by omega,by omega⟩).1
abbrev srchA(n:Ai)(S:Dn)(l:List Kg):It:=[(0,Ah5 n (.osl 1) (.osl 2) (.osl 3)),(1,.row 1 Ab S.m0),(2,.row 1 Ab S.m1),(3,.row 7 nM S.list),(1000,.row 4 Er l)]
def backS(n:Ai)(S:Dn)(J:Hu S.list)(hl:S.list.length<4000000)(i:Int)(hi:-1<=i/\i<S.list.length):Sq 116 [.ptr 0 0,Aa i] (Afh n S) (.sl 4 Er (Ia S.list i)) (Afh n S):=cT F116 ntmps116 λF hF=>by
 have t:=Ia.eq_1 S.list i;generalize Ia S.list i=R at *;refine fW ?_;refine Ct 5 1000 4 Er q_ q_ ?_;refine Dc (λx:Int×List Kg=>(-1<=x.1/\x.1<S.list.length)/\x.2.length+(x.1+1).toNat<=S.list.length/\x.2++Mw S.list x.1=Mw S.list i)
  (λx=>[(0,.ptr 0 0),(1,Aa x.1),(5,.osl 1000)]) (λx=>srchA n S x.2) (λx=>(x.1+1).toNat) (i,[]) [] ⟨hi,by simp;omega,rfl⟩
  kU ?_
 rintro ⟨z,o⟩ ⟨hz,m7,j⟩;dsimp only at hz m7 j;refine gH ?_ ?_<;>intro h
 .have p:0<=z:=zO h;have g:z.toNat<S.list.length:=by omega
  have I:=J z.toNat g;rw[Mw,Aj g]at j;obtain ⟨f,r⟩:=kE (S.list[z.toNat]'g);rw[r]at j I;rw[dif_pos ⟨p,by omega⟩]at j;refine fU ?_;refine⟨p,g,?_⟩;refine fW ?_;refine⟨by intro e;rw[e]at g;simp at g,?_⟩;refine fW ?_;refine⟨q_,g,?_⟩;rw[r];refine fW ?_;refine Al (Ah Γ.toTy 26 q_ q_ q_ q_ q_ (.row q_) (.lit (e:=Er) (l:=[f.hop]) q_ q_) qx kO kO) q_ q_ (fU ?_);refine⟨p,g,?_⟩;refine fW ?_;refine⟨by intro e;rw[e]at g;simp at g,?_⟩;refine fW ?_;refine⟨q_,g,?_⟩;rw[r];refine fW ?_;exact A8 (f.ahead,o++[f.hop]) [(1000,26)] ⟨⟨I.1,by omega⟩,by simp;omega,by rw[yW];exact j⟩ (by simp only;omega)
   kU
 .have p:¬0<=z:=zQ h;rw[Mw,dif_neg (λe=>p e.1),yV]at j;have q:=Atg o j_;rw[<-j]at t;refine fU ?_;refine Al (Ad [(0,1000)] q_ F197 q q_ ⟨q_,z_⟩ q_ ⟨.inl q_,z_⟩) q_ q_ (Ao 1000 q_ ?_);rw[<-t];refine fU ?_;exact done q_ As [] (Afh n S) (λ_ h=>h) q_ q_ kU
def Jj(n:Ai)(g:Int):Nat->Dn->Nat->List Kg×Bool
 |0,_,_=>([],false)
 |k+1,S,i=>if i<S.list.length then (if Li (Ci n (Af S.list i).l) g=true then (Ia S.list i,true) else Jj n g k (Y4 n S i) (i+1)) else ([],false)
def Kh(n:Ai)(from_ g:Int):List Kg×Bool :=
 if Qq n from_=true/\Qq n g=true/\from_≠g/\Ac n=true then Jj n g (2*n.c.length+1) (I1 n from_) 0 else ([],false)
abbrev srchW(n:Ai)(S:Dn):It:=[(32,Ah5 n (.osl 1001) (.osl 1002) (.osl 1003)),(1001,.row 1 Ab S.m0),(1002,.row 1 Ab S.m1),(1003,.row 7 nM S.list)]
def dG{n:Ai}{i:Int}(h:Qq n i=true):0<=i/\i.toNat<n.g.length:=by
 simp only[Qq,zG,zK]at h;omega
def wayS(n:Ai)(o:n.Fin)(hu:Eb n)(from_ j:Int):Sp 56 [Aq n,Aa from_,Aa j] (.tup [.sl 4 Er (Kh n from_ j).1,Ab (Kh n from_ j).2]):=cT F56 ntmps56 λF hF=>by
 have g:=Kh.eq_1 n from_ j;generalize Kh n from_ j=I at *;have hr:=A7 n o;have h1:=Aa7 n from_;have h2:=Aa7 n j;refine fW ?_;refine Bi 3 8 (Aq n) q_ q_ q_ (gL h1 F57 ?_);cases J:Qq n from_
 .rw[zD (by simp[J])]at g;subst g;refine fU ?_;exact Ar 6 4 Er q_ gC
 refine gL h2 F57 ?_;cases ht:Qq n j
 .rw[zD (by simp[ht])]at g;subst g;refine fU ?_;exact Ar 6 4 Er q_ gC
 refine gH ?_ ?_<;>intro h
 .rw[zD (by have:from_=j:=(kS h);simp[this])]at g;subst g;refine fU ?_;exact Ar 6 4 Er q_ gC
 have ag:from_≠j:=kS h;refine gL hr F49 ?_;cases p:Ac n
 .rw[zD (by simp[p])]at g;subst g;refine fU ?_;exact Ar 6 4 Er q_ gC
 rw[zE ⟨J,ht,ag,p⟩]at g;have hD:n.c.length<1000000:=by have:=(Ac8 p).2.2.2.1;omega
 have hp:=dG J;have q0:=beginS n o p hD from_ hp;have ym:(I1 n from_).OK n:=by
  rw[I1,Aj hp.2];exact fY λv hv h0=>Qt p hp.2 hv h0
 have yn:Hu (I1 n from_).list:=by rw[I1];exact aM _ _ _
 generalize I1 n from_=S0 at *;refine fU ?_;refine Al (Ad [(0,32),(1,1001),(2,1002),(3,1003)] q_ F113 q0 q_ ⟨q_,z_⟩ q_ kB) q_ q_ (fU ?_);refine Dc (λx:Dn×Nat=>x.1.OK n/\Hu x.1.list/\x.2<=x.1.list.length/\I=Jj n j (2*n.c.length+1-x.2) x.1 x.2)
  (λx=>[(2,Aa j),(3,.ref 8 (Aq n) 0),(8,.ptr 32 0),(9,Aa x.2)]) (λx=>srchW n x.1) (λx=>2*n.c.length+1-x.2) (S0,0) [] ⟨ym,yn,xV _,g⟩
  kU ?_
 clear g ym yn q0;rintro ⟨S,i⟩ ⟨ok,R,hi,g⟩;dsimp only at ok R hi g|-;have a3:=ok.le;obtain ⟨r,a0⟩:∃k,2*n.c.length+1-i=k+1:=⟨2*n.c.length-i,by omega⟩
 rw[a0,Jj]at g;refine gH ?_ ?_<;>intro h
 .have l:i<S.list.length:=qA h;have t:(i:Int).toNat<S.list.length:=kS l;rw[zE l,Aj t]at g;obtain ⟨f,rl⟩:=kE (S.list[(i:Int).toNat]'t);rw[rl]at g;have q1:=X4 n o f.l;have q2:=Ij (Ci n f.l) j (Q9 n o f.l);generalize Ci n f.l=mem at *;refine fU ?_;refine⟨by omega,t,?_⟩;refine fW ?_;refine⟨by intro e;rw[e]at l;simp at l,?_⟩;refine fW ?_;refine⟨by intro e;rw[e]at l;simp at l,?_⟩;refine fW ?_;refine⟨q_,t,?_⟩;rw[rl];refine fW ?_;refine cD q1 F115 (gK q2 F114 ?_);refine⟨y_,?_⟩;refine fW ?_;generalize Li mem j=bm at *;cases bm
  .refine aF ?_;rw[zD qx]at g;have q3:=Bfo n o hu hD S ok i ⟨by omega,t⟩;have a1:=ok.ext i;have a2:=R.ext (n:=n) (i:=i) ⟨by omega,by omega⟩;generalize Y4 n S i=S' at *;refine fU ?_;refine Al (Ad [(0,32),(1,1001),(2,1002),(3,1003),(4,1004)] q_ F117 q3 q_ kA q_ kB) q_ q_ (gE ?_);exact A8 (S',i+1) [(1003,1004)] ⟨a1,a2.1,by simp only;omega,by simp only;rw[show 2*n.c.length+1-(i+1)=r by omega];exact g⟩ (by simp only;omega)
    kU
  .refine aT ?_;rw[zE rfl]at g;subst g;have q4:=backS n S R j_ i ⟨by omega,by omega⟩;generalize Ia S.list i=w at *;refine fU ?_;exact Al (Ad [(0,32),(1,1001),(2,1002),(3,1003)] q_ F116 q4 q_ kA q_ kB) q_ q_ gC
 .have l:¬i<S.list.length:=qB h;rw[zD l]at g;subst g;refine fU ?_;exact Ar 6 4 Er q_ gC
end
end Go.Sy.Zaa
