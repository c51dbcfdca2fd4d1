/- Parts of a proof. -/
import Derived.Test.YtodbnbfjhjcanaaGreatDoorXA2
set_option linter.all false
namespace Go.Sy
variable {C:Cx} {k:List KI} {s:SS}
inductive ResV(Γ:TypeId->Option TI)(s:SS):ResultVar->SV->Prop
 |tmp {t:Nat}:ResV Γ s (.tmp t) (s.σ t)
 |cell {a:Nat} {t:TypeId} {k off:Nat} {l:List SV} {i:TI} {x:SV} (h1:s.σ a=.ptr k off) (h2:s.h k=.box l) (h3:Γ t=some i) (h4:Of i l off=some x):ResV Γ s (.cell a t) x
inductive ResVs(Γ:TypeId->Option TI)(s:SS):List ResultVar->List SV->Prop
 |nil:ResVs Γ s [] []
 |cons {r:ResultVar} {rs:List ResultVar} {x:SV} {xs:List SV} (h:ResV Γ s r x) (hs:ResVs Γ s rs xs):ResVs Γ s (r::rs) (x::xs)
theorem Ap{Γ:TypeId->Option TI}{s:SS}{t:Nat}:ResVs Γ s [.tmp t] [s.σ t]:=.cons .tmp .nil
def Ac6:List SV->SV
 |[x]=>x
 |xs=>.tup xs
theorem Awx{F:Fr}{n:Nat}{m:Ka}{a:Act}{w:World}{P:Program}{Γ:Ty P}(hs:St F n s m a w){r:ResultVar}{x:SV}(h:ResV Γ.get s r x):∃v,(match r with| .tmp t=>(pure (a.tmps.getD t undef):Sem Value)| .cell b t=>do loadVar t (<-asAddr (a.tmps.getD b undef))).run P w=.ok v w/\Rd m w x v:=by
 cases h with
 | @tmp t=>exact⟨_,rfl,hs.slot t⟩
 | @cell b t k off l i x h1 h2 h3 h4=>
  have hp:=hs.slot b;have ho:=hs.obj k;rw[h2]at ho;obtain ⟨bb,e1,e2⟩:=ho.cellsAt;rw[h1]at hp;simp only[Rd,e1]at hp;obtain ⟨v,e3,e4⟩:=M1 (P:=P) Γ h3 e2 h4;rw[xW]at e3;refine⟨v,?_,e4⟩;simp only[hp,Sem.run_bind,asAddr,Sem.run_pure,Result.andThen_ok,e3]
theorem U7{F:Fr}{n:Nat}{k:Ka}{a:Act}{w:World}{P:Program}{Γ:Ty P}(hs:St F n s k a w){fn:Func}{rs:List ResultVar}(hf:fn.results=rs.toArray){xs:List SV}(h:ResVs Γ.get s rs xs):∃v,(results fn a.tmps).run P w=.ok v w/\Rd k w (Ac6 xs) v:=by
 have key:∀(rs:List ResultVar) (xs:List SV),ResVs Γ.get s rs xs->∃vs:List Value,(rs.mapM (λ(r:ResultVar)=>match r with| .tmp t=>(pure (a.tmps.getD t undef):Sem Value)| .cell b t=>do loadVar t (<-asAddr (a.tmps.getD b undef)))).run P w=.ok vs w/\RdL k w xs vs:=by
  intro rs xs h
  induction h with
  |nil=>exact⟨[],by simp,by simp[RdL]⟩
  | @cons r rs x xs h xb ih=>
   obtain ⟨v,h1,h2⟩:=Awx (P:=P) (Γ:=Γ) hs h;obtain ⟨vs,h3,h4⟩:=ih;refine⟨v::vs,?_,by simp only[RdL];exact⟨v,vs,E,h2,h4⟩⟩;simp only[List.mapM_cons,Sem.run_bind,h1,Result.andThen_ok,h3,Sem.run_pure]
 obtain ⟨vs,h1,h2⟩:=key rs xs h;have au:(fn.results.mapM (λ(r:ResultVar)=>match r with| .tmp t=>(pure (a.tmps.getD t undef):Sem Value)| .cell b t=>do loadVar t (<-asAddr (a.tmps.getD b undef)))).run P w=.ok vs.toArray w:=by
  rw[hf,Array.mapM_eq_mapM_toList];simp only[Sem.run_map,h1,Result.andThen_ok]
 refine⟨if h:vs.toArray.size=1 then vs.toArray[0] else .tuple vs.toArray,?_,?_⟩
 .unfold results;rw[Sem.run_bind];change ((Sem.run P (fn.results.mapM (λ(r:ResultVar)=>match r with| .tmp t=>(pure (a.tmps.getD t undef):Sem Value)| .cell b t=>do loadVar t (<-asAddr (a.tmps.getD b undef)))) w).andThen λq w'=>Sem.run P (pure (if h:q.size=1 then q[0] else Value.tuple q)) w')=_;rw[au];rfl
 .have hlen:=h2.length
  match xs,hlen,h2 with
  |[],hlen,h2=>
   simp only[RdL]at h2;subst h2;simp[Ac6,Rd,RdL]
  |[x],hlen,h2=>
   simp only[RdL]at h2;obtain ⟨v,r,rfl,h3,rfl⟩:=h2;simpa [Ac6] using h3
  |x::y::xs,hlen,h2=>
   have ag:vs.toArray.size≠1:=by simp at hlen|-;omega
   rw[dif_neg ag];simp only[Ac6,Rd];exact⟨vs,E,h2⟩
def argσ(A:List SV):Nat->SV:=λi=>match H6 A i with|some x=>x|none=>.val undef
theorem RdL.getD{k:Ka}{w:World}:∀{A:List SV} {vs:List Value} (m i:Nat),RdL k w A vs->Rd k w (argσ A i) ((vs++List.replicate m undef).getD i undef)
 |[],vs,m,i,h=>by
  simp only[RdL]at h;subst h;have:argσ [] i=.val undef:=by cases i<;>rfl
  rw[this];simp only[Rd,wC,wF,List.getElem?_replicate];split<;>rfl
 |x::A,vs,m,0,h=>by
  simp only[RdL]at h;obtain ⟨v,r,rfl,h1,h2⟩:=h;simpa [argσ,H6] using h1
 |x::A,vs,m,i+1,h=>by
  simp only[RdL]at h;obtain ⟨v,r,rfl,h1,h2⟩:=h;have:=RdL.getD (i:=i) m h2;simpa [argσ,H6] using this
def Xl(P:Program)(fn:Func)(F:Fr)(R:SV)(H':Obs):Exit->Act->World->Prop:=match F.ds with
 |[]=>bodyPost P fn λe w'=>∃v k',e=.returned v/\Ctx F k' w'/\Inv k' w'/\Rd k' w' R v/\H'.ok k' w'
 |_=>λ_ _ _=>True
theorem Aoe{k:Ka}{w:World}:∀{O:Obs} {i:Nat},(∀p∈O,ObOK k w p.1 p.2)->(i∉O.map (·.1)->k i=.new)->ObOK k w i (mkh O i)
 |[],i,_,h=>h qq
 |(j,x)::r,i,h1,h2=>by
  simp only[mkh,uG];split
  .rename_i hb;have:=yK hb;subst this;exact h1 (j,x) qq
  .rename_i hb;exact Aoe (λ p hp=>h1 p (by simp[hp])) (λ hi=>h2 (by
    simp only[xZ,yH,vW];exact⟨λ e=>hb (by subst e;simp),hi⟩))
theorem Ask{P:Program}(Γ:Ty P){f:FuncId}{fn:Func}{c:Code}{A:List SV}{H:Obs}{R:SV}{H':Obs}(hf:P.funcs[f]? = some fn)(hb:fn.body=some c){n:Nat}(l6:fn.ntmps=n)(hn:A.length<=n)(h:∀(F:Fr) (hF:∀k,F.k0 k≠.new->k∈H.keys),G ⟨P,Γ,F,n,Xl P fn F R H',H.keys,hF⟩ [.code c] ⟨argσ A,mkh H⟩):Spec P f A H R H':=by
 subst l6;intro a w vs hi ay hA hH;refine calls_of_wp hf hb ?_;have hlen:=hA.length;refine h ⟨w,a,[]⟩ ay a _ w ⟨E,?_,hi,Ctx.refl a w,?_,?_⟩
 .simp;omega
 .intro i;have:=hA.getD (fn.ntmps-vs.length) i;have he:(vs.toArray++Array.replicate (fn.ntmps-vs.length) undef)=(vs++List.replicate (fn.ntmps-vs.length) undef).toArray:=by simp
  show Rd a w _ ((vs.toArray++Array.replicate (fn.ntmps-vs.toArray.size) undef).getD i undef);rw[uV,he];simpa using this
 .intro k;exact Aoe hH (λhk=>Classical.byContradiction λag=>hk (ay k ag))
theorem Aqs{P:Program}{fn:Func}{F:Fr}{R:SV}{H':Obs}{Γ:Ty P}{n:Nat}{bn:List Nat}{hbn:∀k,F.k0 k≠.new->k∈bn}{rs:List ResultVar}(hf:fn.results=rs.toArray){xs:List SV}(hx:ResVs Γ.get s rs xs)(c:List (Nat×Nat))(L:Obs)(hL:∀p∈H',p∈L)(hR:R.ren (Bf c)=Ac6 xs)(nj:R.inn L.keys=true)(a6:Sub ⟨P,Γ,F,n,Xl P fn F R H',bn,hbn⟩ s c [] L){m:Ka}{a:Act}{w:World}(hs:St F n s m a w):Xl P fn F R H' .ret a w/\Xl P fn F R H' .normal a w:=by
 obtain ⟨v,h1,h2⟩:=U7 (P:=P) (Γ:=Γ) hs hf hx;have br:=a6.st hs;have kt:Ren (Bf c) L.keys m (Zy m (Bf c) L.keys):=⟨λk hk=>Zx hk⟩
 rw[<-hR]at h2;have h3:=Rd.unren kt (λb _=>Zw b) _ _ nj h2;have hO:H'.ok (Zy m (Bf c) L.keys) w:=λp hp=>by
  have hpL:=hL p hp;have h1:=a6.objs;have key:∀O':Obs,(∀q∈O',q.1∈L.keys)->Avj c L.keys s O'->∀q∈O',ObOK (Zy m (Bf c) L.keys) w q.1 q.2:=by
   intro O'
   induction O' with
   |nil=>intro _ _ q hq;cases hq
   |cons q r ih=>
    obtain ⟨j,x⟩:=q;intro hk hm q hq;simp only[Avj]at hm;rcases yH.1 hq with rfl|hq
    .rcases hm.1 with h4|h4
     .have h5:=hs.obj (Bf c j);rw[<-h4]at h5;exact ObOK.unren kt (λb _=>Zw b) (hk (j,x) qq) hm.2.1 h5
     .show ObOK _ _ j x;rw[h4];trivial
    .exact ih (λq hq=>hk q (by simp[hq])) hm.2.2 q hq
  exact key L (λq hq=>yS.2 ⟨q,hq,E⟩) h1 p hpL
 have fm:∃v' m',Ending.returned v=.returned v'/\Ctx F m' w/\Inv m' w/\Rd m' w R v'/\H'.ok m' w:=⟨v,_,rfl,br.ctx,br.inv,h3,hO⟩
 have h0:=hs.defers;unfold Xl;cases hd:F.ds with
 |nil=>
  rw[hd]at h0;exact⟨⟨h0,v,h1,fm⟩,⟨h0,v,h1,fm⟩⟩
 |cons=>exact⟨trivial,trivial⟩
theorem G_set(d:Nat){x:SV}(h:∀b w v,Rd b w (s.σ d) v->Rd b w x v)(hg:G C k ⟨upd s.σ d x,s.h⟩):G C k s:=λb a w hs=>
 hg b a w ⟨hs.defers,hs.size,hs.inv,hs.ctx,λ i=>by
  show Rd b w (upd s.σ d x i) _;by_cases hi:i=d
  .subst hi;rw[B1];exact h b w _ (hs.slot i)
  .rw[Cv _ _ hi];exact hs.slot i,hs.obj⟩
theorem Al1(d:Nat){sz:Nat}{m:Type}{e:m->SV}{l:List m}{svs:List SV}(h:s.h d=.lit sz svs)(hl:l.map e=svs)(hg:G C k ⟨s.σ,upd s.h d (.row sz e l)⟩):G C k s:=λr a w hs=>
 hg r a w ⟨hs.defers,hs.size,hs.inv,hs.ctx,hs.slot,λ i=>by
  show ObOK r w i (upd s.h d (.row sz e l) i);by_cases hi:i=d
  .subst hi;rw[B1];have:=hs.obj i;rw[h]at this;obtain ⟨b,cap,cs,T,fr,e1,e2,e3,e4,e5,e6⟩:=this;have hlen:l.length=svs.length:=by rw[<-hl];simp
   exact .inr ⟨b,cap,cs,T,fr,by rw[hlen];exact e1,e2,e3,e4,by omega,λi x hx=>by rw[hlen];exact e6 i x (Q6 hl i x hx)⟩
  .rw[Cv _ _ hi];exact hs.obj i⟩
theorem B6(i d sz:Nat){m:Type}(e:m->SV)(h:s.σ i=.val (.slice none 0 0))(hd:s.h d=.fresh)(hg:G C k ⟨upd s.σ i (.osl d),upd s.h d (.row sz e [])⟩):G C k s:=λr a w hs=>by
 have ay:r d=.new:=by have:=hs.obj d;rwa [hd]at this
 obtain ⟨st,inv⟩:=Ko hs.inv ay (e:=.nil) (Grew.refl w) (λb hb=>by cases hb);refine hg (D8 r d .nil) a w ⟨hs.defers,hs.size,inv,hs.ctx.step inv st,λj=>?_,λj=>?_⟩
 .show Rd _ w (upd s.σ i (.osl d) j) _;by_cases hj:j=i
  .subst hj;rw[B1];have:=hs.slot j;rw[h]at this;simp[Rd,Az,this.val]
  .rw[Cv _ _ hj];exact Rd.step st _ _ (hs.slot j)
 .show ObOK _ w j (upd s.h d (.row sz e []) j);by_cases hj:j=d
  .subst hj;rw[B1];exact .inl ⟨Az _ _ _,rfl⟩
  .rw[Cv _ _ hj];exact ObOK.step st hj _ (hs.obj j)
def freezeσ(σ:Nat->SV)(x:SV):List Nat->Nat->SV
 |[]=>σ
 |i::r=>freezeσ (upd σ i x) x r
theorem RowAt.freeze{k k':Ka}{w:World}{d sz:Nat}{a:Type}{e:a->SV}{l:List a}(h:RowAt k w d sz l.length (rowF e l)){v:Value}(hv:Rd k w (.osl d) v)(ho:∀b,b<w.heap.size->¬Own k b->¬Own k' b)(hd:∀b,(k d).block? = some b->b<w.heap.size/\¬Own k' b):Rd k' w (.sl sz e l) v:=by
 obtain ⟨b,cap,cs,T,fr,e1,e2,e3,e4,e5,e6⟩:=h;simp only[Rd,e1]at hv;obtain ⟨h1,h2⟩:=hd b (by rw[e1];rfl);simp only[Rd,RdD];refine .inr ⟨b,0,cap,hv,e5,h2,h1,λi hi=>?_⟩;obtain ⟨h0,u,u1,u2,u3,u4⟩:=e6 i (e l[i]) ⟨hi,rfl⟩;refine⟨u,RdD.keep ⟨yG _,λ_ _ _=>rfl,ho⟩ _ _ u1,u2,u3,λj hj=>?_⟩;rw[xW,cell_of_row w b _ cs.toArray T fr e2];simpa using u4 j hj
theorem freezeσ_ok{k:Ka}{w:World}{a:Act}{x:SV}:∀(r:List Nat) (σ:Nat->SV) (i:Nat),Rd k w (σ i) (a.tmps.getD i undef)->(i∈r->Rd k w x (a.tmps.getD i undef))->Rd k w (freezeσ σ x r i) (a.tmps.getD i undef)
 |[],σ,i,h,_=>h
 |j::r,σ,i,h,h'=>by
  refine freezeσ_ok r (upd σ j x) i ?_ (λhi=>h' (by simp[hi]));by_cases hj:i=j
  .subst hj;rw[B1];exact h' qq
  .rw[Cv _ _ hj];exact h
variable {C:Cx} {k:List KI} {s:SS}
structure Fun(P:Program)(f:FuncId)(fn:Func)(c:Code):Prop where
 has:P.funcs[f]? = some fn
 body:fn.body=some c
 name : (fn.name == "runtime.NumGoroutine") = false
theorem Mk{P:Program}{f:FuncId}{fn:Func}{c:Code}(h:Fun P f fn c)(args:Array Value)(w:World):(callFunc f args).run P w=.ok (.enter f args) w:=by
 have hn : ¬fn.name = "runtime.NumGoroutine" := kS h.name;simp[callFunc,h.has,hn,h.body]
theorem Spec.at{P:Program}{f:FuncId}{A:List SV}{H:Obs}{R:SV}{H':Obs}(h:Spec P f A H R H'){ρ:Nat->Nat}(gw:∀i∈H'.keys,∀j∈H'.keys,ρ i=ρ j->i=j)(oy:∀k∈H.keys,k∈H'.keys)(yo:B7 H.keys A=true)(hHn:∀p∈H,p.2.inn H.keys=true)(nj:R.inn H'.keys=true)(hHn':∀p∈H',p.2.inn H'.keys=true){a:Ka}{w:World}{vs:List Value}(hi:Inv a w)(hA:RdL a w (Lc ρ A) vs)(hH:∀p∈H,ObOK a w (ρ p.1) (p.2.ren ρ))(ay:∀k∈H'.keys,k∉H.keys->a (ρ k)=.new):Calls P f vs.toArray w λe w'=>∃v a',e=.returned v/\Step (λn=>∃k∈H'.keys,ρ k=n) a w a' w'/\Inv a' w'/\Rd a' w' (R.ren ρ) v/\∀p∈H',ObOK a' w' (ρ p.1) (p.2.ren ρ):=by
 let ac:Ka:=⟨λk=>if k∈H.keys then a (ρ k) else .new,λb=>a.M b\/∃n,(∀k∈H.keys,ρ k≠n)/\(a n).block? = some b⟩
 have tt:∀k,k∈H.keys->ac k=a (ρ k):=λk hk=>by simp[ac,hk]
 have lg:∀k,k∉H.keys->ac k=.new:=λk hk=>by simp[ac,hk]
 have rz:∀k b,(ac k).block? = some b->k∈H.keys/\(a (ρ k)).block? = some b:=λk b hb=>by
  by_cases hk:k∈H.keys
  .rw[tt k hk]at hb;exact⟨hk,hb⟩
  .rw[lg k hk]at hb;cases hb
 have hic:Inv ac w:=by
  refine⟨λi j b h1 h2=>?_,λj b h1=>hi.bnd _ b (rz j b h1).2,λj b h1 hm=>?_,λb hm=>?_⟩
  .obtain ⟨a1,a2⟩:=rz i b h1;obtain ⟨b1,b2⟩:=rz j b h2;exact gw i (oy i a1) j (oy j b1) (hi.inj _ _ b a2 b2)
  .obtain ⟨a1,a2⟩:=rz j b h1;rcases hm with hm|⟨n,hn,hm⟩
   .exact hi.apart _ b a2 hm
   .exact hn j a1 (hi.inj _ _ b a2 hm)
  .rcases hm with hm|⟨n,_,hm⟩
   .exact hi.mbnd b hm
   .exact hi.bnd n b hm
 have fp:∀b,b<w.heap.size->¬Own a b->¬Own ac b:=by
  rintro b _ hn (⟨j,hj⟩|(hm|⟨n,_,hm⟩))
  .exact hn (.inl ⟨_,(rz j b hj).2⟩)
  .exact hn (.inr hm)
  .exact hn (.inl ⟨n,hm⟩)
 have kt:Ren ρ H.keys a ac:=⟨λk hk=>tt k hk⟩
 have hA':RdL ac w A vs:=RdL.unren kt fp A vs yo hA;have hH':Obs.ok ac w H:=λp hp=>ObOK.unren kt fp (yS.2 ⟨p,hp,rfl⟩) (hHn p hp) (hH p hp)
 refine(h ac w vs hic (λj hj=>Classical.byContradiction λhn=>hj (lg j hn)) hA' hH').mono ?_;rintro e w' ⟨v,ad,rfl,bx,hid,hR,hO⟩
 let pick:Nat->Option Nat:=λn=>H'.keys.find? (λk=>decide (ρ k=n))
 let a':Ka:=⟨λn=>match pick n with|some k=>ad k|none=>a n,a.M⟩
 have ig:∀k,k∈H'.keys->pick (ρ k)=some k:=λk hk=>by
  cases hf:pick (ρ k) with
  |none=>
   have:=List.find?_eq_none.1 hf k hk;simp at this
  |some j=>
   have h1:=List.find?_some hf;have h2:=List.mem_of_find?_eq_some hf;rw[gw j h2 k hk (zO h1)]
 have ff:∀n,(∀k∈H'.keys,ρ k≠n)->pick n=none:=λn hn=>List.find?_eq_none.2 (λk hk=>kS (hn k hk))
 have dh:∀k,k∈H'.keys->a' (ρ k)=ad k:=λk hk=>by show (match pick (ρ k) with|some k=>ad k|none=>a (ρ k))=ad k;rw[ig k hk]
 have dw:∀n,(∀k∈H'.keys,ρ k≠n)->a' n=a n:=λn hn=>by show (match pick n with|some k=>ad k|none=>a n)=a n;rw[ff n hn]
 have dg:∀n,(∃k∈H'.keys,ρ k=n)\/(∀k∈H'.keys,ρ k≠n):=λn=>by
  by_cases hn:∃k∈H'.keys,ρ k=n
  .exact .inl hn
  .exact .inr (λk hk e=>hn ⟨k,hk,e⟩)
 have hMd:ad.M=ac.M:=bx.M;have u6:∀b,b<w.heap.size->(∀j,(ac j).block? ≠ some b)->w'.heap[b]? = w.heap[b]?:=λb hb hn=>bx.old b hb hn
 have i7:∀j b,(ad j).block? = some b->w.heap.size<=b\/∃i∈H.keys,(a (ρ i)).block? = some b:=λj b hj=>by
  rcases bx.own j b hj with h1|⟨i,h1⟩
  .exact .inl h1
  .exact .inr ⟨i,rz i b h1⟩
 have gu:Step (λn=>∃k∈H'.keys,ρ k=n) a w a' w':=by
  refine⟨bx.size,bx.os,bx.tape,bx.output,E,λb hm=>?_,λb hb hn=>?_,λn b hn hb=>?_,λn hn=>dw n (λk hk e=>hn ⟨k,hk,e⟩),?_,?_⟩
  .exact u6 b (hi.mbnd b hm) (λj hj=>hi.apart _ b (rz j b hj).2 hm)
  .exact u6 b hb (λj hj=>hn (.inl ⟨_,(rz j b hj).2⟩))
  .refine u6 b (hi.bnd n b hb) (λj hj=>?_);obtain ⟨a1,a2⟩:=rz j b hj;exact hn ⟨j,oy j a1,hi.inj _ _ b a2 hb⟩
  .rintro n ⟨j,hj,rfl⟩;rw[dh j hj];by_cases hjH:j∈H.keys
   .by_cases yp:a (ρ j)=.new
    .exact .inl yp
    .have:=bx.nam j (by show ac j≠.new;rw[tt j hjH];exact yp);rw[<-tt j hjH];exact .inr this
   .exact .inl (ay j hj hjH)
  .rintro b (⟨n,hn⟩|hn)
   .rcases dg n with ⟨j,hj,rfl⟩|ag
    .rw[dh j hj]at hn;rcases i7 j b hn with h1|⟨i,_,h1⟩
     .exact .inr h1
     .exact .inl (.inl ⟨_,h1⟩)
    .rw[dw n ag]at hn;exact .inl (.inl ⟨n,hn⟩)
   .exact .inl (.inr hn)
 have hinv:Inv a' w':=by
  have mixed:∀j∈H'.keys,∀n,(∀k∈H'.keys,ρ k≠n)->∀b,(ad j).block? = some b->(a n).block? = some b->False:=λj hj n hn b h1 h2=>by
   rcases i7 j b h1 with h3|⟨i,hi',h3⟩
   .have:=hi.bnd n b h2;omega
   .exact hn i (oy i hi') (hi.inj _ _ b h3 h2)
  refine⟨λm n b h1 h2=>?_,λn b h1=>?_,λn b h1 hm=>?_,λb hm=>yV (hi.mbnd b hm) bx.size⟩
  .rcases dg m with ⟨i,hi',rfl⟩|hm<;>rcases dg n with ⟨j,hj,rfl⟩|hn
   .rw[dh i hi']at h1;rw[dh j hj]at h2;rw[hid.inj i j b h1 h2]
   .rw[dh i hi']at h1;rw[dw n hn]at h2;exact(mixed i hi' n hn b h1 h2).elim
   .rw[dw m hm]at h1;rw[dh j hj]at h2;exact(mixed j hj m hm b h2 h1).elim
   .rw[dw m hm]at h1;rw[dw n hn]at h2;exact hi.inj m n b h1 h2
  .rcases dg n with ⟨j,hj,rfl⟩|hn
   .rw[dh j hj]at h1;exact hid.bnd j b h1
   .rw[dw n hn]at h1;exact yV (hi.bnd n b h1) bx.size
  .rcases dg n with ⟨j,hj,rfl⟩|hn
   .rw[dh j hj]at h1;exact hid.apart j b h1 (by rw[hMd];exact .inl hm)
   .rw[dw n hn]at h1;exact hi.apart n b h1 hm
 have t6:Ren ρ H'.keys a' ad:=⟨λk hk=>(dh k hk).symm⟩
 have t7:∀b,b<w'.heap.size->¬Own ad b->¬Own a' b:=by
  rintro b _ hn (⟨n,h1⟩|h1)
  .rcases dg n with ⟨j,hj,rfl⟩|ag
   .rw[dh j hj]at h1;exact hn (.inl ⟨j,h1⟩)
   .rw[dw n ag]at h1;exact hn (.inr (by rw[hMd];exact .inr ⟨n,λk hk=>ag k (oy k hk),h1⟩))
  .exact hn (.inr (by rw[hMd];exact .inl h1))
 exact⟨v,a',E,gu,hinv,Rd.ren t6 t7 R v nj hR,λp hp=>ObOK.ren t6 t7 (yS.2 ⟨p,hp,E⟩) (hHn' p hp) (hO p hp)⟩
def Mc(A:List SV)(H:Obs)(R:SV)(H':Obs)(k:List (Nat×Nat)):Bool :=
 Xs k [] H'.keys&&Afu H.keys H'.keys&&B7 H.keys A&&(H.all λp=>p.2.inn H.keys)&&R.inn H'.keys&&(H'.all λp=>p.2.inn H'.keys)
def aB(s:SS)(a:List (Nat×Nat))(K:List Nat):List Nat->Prop
 |[]=>True
 |k::r=>(Se K k=true\/s.h (Bf a k)=.fresh)/\aB s a K r
def bV(s:SS)(k:List (Nat×Nat)):Obs->Prop
 |[]=>True
 |(i,x)::r=>x.ren (Bf k)=s.h (Bf k i)/\bV s k r
def Qq(k:List (Nat×Nat)):Obs->Obs
 |[]=>[]
 |(i,x)::r=>(Bf k i,x.ren (Bf k))::Qq k r
theorem Q8(k:List (Nat×Nat)):∀H:Obs,Qq k H=H.map λp=>(Bf k p.1,p.2.ren (Bf k))
 |[]=>rfl
 |(i,x)::r=>by simp[Qq,Q8 k r]
def Ug(P:Program)(o:Oper)(s:SS)(rd:List Nat)(f:FuncId)(B:List SV):Prop :=
 ∀(b:Ka) (a:Act) (w:World),(∀x∈o.op.operands,Rd b w (ev s x) (a.eval x))->(∀k∈rd,ObOK b w k (s.h k))->∃vs:List Value,(execOp a.eval o).run P w=.ok (.enter f vs.toArray) w/\RdL b w B vs
theorem V3{P:Program}{o:Oper}{s:SS}{f:FuncId}{fn:Func}{c:Code}{xs:List Operand}{ts:Array TypeId}(h:o.op=.call ⟨.value (.func f),xs.toArray,ts⟩)(hf:Fun P f fn c):Ug P o s [] f (xs.map (ev s)) :=
 λk a w hr _=>by
  refine⟨xs.map a.eval,?_,Qj xs (λx hx=>hr x (by simp[h,Op.operands,Call.operands,hx]))⟩;have:=Mk hf (xs.map a.eval).toArray w;simp[execOp,h,resolve,Act.eval,Deferred.ofValue,invoke]at this|-;exact this
theorem Aw{P:Program}{o:Oper}{s:SS}{f:FuncId}{fn:Func}{c:Code}{x:Operand}{xs:List Operand}{ts:Array TypeId}{first cap:List SV}(h:o.op=.call ⟨.value x,xs.toArray,ts⟩)(hx:ev s x=.clo (.func f) first cap)(hf:Fun P f fn c):Ug P o s [] f (first++xs.map (ev s)++cap) :=
 λk a w hr _=>by
  have h1:=hr x (by simp[h,Op.operands,Call.operands]);rw[hx]at h1;simp only[Rd]at h1;obtain ⟨fs,cs,e1,e2,e3⟩:=h1;refine⟨fs++xs.map a.eval++cs,?_,RdL.append (RdL.append e2 (Qj xs (λy hy=>hr y (by simp[h,Op.operands,Call.operands,hy])))) e3⟩;have:=Mk hf (fs++xs.map a.eval++cs).toArray w;simp only[execOp,h,resolve,Deferred.ofValue,invoke,e1,Sem.run_bind,Sem.run_pure,Result.andThen_ok]at this|-;rw[<-this];simp
theorem Av{P:Program}{o:Oper}{s:SS}{f:FuncId}{rd:List Nat}{B:List SV}{A:List SV}{H:Obs}{R:SV}{H':Obs}(m:List (Nat×Nat))(hE:Ug P o s rd f B)(hs:Spec P f A H R H')(hA:Lc (Bf m) A=B)(hH:bV s m H)(ar:Mc A H R H' m=true)(ay:aB s m H.keys H'.keys):Good P o s ⟨R.ren (Bf m),rd,Qq m H'⟩:=by
 intro b a w hi hr ho N Q hN;simp only[Mc,zG,yU]at ar;obtain ⟨⟨⟨⟨⟨c1,c2⟩,c3⟩,c4⟩,c5⟩,c6⟩:=ar;obtain ⟨gw,_⟩:=Wp c1;have oy:∀k∈H.keys,k∈H'.keys:=λk hk=>by
  simp only[Afu,yU]at c2;exact memN_iff.1 (c2 k hk)
 have jr:∀k∈H'.keys,Bf m k∈(Up.mk (R.ren (Bf m)) rd (Qq m H')).ws:=λk hk=>by
  obtain ⟨p,hp,rfl⟩:=yS.1 hk;simp only[Up.ws,Q8,List.map_map,yS];exact⟨p,hp,E⟩
 obtain ⟨vs,au,pp⟩:=hE b a w hr (λk hk=>ho k (.inl hk));have jh:RdL b w (Lc (Bf m) A) vs:=by rw[hA];exact pp
 have hHk:∀H0:Obs,(∀p∈H0,p∈H)->bV s m H0->∀p∈H0,ObOK b w (Bf m p.1) (p.2.ren (Bf m)):=by
  intro H0
  induction H0 with
  |nil=>intro _ _ p hp;cases hp
  |cons q r ih=>
   obtain ⟨i,x⟩:=q;intro a6 he p hp;simp only[bV]at he;rcases yH.1 hp with rfl|hp
   .have hk:i∈H.keys:=yS.2 ⟨(i,x),a6 _ qq,rfl⟩;rw[he.1];exact ho _ (.inr (jr i (oy i hk)))
   .exact ih (λq hq=>a6 q (by simp[hq])) he.2 p hp
 have hnk:∀k∈H'.keys,k∉H.keys->b (Bf m k)=.new:=by
  have key:∀K:List Nat,(∀k∈K,k∈H'.keys)->aB s m H.keys K->∀k∈K,k∉H.keys->b (Bf m k)=.new:=by
   intro K
   induction K with
   |nil=>intro _ _ k hk;cases hk
   |cons j r ih=>
    intro a6 hn k hk jo;simp only[aB]at hn;rcases yH.1 hk with rfl|hk
    .rcases hn.1 with h1|h1
     .exact zX (memN_iff.1 h1) jo
     .have:=ho _ (.inr (jr k (a6 k qq)));rw[h1]at this;exact this
    .exact ih (λk hk=>a6 k (by simp[hk])) hn.2 k hk jo
  exact key _ (λ_ hk=>hk) ay
 have ec:=hs.at (ρ:=Bf m) gw oy c3 (λp hp=>c4 p hp) c5 (λp hp=>c6 p hp) hi jh (hHk H (λ_ hp=>hp) hH) hnk;simp only[Oper.wp,au,Oper.upon];refine ec.mono ?_;rintro e w' ⟨v,b',rfl,st,inv,hv,hO⟩;refine hN v b' w' (st.weaken ?_) inv hv (λp hp=>?_)
 .rintro n ⟨j,hj,rfl⟩;exact jr j hj
 .simp only[Q8,yS]at hp;obtain ⟨q,hq,rfl⟩:=hp;exact hO q hq
def Jo(k:Ka):List Nat->Ka
 |[]=>k
 |n::V=>Jo (D8 k n .dead) V
theorem Aq2(k:Ka):∀V:List Nat,(Jo k V).M=k.M
 |[]=>rfl
 |n::V=>by rw[Jo,Aq2];rfl
theorem J1{w:World}:∀(V:List Nat) (k:Ka),Inv k w->Step (·∈V) k w (Jo k V) w/\Inv (Jo k V) w
 |[],k,hi=>⟨Step.refl _ k w,hi⟩
 |n::V,k,hi=>by
  have h1:=J4 (κ:=k) (w:=w) (some n);have h2:=Lx hi (some n);obtain ⟨h3,h4⟩:=J1 V (D8 k n .dead) h2;exact⟨(h1.weaken (λj hj=>by simp only[Option.some.injEq]at hj;subst hj;simp)).trans (h3.weaken (λj hj=>by simp[hj])),h4⟩
theorem Aai(k:Ka):∀(V:List Nat) (n:Nat),n∈V\/k n=.dead->Jo k V n=.dead
 |[],n,h=>h.resolve_left qq
 |m::V,n,h=>by
  rw[Jo];apply Aai;by_cases hm:n=m
  .subst hm;right;exact Az _ _ _
  .rcases h with h|h
   .left;simpa [hm] using h
   .right;rw[Cb _ _ hm];exact h
theorem Aah(k:Ka):∀(V:List Nat) (n:Nat),n∉V->Jo k V n=k n
 |[],n,_=>rfl
 |m::V,n,h=>by
  simp only[yH,vW]at h;rw[Jo,Aah _ V n h.2,Cb _ _ h.1]
theorem Aeb{k:Ka}{w:World}(hi:Inv k w){V:List Nat}{n b:Nat}(hn:n∈V)(hb:(k n).block? = some b):¬Own (Jo k V) b:=by
 rintro (⟨j,hj⟩|hj)
 .by_cases hjV:j∈V
  .rw[Aai k V j (.inl hjV)]at hj;cases hj
  .rw[Aah k V j hjV]at hj;exact hjV (by rw[hi.inj j n b hj hb];exact hn)
 .rw[Aq2]at hj;exact hi.apart n b hb hj
mutual
inductive Vw(s:SS)(V:List Nat):SV->SV->Prop
 |refl (x:SV):Vw s V x x
 |row {n sz:Nat} {α:Type} {e:α->SV} {l:List α} (h:s.h n=.row sz e l) (hn:Se V n=true):Vw s V (.osl n) (.sl sz e l)
 |lit {n sz:Nat} {α:Type} {e:α->SV} {l:List α} {svs:List SV} (h:s.h n=.lit sz svs) (hl:l.map e=svs) (hn:Se V n=true):Vw s V (.osl n) (.sl sz e l)
 |nil {sz:Nat} {α:Type} {e:α->SV}:Vw s V (.val (.slice none 0 0)) (.sl sz e [])
 |box {n sz o:Nat} {y:SV} {l:List SV} (h:s.h n=.box l) (hl:cellsOf y=l) (hc:(y.boxed&&y.data&&Nat.beq l.length sz)=true) (hn:Se V n=true):Vw s V (.ptr n o) (.ref sz y o)
 |agg {l m:List SV} (h:VwL s V l m):Vw s V (.agg l) (.agg m)
inductive VwL(s:SS)(V:List Nat):List SV->List SV->Prop
 |nil:VwL s V [] []
 |cons {x y:SV} {l m:List SV} (h:Vw s V x y) (hs:VwL s V l m):VwL s V (x::l) (y::m)
end
def Alo{k k':Ka}{w:World}{d sz:Nat}{l:List SV}{x:SV}(h:ObOK k w d (.box l))(hl:cellsOf x=l)(hb:x.boxed=true)(bg:l.length=sz)(ho:∀b,b<w.heap.size->¬Own k b->¬Own k' b)(pq:∀b,(k d).block? = some b->b<w.heap.size/\¬Own k' b)(yq:x.data=true)(o:Nat)(v:Value)(hv:Rd k w (.ptr d o) v):Rd k' w (.ref sz x o) v:=by
 obtain ⟨b,cs,T,fr,e1,e2,e3,e4,e5⟩:=h;simp only[Rd,e1]at hv;obtain ⟨h1,h2⟩:=pq b (by rw[e1];rfl);rw[<-hl]at e5;obtain ⟨u,f1,f2⟩:=Rd.of_cells hb e4 e5;simp only[Rd,RdD];refine⟨b,0,u,by rw[xW];exact hv,h2,h1,RdD.keep ⟨yG _,λ_ _ _=>rfl,ho⟩ _ _ (Rd.data _ _ yq f1),?_,by rw[f2];exact e4,λj hj=>?_⟩
 .have:=e5.length;rw[<-bg,<-hl,<-this,<-f2];simp
 .rw[xW,cell_of_row w b _ cs.toArray T fr e2,<-f2]
def Arp{V:List Nat}{k:Ka}{w:World}(hi:Inv k w){n sz:Nat}{a:Type}{e:a->SV}{l:List a}(hn:n∈V)(h:(k n=.nil/\l=[])\/RowAt k w n sz l.length (rowF e l)){v:Value}(hv:Rd k w (.osl n) v):Rd (Jo k V) w (.sl sz e l) v:=by
 rcases h with ⟨h1,rfl⟩|h1
 .simp only[Rd,h1]at hv;simp only[Rd,RdD];exact .inl ⟨by simp,none,0,hv⟩
 .exact h1.freeze hv (J1 V k hi).1.keeps.out (λb hb=>⟨hi.bnd n b hb,Aeb hi hn hb⟩)
mutual
theorem Vw.rd{s:SS}{V:List Nat}{k:Ka}{w:World}(hi:Inv k w)(ho:∀n∈V,ObOK k w n (s.h n)):∀{x y:SV} (_:Vw s V x y) {v:Value},Rd k w x v->Rd (Jo k V) w y v
 |_,_,.refl x,_,hv=>Rd.step (J1 V k hi).1 _ _ hv
 |_,_,.row h hn,_,hv=>by
  have h1:=ho _ (memN_iff.1 hn);rw[h]at h1;exact Arp hi (memN_iff.1 hn) h1 hv
 |_,_,.lit (l:=l) h hl hn,_,hv=>by
  have h1:=ho _ (memN_iff.1 hn);rw[h]at h1;obtain ⟨b,cap,cs,T,fr,e1,e2,e3,e4,e5,e6⟩:=h1;refine Arp hi (memN_iff.1 hn) (.inr ?_) hv;have hlen:=zH List.length hl;simp only[yZ]at hlen;exact⟨b,cap,cs,T,fr,by rw[hlen];exact e1,e2,e3,e4,by omega,λi x hx=>by rw[hlen];exact e6 i x (Q6 hl i x hx)⟩
 |_,_,.nil,_,hv=>by
  simp only[Rd,RdD];exact .inl ⟨by simp,none,0,hv.val⟩
 |_,_,.box h hl hc hn,_,hv=>by
  have h1:=ho _ (memN_iff.1 hn);rw[h]at h1;simp only[zG]at hc;exact Alo h1 hl hc.1.1 (yK hc.2) (J1 V k hi).1.keeps.out (λb hb=>⟨hi.bnd _ b hb,Aeb hi (memN_iff.1 hn) hb⟩) hc.1.2 _ _ hv
 |_,_,.agg h,_,hv=>by
  simp only[Rd]at hv|-;obtain ⟨cs,h1,h2,h3⟩:=hv;exact⟨cs,h1,h2,VwL.rd hi ho h h3⟩
theorem VwL.rd{s:SS}{V:List Nat}{k:Ka}{w:World}(hi:Inv k w)(ho:∀n∈V,ObOK k w n (s.h n)):∀{l m:List SV} (_:VwL s V l m) {vs:List Value},RdL k w l vs->RdL (Jo k V) w m vs
 |_,_,.nil,_,hv=>by simpa [RdL] using hv
 |_,_,.cons h hs,_,hv=>by
  simp only[RdL]at hv|-;obtain ⟨v,r,h1,h2,h3⟩:=hv;exact⟨v,r,h1,Vw.rd hi ho h h2,VwL.rd hi ho hs h3⟩
end
def Ap5(a:List (Nat×Nat))(K V:List Nat):Bool:=K.all λk=>!(Se V (Bf a k))
def Kg{P:Program}{o:Oper}{s:SS}{f:FuncId}{B:List SV}{A:List SV}{H:Obs}{R:SV}{H':Obs}(m:List (Nat×Nat))(V:List Nat)(hE:Ug P o s [] f B)(hs:Spec P f A H R H')(hA:VwL s V B (Lc (Bf m) A))(hH:bV s m H)(ar:Mc A H R H' m=true)(ay:aB s m H.keys H'.keys)(hV:Ap5 m H'.keys V=true):Good P o s ⟨R.ren (Bf m),[],V.map (λn=>(n,.non))++Qq m H'⟩:=by
 intro b a w hi hr ho N Q hN;simp only[Mc,zG,yU]at ar;obtain ⟨⟨⟨⟨⟨c1,c2⟩,c3⟩,c4⟩,c5⟩,c6⟩:=ar;obtain ⟨gw,_⟩:=Wp c1;have oy:∀k∈H.keys,k∈H'.keys:=λk hk=>by
  simp only[Afu,yU]at c2;exact memN_iff.1 (c2 k hk)
 have hVa:∀k∈H'.keys,Bf m k∉V:=λk hk hm=>by
  simp only[Ap5,yU]at hV;have:=hV k hk;rw[memN_iff.2 hm]at this;cases this
 have u7:∀k∈H'.keys,Bf m k∈(Up.mk (R.ren (Bf m)) [] (V.map (λn=>(n,Ob.non))++Qq m H')).ws:=λk hk=>by
  obtain ⟨p,hp,rfl⟩:=yS.1 hk;simp only[Up.ws,Q8,xY,List.map_map,yI,yS];exact .inr ⟨p,hp,E⟩
 have yr:∀n∈V,n∈(Up.mk (R.ren (Bf m)) [] (V.map (λn=>(n,Ob.non))++Qq m H')).ws:=λn hn=>by
  simp only[Up.ws,xY,List.map_map,yI,yS];exact .inl ⟨n,hn,E⟩
 have hoV:∀n∈V,ObOK b w n (s.h n):=λn hn=>ho n (.inr (yr n hn))
 obtain ⟨st0,inv0⟩:=J1 V b hi;obtain ⟨vs,au,pp⟩:=hE b a w hr (λk hk=>by cases hk);have jh:RdL (Jo b V) w (Lc (Bf m) A) vs:=hA.rd hi hoV pp;have hHk:∀H0:Obs,(∀p∈H0,p∈H)->bV s m H0->∀p∈H0,ObOK (Jo b V) w (Bf m p.1) (p.2.ren (Bf m)):=by
  intro H0
  induction H0 with
  |nil=>intro _ _ p hp;cases hp
  |cons q r ih=>
   obtain ⟨i,x⟩:=q;intro a6 he p hp;simp only[bV]at he;rcases yH.1 hp with rfl|hp
   .have hk:i∈H.keys:=yS.2 ⟨(i,x),a6 _ qq,rfl⟩;rw[he.1];exact ObOK.step st0 (hVa i (oy i hk)) _ (ho _ (.inr (u7 i (oy i hk))))
   .exact ih (λq hq=>a6 q (by simp[hq])) he.2 p hp
 have hnk:∀k∈H'.keys,k∉H.keys->(Jo b V) (Bf m k)=.new:=by
  have key:∀K:List Nat,(∀k∈K,k∈H'.keys)->aB s m H.keys K->∀k∈K,k∉H.keys->(Jo b V) (Bf m k)=.new:=by
   intro K
   induction K with
   |nil=>intro _ _ k hk;cases hk
   |cons j r ih=>
    intro a6 hn k hk jo;simp only[aB]at hn;rcases yH.1 hk with rfl|hk
    .rcases hn.1 with h1|h1
     .exact zX (memN_iff.1 h1) jo
     .have:=ho _ (.inr (u7 k (a6 k qq)));rw[h1]at this;rw[Aah b V _ (hVa k (a6 k qq))];exact this
    .exact ih (λk hk=>a6 k (by simp[hk])) hn.2 k hk jo
  exact key _ (λ_ hk=>hk) ay
 have ec:=hs.at (ρ:=Bf m) gw oy c3 (λp hp=>c4 p hp) c5 (λp hp=>c6 p hp) inv0 jh (hHk H (λ_ hp=>hp) hH) hnk;simp only[Oper.wp,au,Oper.upon];refine ec.mono ?_;rintro e w' ⟨v,b',rfl,st,inv,hv,hO⟩;refine hN v b' w' ((st0.weaken yr).trans (st.weaken ?_)) inv hv (λp hp=>?_)
 .rintro n ⟨j,hj,rfl⟩;exact u7 j hj
 .rcases yI.1 hp with hp|hp
  .obtain ⟨n,_,rfl⟩:=yS.1 hp;trivial
  .simp only[Q8,yS]at hp;obtain ⟨q,hq,rfl⟩:=hp;exact hO q hq
mutual
def SV.plain:SV->Bool
 | .top=>true
 | .val _=>true
 | .agg l=>oM l
 | .tup l=>oM l
 |_=>false
def oM:List SV->Bool
 |[]=>true
 |x::l=>x.plain&&oM l
end
mutual
theorem Rd.plain{k k':Ka}{w w':World}:∀(x:SV) (v:Value),x.plain=true->Rd k w x v->Rd k' w' x v
 | .top,_,_,_=>by simp[Rd]
 | .val u,v,_,h=>by simpa [Rd] using h
 | .agg l,v,hp,h=>by
  simp only[Rd,SV.plain]at h hp|-;obtain ⟨cs,h1,h0,h2⟩:=h;exact⟨cs,h1,h0,RdL.plain l cs hp h2⟩
 | .tup l,v,hp,h=>by
  simp only[Rd,SV.plain]at h hp|-;obtain ⟨cs,h1,h2⟩:=h;exact⟨cs,h1,RdL.plain l cs hp h2⟩
 | .sl _ _ _,_,hp,_=>by simp[SV.plain]at hp
 | .ref _ _ _,_,hp,_=>by simp[SV.plain]at hp
 | .ptr _ _,_,hp,_=>by simp[SV.plain]at hp
 | .rpt _ _ _ _,_,hp,_=>by simp[SV.plain]at hp
 | .osl _,_,hp,_=>by simp[SV.plain]at hp
 | .ifc _ _,_,hp,_=>by simp[SV.plain]at hp
 | .clo _ _ _,_,hp,_=>by simp[SV.plain]at hp
theorem RdL.plain{k k':Ka}{w w':World}:∀(l:List SV) (vs:List Value),oM l=true->RdL k w l vs->RdL k' w' l vs
 |[],_,_,h=>by simpa [RdL] using h
 |x::l,vs,hp,h=>by
  simp only[RdL,oM,zG]at h hp|-;obtain ⟨v,r,h1,h2,h3⟩:=h;exact⟨v,r,h1,Rd.plain x v hp.1 h2,RdL.plain l r hp.2 h3⟩
end
mutual
theorem Be:∀x:SV,x.ren id=x
 | .ptr _ _=>rfl
 | .rpt _ _ _ _=>rfl
 | .osl _=>rfl
 | .agg l=>by simp only[SV.ren,Jw l]
 | .tup l=>by simp only[SV.ren,Jw l]
 | .ifc t x=>by simp only[SV.ren,Be x]
 | .clo fn f l=>by simp only[SV.ren,Jw f,Jw l]
 | .top=>rfl
 | .val _=>rfl
 | .sl _ _ _=>rfl
 | .ref _ _ _=>rfl
theorem Jw:∀l:List SV,Lc id l=l
 |[]=>rfl
 |x::l=>by simp only[Lc,Be x,Jw l]
end
def Hn{P:Program}{o:Oper}{s:SS}{f:FuncId}{rd:List Nat}{B:List SV}{A:List SV}{R:SV}(V:List Nat)(hE:Ug P o s rd f B)(hs:Spec P f A [] R [])(hA:VwL s V B A)(yo:B7 [] A=true)(hR:R.plain=true):Good P o s ⟨R,V++rd,[]⟩:=by
 intro r a w hi hr ho N Q hN;have hoV:∀n∈V,ObOK r w n (s.h n):=λn hn=>ho n (.inl (by simp[hn]))
 obtain ⟨st0,inv0⟩:=J1 V r hi;obtain ⟨vs,au,pp⟩:=hE r a w hr (λk hk=>ho k (.inl (by simp[hk])));have jh:RdL (Jo r V) w A vs:=hA.rd hi hoV pp
 let rc:Ka:=⟨λ_=>.new,Own (Jo r V)⟩
 have hic:Inv rc w:=by
  refine⟨λi j b h1 _=>?_,λj b h1=>?_,λj b h1=>?_,λb hb=>?_⟩
  .cases h1
  .cases h1
  .cases h1
  .rcases hb with ⟨j,hj⟩|hj
   .exact inv0.bnd j b hj
   .exact inv0.mbnd b hj
 have fp:∀b,b<w.heap.size->¬Own (Jo r V) b->¬Own rc b:=by
  rintro b _ hn (⟨j,hj⟩|hj)
  .cases hj
  .exact hn hj
 have hA':RdL rc w A vs:=RdL.unren (ρ:=id) (K:=[]) (κ:=Jo r V) ⟨λk hk=>by cases hk⟩ fp A _ yo (by rw[Jw];exact jh);have ec:=hs rc w _ hic (λj hj=>zX rfl hj) hA' (λp hp=>by cases hp);simp only[Oper.wp,au,Oper.upon];refine ec.mono ?_;rintro e w' ⟨v,r',rfl,bx,inv,hv,_⟩;have dp:∀b,b<w.heap.size->w'.heap[b]? = w.heap[b]?:=λb hb=>bx.old b hb (λj hj=>by cases hj)
 refine hN v r w' ⟨bx.size,bx.os,bx.tape,bx.output,E,λb hb=>dp b (hi.mbnd b hb),λb hb _=>dp b hb,λj b _ hb=>dp b (hi.bnd j b hb),λ_ _=>rfl,λ_ _=>.inr (.inl E),λ_ hb=>.inl hb⟩
  ⟨hi.inj,λj b hb=>yV (hi.bnd j b hb) bx.size,hi.apart,λb hb=>yV (hi.mbnd b hb) bx.size⟩ (Rd.plain _ _ hR hv) (λp hp=>by cases hp)
def Ad{P:Program}{o:Oper}{s:SS}{f:FuncId}{fn:Func}{c:Code}{xs:List Operand}{ts:Array TypeId}{A:List SV}{H:Obs}{R:SV}{H':Obs}(k:List (Nat×Nat))(h:o.op=.call ⟨.value (.func f),xs.toArray,ts⟩)(hf:Fun P f fn c)(hs:Spec P f A H R H')(hA:Lc (Bf k) A=xs.map (ev s))(hH:bV s k H)(ar:Mc A H R H' k=true)(ay:aB s k H.keys H'.keys):Good P o s ⟨R.ren (Bf k),[],Qq k H'⟩ :=
 Av k (V3 h hf) hs hA hH ar ay
def Ao5{P:Program}{o:Oper}{s:SS}{f:FuncId}{fn:Func}{c:Code}{xs:List Operand}{ts:Array TypeId}{A:List SV}{H:Obs}{R:SV}{H':Obs}(k:List (Nat×Nat))(V:List Nat)(h:o.op=.call ⟨.value (.func f),xs.toArray,ts⟩)(hf:Fun P f fn c)(hs:Spec P f A H R H')(hA:VwL s V (xs.map (ev s)) (Lc (Bf k) A))(hH:bV s k H)(ar:Mc A H R H' k=true)(ay:aB s k H.keys H'.keys)(hV:Ap5 k H'.keys V=true):Good P o s ⟨R.ren (Bf k),[],V.map (λn=>(n,.non))++Qq k H'⟩ :=
 Kg k V (V3 h hf) hs hA hH ar ay hV
def I0{P:Program}{o:Oper}{s:SS}{f:FuncId}{fn:Func}{c:Code}{xs:List Operand}{ts:Array TypeId}{A:List SV}{R:SV}(V:List Nat)(h:o.op=.call ⟨.value (.func f),xs.toArray,ts⟩)(hf:Fun P f fn c)(hs:Spec P f A [] R [])(hA:VwL s V (xs.map (ev s)) A)(yo:B7 [] A=true)(hR:R.plain=true):Good P o s ⟨R,V,[]⟩ :=
 by simpa using Hn V (V3 h hf) hs hA yo hR
theorem SS.ext'{s t:SS}(h1:∀i,s.σ i=t.σ i)(h2:∀k,s.h k=t.h k):s=t:=by
 obtain ⟨a,b⟩:=s;obtain ⟨c,d⟩:=t;have e1:a=c:=funext h1;have e2:b=d:=funext h2;rw[e1,e2]
structure Stp where
 i:Nat
 o:Oper
 U:Up
 want:Bool
def Ob.shp:Ob->Nat×Option Nat×Option (Nat×SV×Nat)
 | .box _=>(1,none,none)
 | .row _ _ l=>(0,some l.length,none)
 | .lit _ svs=>(0,some svs.length,none)
 | .glob sz x g=>(2,none,some (sz,x,g))
 | .rown _ _ l _ _=>(0,some l.length,none)
 |_=>(0,none,none)
theorem Ob.shp_len{x y:Ob}{n:Nat}(h:x.shp=y.shp)(hy:y.len=some n):x.len=some n:=by
 cases x<;>cases y<;>simp_all[Ob.shp,Ob.len]
theorem Ob.shp_box{x:Ob}{l:List SV}(h:x.shp=(Ob.box l).shp):∃m,x=.box m:=by
 cases x<;>simp_all[Ob.shp]
def Kc(o:Oper):Bool:=match o.op with| .indexAddr ..=>true|_=>false
def Qw(o:Oper):Bool:=match o.op with| .store ..=>true|_=>false
def Art(P:Program)(o:Oper)(s:SS)(U:Up):Prop :=
 ∀(b:Ka) (a:Act) (w:World),Inv b w->(∀x∈o.op.operands,Rd b w (ev s x) (a.eval x))->(∀k,k∈U.rd\/k∈U.ws->ObOK b w k (s.h k)) ->
  ∀(N:Act->World->Prop) (Q:Exit->Act->World->Prop),
   (∀v b' w',Step (λk=>k∈U.ws\/k∈U.rd) b w b' w'->Inv b' w'->Rd b' w' U.v v->(∀x∈U.objs,ObOK b' w' x.1 x.2)->(∀k,k∈U.rd->k∉U.ws->ObOK b' w' k (s.h k))->N (a.put o.dst v) w')->o.wp P a w N Q
theorem Good.two{P:Program}{o:Oper}{s:SS}{U:Up}(h:Good P o s U):Art P o s U:=λb a w hi hr ho N Q hN=>
 h b a w hi hr ho N Q λv b' w' st inv hv ck=>hN v b' w' (st.weaken λ_ hk=>.inl hk) inv hv ck λk hk hw=>ObOK.step st hw _ (ho k (.inl hk))
theorem Good.keep{P:Program}{o:Oper}{s:SS}{U:Up}(h:Good P o s U)(hk:∀p∈U.objs,s.h p.1=p.2):Art P o s ⟨U.v,U.rd++U.ws,[]⟩:=λb a w hi hr ho N Q hN=>
 h b a w hi hr (λk mr=>ho k (.inl (kS mr))) N Q λv b' w' st inv hv ck=>hN v b' w' (st.weaken λk mr=>.inr (by simp[mr])) inv hv (λx hx=>by cases hx) λk dh _=>by
  by_cases hw:k∈U.ws
  .obtain ⟨p,hp,rfl⟩:=yS.1 hw;rw[hk p hp];exact ck p hp
  .exact ObOK.step st hw _ (ho k (.inl dh))
theorem St.put2{F:Fr}{n:Nat}{s:SS}{b b':Ka}{a:Act}{w w':World}(h:St F n s b a w){dst:Option Nat}{U:Up}{v:Value}(hd:∀d,dst=some d->d<n)(st:Step (λk=>k∈U.ws\/k∈U.rd) b w b' w')(hi:Inv b' w')(hv:Rd b' w' U.v v)(ho:∀x∈U.objs,ObOK b' w' x.1 x.2)(hr:∀k,k∈U.rd->k∉U.ws->ObOK b' w' k (s.h k)):St F n (s.upd dst U) b' (a.put dst v) w' where
 defers:=by cases dst<;>exact h.defers
 size:=by cases dst<;>simp[Act.put,h.size]
 inv:=hi
 ctx:=h.ctx.step hi st
 slot i:=by
  cases dst with
  |none=>exact Rd.step st _ _ (h.slot i)
  |some d=>
   have ab:=hd d rfl;by_cases hi':i=d
   .subst hi';simp only[SS.upd,B1,Act.put];have hs:i<a.tmps.size:=by rw[h.size];exact ab
    simpa [hs] using hv
   .simp only[SS.upd,Cv _ _ hi',Act.put];have:(a.tmps.setIfInBounds d v).getD i undef=a.tmps.getD i undef:=by
     simp[Array.getElem?_setIfInBounds_ne (Ne.symm hi')]
    rw[this];exact Rd.step st _ _ (h.slot i)
 obj k:=Afo _ _ _ ho (λ hk=>by
  by_cases h2:k∈U.rd
  .exact hr k h2 hk
  .exact ObOK.step st (λ h3=>h3.elim hk h2) _ (h.obj k))
structure GoodX(P:Program)(o:Oper)(s:SS)(U:Up):Prop where
 good:Art P o s U
 idx:Kc o=true->U.objs=[]/\∀s':SS,(∀x∈o.op.operands,ev s' x=ev s x)->(∀k∈U.rd,(s'.h k).shp=(s.h k).shp)->Good P o s' U
 st:Qw o=true->∀p∈U.objs,p.2.shp=(s.h p.1).shp
theorem GoodX.of{P:Program}{o:Oper}{s:SS}{U:Up}(h:Good P o s U)(hn:(Kc o||Qw o)=false):GoodX P o s U:=by
 simp only[wG]at hn;exact⟨h.two,λh1=>by (rw[hn.1]at h1;cases h1),λh1=>by (rw[hn.2]at h1;cases h1)⟩
theorem GoodX.of2{P:Program}{o:Oper}{s:SS}{U:Up}(h:Art P o s U)(hn:(Kc o||Qw o)=false):GoodX P o s U:=by
 simp only[wG]at hn;exact⟨h,λh1=>by (rw[hn.1]at h1;cases h1),λh1=>by (rw[hn.2]at h1;cases h1)⟩
def Stp.ok(P:Program)(all:Array Oper)(s:SS)(t:Stp):Prop :=
 all[t.i]? = some t.o/\Zf all s t.o.guard t.want/\(t.want=true->GoodX P t.o s t.U)/\(t.want=false->t.U=⟨.val undef,[],[]⟩)
def Azx(K L:List Nat):Bool:=K.all λk=>!(Se L k)
def Ahb{K L:List Nat}(h:Azx K L=true):∀k∈K,k∉L:=λk hk hl=>by
 simp only[Azx,yU]at h;have:=h k hk;rw[memN_iff.2 hl]at this;cases this
def Wg(all:Array Oper)(p t:Stp):Bool :=
 p.o.apart all t.o&&Azx p.U.ws t.U.ws&&(Azx p.U.ws t.U.rd||(Qw p.o&&Kc t.o))&&(Azx t.U.ws p.U.rd||(Qw t.o&&Kc p.o))
def A2w(all:Array Oper):Nat->Nat->Oper->Bool
 |0,_,_=>false
 |n+1,i,o=>o.after.toList.any λe=>Region.binds .any e&&(Nat.beq e.on i||(match all[e.on]? with|some u=>A2w all n i u|none=>false))
def aft(all:Array Oper)(p t:Stp):Bool:=A2w all 4 p.i t.o
def Cl(all:Array Oper)(listed:Array Bool):Prop:=∀i o,all[i]? = some o->listed.getD i true=true->∀e∈o.after,Region.binds .any e=true->listed.getD e.on false=true
def Aq9{listed:Array Bool}{i:Nat}(h:listed.getD i false=true):listed.getD i true=true:=by
 simp only[vF]at h|-;cases hh:listed[i]? with
 |none=>rw[hh]at h;cases h
 |some b=>rw[hh]at h;exact h
def fM{all:Array Oper}{listed:Array Bool}(hc:Cl all listed){i:Nat}:∀(n:Nat) (o:Oper),(∀e∈o.after,Region.binds .any e=true->listed.getD e.on false=true)->A2w all n i o=true->listed.getD i false=true
 |0,_,_,h=>by cases h
 |n+1,o,ho,h=>by
  simp only[A2w,wJ,zG,yQ]at h;obtain ⟨e,h1,h2,h3⟩:=h;have h4:=ho e (kS h1) h2;rcases h3 with h3|h3
  .rw[<-yK h3];exact h4
  .cases hu:all[e.on]? with
   |none=>rw[hu]at h3;cases h3
   |some u=>
    rw[hu]at h3;exact fM hc n u (hc e.on u hu (Aq9 h4)) h3
def cW(all:Array Oper)(p:Stp):List Stp->Bool
 |[]=>true
 |t::r=>(Wg all p t||aft all p t)&&cW all p r
def Mq(all:Array Oper):List Stp->Bool
 |[]=>true
 |p::r=>cW all p r&&Mq all r
def lR(t:Stp):Bool:=t.o.after.toList.all λe=>!(Region.binds .any e)||Nat.blt e.on t.i
def fin(s:SS):List Stp->SS
 |[]=>s
 |t::r=>fin (s.upd t.o.dst t.U) r
def Chain(P:Program)(all:Array Oper):SS->List Stp->Prop
 |_,[]=>True
 |s,t::r=>t.ok P all s/\Chain P all (s.upd t.o.dst t.U) r
def Ahy{k:Type 1}(f:Nat->k){d e:Nat}(u v:k)(h:d≠e):upd (upd f d u) e v=upd (upd f e v) d u:=by
 funext i;by_cases h1:i=d
 .subst h1;rw[Cv _ _ h,B1,B1]
 .by_cases h2:i=e
  .subst h2;rw[B1,Cv _ _ h1,B1]
  .rw[Cv _ _ h2,Cv _ _ h1,Cv _ _ h1,Cv _ _ h2]
def Ahz(h:Nat->Ob)(k:Nat)(o:Ob):∀(l:List (Nat×Ob)),k∉l.map (·.1)->Uq (upd h k o) l=upd (Uq h l) k o
 |[],_=>rfl
 |(j,x)::r,hk=>by
  simp only[xZ,yH,vW]at hk;rw[Uq,Uq,Ahy _ _ _ hk.1,Ahz _ k o r hk.2]
def Adf:∀(l m:List (Nat×Ob)) (h:Nat->Ob),(∀k∈l.map (·.1),k∉m.map (·.1))->Uq (Uq h l) m=Uq (Uq h m) l
 |[],m,h,_=>rfl
 |(k,o)::r,m,h,hd=>by
  rw[Uq,Uq,Adf r m _ (λj hj=>hd j (by simp at hj|-;exact .inr hj)),Ahz h k o m (hd k qq)]
def fJ{all:Array Oper}{p t:Stp}(h:Wg all p t=true):(∀d,p.o.dst=some d->d∉t.o.looksAt all)/\(∀d,p.o.dst=some d->t.o.dst≠some d)/\(∀d,t.o.dst=some d->d∉p.o.looksAt all)/\(∀k∈p.U.ws,k∉t.U.ws) /\
   ((∀k∈p.U.ws,k∉t.U.rd)\/(Qw p.o=true/\Kc t.o=true))/\((∀k∈t.U.ws,k∉p.U.rd)\/(Qw t.o=true/\Kc p.o=true)):=by
 simp only[Wg,zG,yQ]at h;obtain ⟨⟨⟨h1,h2⟩,h3⟩,h4⟩:=h;obtain ⟨a1,a2,a3⟩:=Oper.apart_spec h1;exact⟨a1,a2,a3,Ahb h2,h3.imp Ahb id,h4.imp Ahb id⟩
def Ahx{all:Array Oper}{p t:Stp}(h:Wg all p t=true)(s:SS):(s.upd p.o.dst p.U).upd t.o.dst t.U=(s.upd t.o.dst t.U).upd p.o.dst p.U:=by
 obtain ⟨_,h2,_,h4,_,_⟩:=fJ h;unfold SS.upd;congr 1
 .cases hp:p.o.dst with
  |none=>rfl
  |some d=>
   cases ht:t.o.dst with
   |none=>rfl
   |some e=>exact Ahy _ _ _ (λe'=>h2 d hp (by rw[ht,e']))
 .exact Adf _ _ _ (λk hk=>h4 k hk)
def dQ{all:Array Oper}{s s':SS}{o:Oper}{b:Bool}(a2:Zf all s o.guard b)(h1:∀d,d∈o.looksAt all->s'.σ d=s.σ d):Zf all s' o.guard b:=by
 unfold Zf at a2|-;cases hg:o.guard with
 |none=>rw[hg]at a2;exact a2
 |some q=>
  obtain ⟨j,want⟩:=q;rw[hg]at a2;obtain ⟨d,b1,b2⟩:=a2;have hd:s'.σ d=s.σ d:=h1 d (by simp[Oper.looksAt,hg,b1]);exact⟨d,b1,by rw[hd];exact b2⟩
def Akz{all:Array Oper}{s s':SS}{o:Oper}(h1:∀d,d∈o.looksAt all->s'.σ d=s.σ d):∀x∈o.op.operands,ev s' x=ev s x:=λx hx=>by
 cases x with
 |tmp d=>
  have hd:s'.σ d=s.σ d:=h1 d (by
   simp only[Oper.looksAt,yI,wL];exact .inl ⟨.tmp d,kS hx,E⟩)
  simpa only [ev] using hd
 |const v=>rfl
 |global g=>rfl
 |func f=>rfl
theorem Stp.congr{P:Program}{all:Array Oper}{s s':SS}{t:Stp}(h:t.ok P all s)(h1:∀d,d∈t.o.looksAt all->s'.σ d=s.σ d)(h2:∀k,k∈t.U.rd\/k∈t.U.ws->s'.h k=s.h k):t.ok P all s':=by
 obtain ⟨a1,a2,a3,a4⟩:=h;have sw:=Akz h1;refine⟨a1,dQ a2 h1,λhw=>?_,a4⟩;obtain ⟨g1,g2,g3⟩:=a3 hw;refine⟨λb a w hi hr ho N Q hN=>?_,λhi=>?_,λhi p hp=>?_⟩
 .exact g1 b a w hi (λx hx=>by rw[<-sw x hx];exact hr x hx) (λk hk=>by rw[<-h2 k hk];exact ho k hk) N Q (λv b' w' st inv hv ck ia=>hN v b' w' st inv hv ck λk hk hw=>by rw[h2 k (.inl hk)];exact ia k hk hw)
 .obtain ⟨e1,e2⟩:=g2 hi;exact⟨e1,λs'' q1 q2=>e2 s'' (λx hx=>(q1 x hx).trans (sw x hx)) (λk hk=>by rw[q2 k hk,h2 k (.inl hk)])⟩
 .rw[g3 hi p hp,h2 p.1 (.inr (yS.2 ⟨p,hp,rfl⟩))]
theorem Stp.congrI{P:Program}{all:Array Oper}{s s':SS}{t:Stp}(h:t.ok P all s)(hi:Kc t.o=true)(h1:∀d,d∈t.o.looksAt all->s'.σ d=s.σ d)(h2:∀k∈t.U.rd,(s'.h k).shp=(s.h k).shp):t.ok P all s':=by
 obtain ⟨a1,a2,a3,a4⟩:=h;have sw:=Akz h1;refine⟨a1,dQ a2 h1,λhw=>?_,a4⟩;obtain ⟨g1,g2,g3⟩:=a3 hw;obtain ⟨e1,e2⟩:=g2 hi;refine⟨(e2 s' sw h2).two,λ_=>⟨e1,λs'' q1 q2=>e2 s'' (λx hx=>(q1 x hx).trans (sw x hx)) (λk hk=>by rw[q2 k hk,h2 k hk])⟩,λ_ p hp=>?_⟩;rw[e1]at hp;cases hp
def Ah0:∀(l:List (Nat×Ob)) (h:Nat->Ob) (k:Nat),(∀q∈l,q.2.shp=(h q.1).shp)->(Uq h l k).shp=(h k).shp
 |[],_,_,_=>rfl
 |(j,o)::r,h,k,hq=>by
  rw[Uq,Ah0 r (Sy.upd h j o) k (λq hqr=>?_)]
  .by_cases hj:k=j
   .subst hj;rw[B1];exact hq (k,o) qq
   .rw[Cv _ _ hj]
  .rw[hq q (by simp[hqr])];by_cases hj:q.1=j
   .rw[hj,B1];exact(hq (j,o) qq).symm
   .rw[Cv _ _ hj]
theorem Stp.lens{P:Program}{all:Array Oper}{s:SS}{t:Stp}(h:t.ok P all s)(hi:Qw t.o=true)(k:Nat):((s.upd t.o.dst t.U).h k).shp=(s.h k).shp:=by
 obtain ⟨_,_,a3,a4⟩:=h;cases hw:t.want with
 |false=>rw[a4 hw];rfl
 |true=>exact Ah0 _ _ _ ((a3 hw).st hi)
def upd_σ_ne{s:SS}{dst:Option Nat}{U:Up}{d:Nat}(h:dst≠some d):(s.upd dst U).σ d=s.σ d:=by
 cases dst with
 |none=>rfl
 |some e=>exact Cv _ _ (λe'=>h (by rw[e']))
theorem Chain.first{P:Program}{all:Array Oper}{t:Stp}{post:List Stp}:∀{pre:List Stp} {s:SS},Chain P all s (pre++t::post)->(∀p∈pre,Wg all p t=true) ->
  t.ok P all s/\Chain P all (s.upd t.o.dst t.U) (pre++post)/\fin s (pre++t::post)=fin (s.upd t.o.dst t.U) (pre++post)
 |[],s,h,_=>⟨h.1,h.2,rfl⟩
 |p::pre,s,h,hp=>by
  obtain ⟨h1,h2⟩:=h;obtain ⟨i1,i2,i3⟩:=Chain.first h2 (λq hq=>hp q (by simp[hq]))
  have ha:=hp p qq;obtain ⟨b1,b2,b3,b4,b5,b6⟩:=fJ ha;have ht:t.ok P all s:=by
   rcases b5 with b5|⟨c1,c2⟩
   .exact Stp.congr i1 (λ d hd=>(upd_σ_ne (λ e=>b1 d e hd)).symm) (λ k hk=>(nA (λ hm=>by
     rcases hk with hk|hk
     .exact b5 k hm hk
     .exact b4 k hm hk)).symm)
   .exact Stp.congrI i1 c2 (λd hd=>(upd_σ_ne (λe=>b1 d e hd)).symm) (λk _=>(Stp.lens h1 c1 k).symm)
  have yu:p.ok P all (s.upd t.o.dst t.U):=by
   rcases b6 with b6|⟨c1,c2⟩
   .exact Stp.congr h1 (λ d hd=>upd_σ_ne (λ e=>b3 d e hd)) (λ k hk=>nA (λ hm=>by
     rcases hk with hk|hk
     .exact b6 k hm hk
     .exact b4 k hk hm))
   .exact Stp.congrI h1 c2 (λd hd=>upd_σ_ne (λe=>b3 d e hd)) (λk _=>Stp.lens ht c1 k)
  refine⟨ht,⟨yu,?_⟩,?_⟩
  .rw[<-Ahx ha];exact i2
  .show fin (s.upd p.o.dst p.U) (pre++t::post)=fin ((s.upd t.o.dst t.U).upd p.o.dst p.U) (pre++post);rw[i3,Ahx ha]
def eL{all:Array Oper}{t:Stp}{post:List Stp}:∀{pre:List Stp},Mq all (pre++t::post)=true->(∀p∈pre,Wg all p t=true\/aft all p t=true)/\Mq all (pre++post)=true
 |[],h=>by
  simp only[wC,Mq,zG]at h;exact⟨by simp,h.2⟩
 |p::pre,h=>by
  simp only[wB,Mq,zG]at h;obtain ⟨h1,h2⟩:=h;obtain ⟨i1,i2⟩:=eL h2;have key:∀l:List Stp,cW all p (l++t::post)=true->(Wg all p t=true\/aft all p t=true)/\cW all p (l++post)=true:=by
   intro l
   induction l with
   |nil=>intro h;simp only[wC,cW,zG,yQ]at h;exact h
   |cons q l ih=>
    intro h;simp only[wB,cW,zG]at h|-;exact⟨(ih h.2).1,h.1,(ih h.2).2⟩
  obtain ⟨k1,k2⟩:=key pre h1;refine⟨λq hq=>?_,?_⟩
  .rcases yH.1 hq with rfl|hq
   .exact k1
   .exact i1 q hq
  .simp only[wB,Mq,zG];exact⟨k2,i2⟩
def Au9{P:Program}{F:Fr}{n:Nat}{all:Array Oper}{Q:Exit->Act->World->Prop}(nq:∀(i:Nat) (o:Oper),all[i]? = some o->∀d,o.dst=some d->d<n):∀(m:Nat) (rem:List Stp) (listed:Array Bool) (s:SS) (k:Ka) (a:Act) (w:World),rem.length=m->St F n s k a w->Chain P all s rem->Mq all rem=true->(∀t∈rem,lR t=true) ->
   (∀i,listed.getD i true=false↔∃t∈rem,t.i=i)->(rem.Pairwise λp t=>p.i<t.i)->(∀i,i<all.size->i<listed.size)->Cl all listed->(∀k' a' w',St F n (fin s rem) k' a' w'->Q .normal a' w')->wpAny P .any all Q m listed a w:=by
 intro m
 induction m with
 |zero=>
  intro rem listed s k a w hm hs _ _ _ hl _ _ _ hQ;have:rem=[]:=yB hm;subst this;refine⟨?_,hQ k a w hs⟩;apply List.eq_nil_iff_forall_not_mem.2;intro i hi;have h1:=(mem_ready.1 hi).1;rw[hl i]at h1;obtain ⟨t,ht,_⟩:=h1;cases ht
 |succ m ih=>
  intro rem listed s k a w hm hs hc hp he hl ab bg gq hQ;have u9:∀t post,rem=t::post->t.i∈Region.ready .any all listed:=λt post h0=>by
   subst h0;refine mem_ready.2 ⟨(hl t.i).2 ⟨t,by simp,E⟩,t.o,hc.1.1,λe yv hb=>?_⟩;have h1:=he t qq;simp only[lR,yU,yQ,xB]at h1;have h2:e.on<t.i:=by
    rcases h1 e (kS yv) with h2|h2
    .rw[hb]at h2;cases h2
    .exact wA h2
   have az:e.on<listed.size:=by
    refine bg _ ?_;have:t.i<all.size:=by
     have:=hc.1.1;rcases vR t.i all.size with h|h
     .exact h
     .rw[uO h]at this;cases this
    omega
   have h3:listed.getD e.on true≠false:=λh4=>by
    obtain ⟨q,hq,hqi⟩:=(hl e.on).1 h4;rcases yH.1 hq with rfl|hq
    .omega
    .have:=(vU.1 ab).1 q hq;omega
   simp only[vF,uE az,Option.getD_some]at h3|-;cases hh:listed[e.on] with
   |true=>rfl
   |false=>exact zX hh h3
  refine⟨λh0=>?_,λi hi=>?_⟩
  .cases rem with
   |nil=>simp at hm
   |cons t post=>
    have:=u9 t post rfl;rw[h0]at this;cases this
  .obtain ⟨h1,oi,h2,h3⟩:=mem_ready.1 hi;obtain ⟨t,ht,rfl⟩:=(hl i).1 h1;obtain ⟨pre,post,rfl⟩:=List.append_of_mem ht;obtain ⟨p1,p2⟩:=eL hp;have hap:∀p∈pre,Wg all p t=true:=λp l7=>by
    rcases p1 p l7 with h4|h4
    .exact h4
    .exfalso;have d7:oi=t.o:=by
      have ar:all[t.i]? = some t.o:=by
       have:∀(l:List Stp) (s:SS),Chain P all s (l++t::post)->all[t.i]? = some t.o:=by
        intro l
        induction l with
        |nil=>intro s h;exact h.1.1
        |cons q l ih=>intro s h;exact ih _ h.2
       exact this pre s hc
      rw[ar]at h2;exact(Option.some.inj h2).symm
     rw[d7]at h3;have h5:=Aq9 (fM gq 4 t.o h3 h4);have h6:=(hl p.i).2 ⟨p,by simp[l7],rfl⟩;rw[h5]at h6;cases h6
   obtain ⟨c1,c2,c3⟩:=hc.first hap
   have gn:(pre++post).Pairwise λp t=>p.i<t.i:=by
    rw[tV]at ab|-;obtain ⟨q1,q2,q3⟩:=ab;exact⟨q1,(vU.1 q2).2,λx hx y hy=>q3 x hx y (by simp[hy])⟩
   have ag:∀q∈pre++post,q.i≠t.i:=λq hq=>by
    rw[tV]at ab;obtain ⟨q1,q2,q3⟩:=ab;rcases yI.1 hq with hq|hq
    .have:=q3 q hq t qq;omega
    .have:=(vU.1 q2).1 q hq;omega
   have tr:∀i,(listed.setIfInBounds t.i true).getD i true=false↔∃q∈pre++post,q.i=i:=λi=>by
    by_cases ed:t.i=i
    .subst ed;constructor
     .intro h4;exfalso;rcases vR t.i listed.size with h5|h5
      .simp[h5]at h4
      .rw[vF,uO (kS h5)]at h4;cases h4
     .rintro ⟨q,hq,hqi⟩;exact zX hqi (ag q hq)
    .rw[getD_set_ne true ed,hl i];constructor
     .rintro ⟨q,hq,rfl⟩;refine⟨q,?_,E⟩;simp only[yI,yH]at hq|-;rcases hq with hq|rfl|hq
      .exact .inl hq
      .exact zX E ed
      .exact .inr hq
     .rintro ⟨q,hq,rfl⟩;refine⟨q,?_,E⟩;simp only[yI,yH]at hq|-;rcases hq with hq|hq
      .exact .inl hq
      .exact .inr (.inr hq)
   have yw:∀i,listed.getD i false=true->(listed.setIfInBounds t.i true).getD i false=true:=λi h=>by
    by_cases ed:t.i=i
    .subst ed;rcases vR t.i listed.size with h5|h5
     .simp[h5]
     .rw[vF,uO h5]at h;cases h
    .rw[getD_set_ne false ed];exact h
   have hcl':Cl all (listed.setIfInBounds t.i true):=λi o xc ot e ew du=>by
    refine yw _ ?_;by_cases ed:t.i=i
    .subst ed;rw[h2]at xc;cases xc;exact h3 e ew du
    .rw[getD_set_ne true ed]at ot;exact gq i o xc ot e ew du
   have next:∀(k':Ka) (a':Act) (w':World),St F n (s.upd t.o.dst t.U) k' a' w'->wpAny P .any all Q m (listed.setIfInBounds t.i true) a' w':=λk' a' w' xb=>
    ih (pre++post) _ (s.upd t.o.dst t.U) k' a' w' (by simp at hm|-;omega) xb c2 p2 (λq hq=>he q (by simp only[yI,yH]at hq|-;exact hq.imp id .inr)) tr gn (kS bg) hcl' (by rw[<-c3];exact hQ)
   have d7:all[t.i]? = some t.o:=c1.1;have hdt:=nq t.i t.o d7;unfold wpOp;rw[d7];obtain ⟨_,d2,d3,d4⟩:=c1;have yx:=Wl (o:=t.o) hs (λ j want hg d hd=>by
    cases hj:all[j]? with
    |none=>rw[hj]at hd;cases hd
    | some oj=>rw[hj]at hd;exact nq j oj hj d (kS hd)) d2
   simp only[yx];cases hw:t.want with
   |true=>
    simp only[if_true];exact .inl ((d3 hw).good k a w hs.inv (λx _=>hs.ev x) (λj _=>hs.obj j) _ _ (λv k' w' st inv hv ho ia=>next k' _ w' (hs.put2 hdt st inv hv ho ia)))
   |false=>
    simp only[Bool.false_eq_true,if_false];refine next k _ w ?_;rw[d4 hw];exact hs.put (U:=⟨.val undef,[],[]⟩) hdt (Step.refl _ k w) hs.inv (by simp[Rd]) (λp hp=>by cases hp)
variable {C:Cx} {k:List KI} {s:SS}
def DR(C:Cx)(k:List KI)(all:Array Oper)(done:List Stp)(rest:List Oper)(s:SS):Prop :=
 ∃ts:List Stp,ts.map (·.o)=rest/\(∀j t,ts[j]? = some t->t.i=done.length+j)/\Chain C.P all s ts/\Mq all (done++ts)=true/\(done++ts).all lR=true/\G C k (fin s ts)
def Ag6(all:Array Oper)(done:List Stp):Bool:=Mq all done&&done.all lR
theorem DR_nil{all:Array Oper}{done:List Stp}(hp:Ag6 all done=true)(h:G C k s):DR C k all done [] s:=by
 simp only[Ag6,zG]at hp;exact⟨[],E,by simp,q_,kS hp.1,by rw[xG];exact hp.2,h⟩
theorem A0s{all:Array Oper}{done:List Stp}{o:Oper}{rest:List Oper}(U:Up)(hg:GoodX C.P o s U)(hi:all[done.length]? = some o)(hw:Zf all s o.guard true)(h:DR C k all (done++[⟨done.length,o,U,true⟩]) rest (s.upd o.dst U)):DR C k all done (o::rest) s:=by
 obtain ⟨ts,h1,h2,h3,h4,h5,h6⟩:=h;refine⟨⟨done.length,o,U,true⟩::ts,by simp[h1],λj t hj=>?_,⟨⟨hi,hw,λ_=>hg,λhf=>by cases hf⟩,h3⟩,kS h4,kS h5,h6⟩;cases j with
 |zero=>simp only[tD,Option.some.injEq]at hj;subst hj;rfl
 |succ j=>have:=h2 j t (kS hj);simp at this;omega
theorem A22{all:Array Oper}{done:List Stp}{o:Oper}{rest:List Oper}(hi:all[done.length]? = some o)(hw:Zf all s o.guard false)(h:DR C k all (done++[⟨done.length,o,⟨.val undef,[],[]⟩,false⟩]) rest (s.upd o.dst ⟨.val undef,[],[]⟩)):DR C k all done (o::rest) s:=by
 obtain ⟨ts,h1,h2,h3,h4,h5,h6⟩:=h;refine⟨⟨done.length,o,⟨.val undef,[],[]⟩,false⟩::ts,by simp[h1],λj t hj=>?_,⟨⟨hi,hw,λhf=>(by cases hf),λ_=>rfl⟩,h3⟩,kS h4,kS h5,h6⟩;cases j with
 |zero=>simp only[tD,Option.some.injEq]at hj;subst hj;rfl
 |succ j=>have:=h2 j t (kS hj);simp at this;omega
def Apm(n:Nat)(ops:List Oper):Bool:=ops.all λo=>match o.dst with|some d=>Nat.blt d n|none=>true
theorem G_draw{id:Nat}{ops:Array Oper}(hm:C.P.follows .mixedOrders=true)(hd:Apm C.n ops.toList=true)(h:DR C k ops [] ops.toList s):G C (.code (.region id ops true)::k) s:=λr a w hs=>by
 obtain ⟨ts,h1,h2,h3,h4,h5,h6⟩:=h;have nq:∀(i:Nat) (o:Oper),ops[i]? = some o->∀d,o.dst=some d->d<C.n:=λi o hi d hod=>by
  simp only[Apm,yU]at hd;have jt:o∈ops.toList:=by
   rw[<-vP]at hi;exact List.mem_of_getElem? hi
  have:=hd o jt;rw[hod]at this;exact wA this
 have hlen:ts.length=ops.size:=by
  have:=zH List.length h1;simpa using this
 have xb:St C.F C.n s r a {w with drawn:=w.drawn+1}:=by
  have g:=Grew.drew w;have st:Step (λ_=>False) r w r w.drew:=⟨g.size,g.os,g.tape,g.output,rfl,λb _=>rfl,λb _ _=>rfl,λ_ _ _ _=>rfl,λ_ _=>rfl,λ_ h=>h.elim,λ_ h=>.inl h⟩
  have inv:Inv r w.drew:=⟨hs.inv.inj,hs.inv.bnd,hs.inv.apart,hs.inv.mbnd⟩
  exact⟨hs.defers,hs.size,inv,hs.ctx.step inv st,λi=>Rd.step st _ _ (hs.slot i),λj=>ObOK.step st (λh=>h) _ (hs.obj j)⟩
 refine wp_region_any hm (Au9 nq ops.size ts (Array.replicate ops.size false) s r a _ hlen xb h3 (kS h4) (kS h5) ?_ ?_ qq ?_ (λr' a' w' hs''=>h6 r' a' w' hs''))
 .intro i;simp only[vF,Array.getElem?_replicate];constructor
  .intro h7;split at h7
   .rename_i hi;have:i<ts.length:=by omega
    exact⟨ts[i],zI this,kS (h2 i ts[i] (zR this))⟩
   .cases h7
  .rintro ⟨t,ht,rfl⟩;obtain ⟨j,hj,rfl⟩:=yY.1 ht;have:=h2 j ts[j] (zR hj);simp only[xK,xW]at this;rw[this,zE z_];rfl
 .rw[vM];intro i j hi hj cy;have e1:=h2 i ts[i] (zR hi);have e2:=h2 j ts[j] (zR hj);omega
 .intro i o xc ot;exfalso;have:i<ops.size:=by
   rcases vR i ops.size with h|h
   .exact h
   .rw[uO h]at xc;cases xc
  simp only[vF,Array.getElem?_replicate,zE this]at ot;cases ot
def Al(b:UInt8):SV:=.val (.int .u8 b.toNat)
def Aa(n:Int):SV:=.val (.int .i64 n)
def Ab(b:Bool):SV:=.val (.bool b)
def Bi(n:Int):SV:=.val (.int .u64 n)
def A9(n:Int):SV:=.val (.int .u32 n)
def Ar(s:ByteArray):SV:=.val (.string s)
theorem Aef{P:Program}(Γ:Ty P){t:TypeId}{ti:TI}{k:IntKind}(ht:Γ.get t=some ti)(hk:ti.k=.int k):P.underlying t=some (.int k):=by
 obtain ⟨d,info,z,k1,k2,_⟩:=Γ.ok t ti ht;rw[hk]at k2;simp only[TK.ok]at k2;subst k2;exact k1
theorem Ase{P:Program}(Γ:Ty P){t:TypeId}{ti:TI}(ht:Γ.get t=some ti)(hk:ti.k=.string):P.underlying t=some .string:=by
 obtain ⟨d,info,z,k1,k2,_⟩:=Γ.ok t ti ht;rw[hk]at k2;simp only[TK.ok]at k2;subst k2;exact k1
theorem aV{P:Program}(Γ:Ty P){o:Oper}{s:SS}{src dst:TypeId}{si di ei:TI}{x:Operand}{et:TypeId}{eb n:Nat}{ez:List Value}{ks:List Nat}{f:Nat->SV->Prop}(bs:List UInt8)(h:o.op=.convert src dst x)(hs:Γ.get src=some si)(hsk:si.k=.slice et 1 eb ez)(he:Γ.get et=some ei)(yy:ei.k=.int .u8)(hd:Γ.get dst=some di)(yz:di.k=.string)(hx:AppSrc s 1 (ev s x) ks n f)(hn:n=bs.length)(hf:∀i (h:i<bs.length),f i (Al bs[i])):Good P o s ⟨.val (.string ⟨bs.toArray⟩),ks,[]⟩ :=
 Good.pure λr a w hi hr ho=>by
  have r1:=hr x (by simp[h,Op.operands]);have jl:=hx.src r1 ho;obtain ⟨hu,_⟩:=Cs Γ hs hsk;have y0:=Aef Γ he yy;have r6:=Ase Γ hd yz;refine⟨.string ⟨bs.toArray⟩,?_,by simp[Rd]⟩;rcases jl with ⟨h0,cu,ad,cap,e1⟩|⟨b,off,cap,news,e1,e2,e3,e4,e5⟩
  .have hb:bs=[]:=yB z_;subst hb;cases ad with
   |none=>simp[execOp,h,e1,run_convert_bytes_nil w src et hu y0 0 cap dst r6];rfl
   |some ad=>
    have:=run_convert_bytes_back (P:=P) w src dst et ad cap [] hu y0 r6 (λj hj=>by simp at hj);simp only[xK]at this;simp[execOp,h,e1,this]
  .have:=run_convert_bytes_back (P:=P) w src dst et ⟨b,off,none⟩ cap bs hu y0 r6 (λ j hj=>by
    obtain ⟨q0,u,q1,q2,q3,q4⟩:=e5 j _ (hf j hj);have ss:u=.int .u8 bs[j].toNat:=by simpa [Al,RdD] using q1
    have q5:=q4 0 z_;rw[ss]at q5;simp only[Nat.mul_one,Nat.add_zero,Value.cells]at q5;rw[Addr.add_lit];exact e4 j _ (kS q5))
   rw[<-hn]at this;simp[execOp,h,e1,this]
inductive EK|int (k:IntKind)|bool|string
def EK.desc:EK->TypeDesc| .int k=>.int k| .bool=>.bool| .string=>.string
def Aph(P:Program):Nat->List Field->List EK->Prop
 |_,[],[]=>True
 |i, f::fs, k::ks=> f.name ≠ "_" /\ f.offset = i /\ P.underlying f.type = some k.desc /\ Aph P (i + 1) fs ks
 |_,_,_=>False
structure EqOK(P:Program)(t:TypeId)(ks:List EK):Prop where
 under:P.underlying t=some (.struct (P.fieldsOf t))
 stood:P.stoodInHeld t=false
 guard:P.eqGuardType P.depth t=false
 fields:Aph P 0 (P.fieldsOf t).toList ks
def eq1(k:EK)(x y:SV):Option Bool :=
 match k,x,y with
 | .int _,.val (.int k1 a),.val (.int k2 b)=>if k1=k2 then some (a==b) else none
 | .bool,.val (.bool a),.val (.bool b)=>some (a==b)
 | .string,.val (.string a),.val (.string b)=>some (a==b)
 |_,_,_=>none
theorem A2f{P:Program}{κ:Ka}{w:World}(d:Nat){t:TypeId}{k:EK}(ht:P.underlying t=some k.desc){x y:SV}{u v:Value}{b:Bool}(h:eq1 k x y=some b)(hx:Rd κ w x u)(hy:Rd κ w y v):(Op.equalIn (d+1) t u v).run P w=.ok b w:=by
 unfold eq1 at h;split at h
 .split at h
  .rename_i hk;subst hk;simp only[Option.some.injEq]at h;rw[hx.val,hy.val,<-h];exact run_equalIn_int w d t _ _ _ _ ht
  .cases h
 .simp only[Option.some.injEq]at h;rw[hx.val,hy.val,<-h];exact run_equalIn_bool' w d t _ _ ht
 .simp only[Option.some.injEq]at h;rw[hx.val,hy.val,<-h,beq_toListBytes];exact run_equalIn_string w d t _ _ ht
 .cases h
def eqS:List EK->List SV->List SV->Option Bool
 |[],[],[]=>some true
 |k::ks,x::l,y::m=>match eq1 k x y,eqS ks l m with
  |some a,some b=>some (a&&b)
  |_,_=>none
 |_,_,_=>none
theorem Zt{P:Program}(w:World){t:TypeId}{k:EK}(h:P.underlying t=some k.desc)(cs:Array Value){i:Nat}{v:Value}(hv:cs[i]? = some v):(part t cs i).run P w=.ok v w:=by
 cases k<;>simp only[EK.desc]at h<;>simp[part,isAgg,run_underlying h,hv]
theorem Azq{P:Program}{κ:Ka}{w:World}{xs ys:Array Value}(d:Nat):∀(ks:List EK) (fs:List Field) (i:Nat) (l m:List SV) (r:Bool),Aph P i fs ks->RdL κ w l (xs.toList.drop i)->RdL κ w m (ys.toList.drop i)->eqS ks l m=some r ->
  (Op.eqFields (d+1) xs ys fs).run P w=.ok r w
 |[],[],i,l,m,r,_,_,_,he=>by
  cases l<;>cases m<;>simp[eqS]at he
  subst he;simp[Op.eqFields]
 |[],_::_,i,l,m,r,h,_,_,_=>by simp[Aph]at h
 |_::_,[],i,l,m,r,h,_,_,_=>by simp[Aph]at h
 |k::ks,f::fs,i,[],m,r,h,hl,hm,he=>by simp[eqS]at he
 |k::ks,f::fs,i,x::l,[],r,h,hl,hm,he=>by simp[eqS]at he
 |k::ks,f::fs,i,x::l,y::m,r,h,hl,hm,he=>by
  simp only[Aph]at h;obtain ⟨h1,h2,h3,h4⟩:=h;simp only[RdL]at hl hm;obtain ⟨v,q,e1,e2,e3⟩:=hl;obtain ⟨u,p,f1,f2,f3⟩:=hm;have g1:xs[i]? = some v:=by
   have:=zH (λl=>l[0]?) e1;simpa using this
  have g2:ys[i]? = some u:=by
   have:=zH (λl=>l[0]?) f1;simpa using this
  have e4:xs.toList.drop (i+1)=q:=by
   have:=zH (List.drop 1) e1;simpa [tI] using this
  have f4:ys.toList.drop (i+1)=p:=by
   have:=zH (List.drop 1) f1;simpa [tI] using this
  have p1:=Zt (P:=P) w h3 xs g1;have p2:=Zt (P:=P) w h3 ys g2;simp only[eqS]at he;cases hb:eq1 k x y with
  |none=>rw[hb]at he;cases he
  |some b=>
   cases hq:eqS ks l m with
   |none=>rw[hb,hq]at he;cases he
   |some r'=>
    rw[hb,hq]at he;simp only[Option.some.injEq]at he;have au:=A2f (P:=P) (κ:=κ) (w:=w) d h3 hb e2 f2;have ih:=Azq d ks fs (i+1) l m r' h4 (by rw[e4];exact e3) (by rw[f4];exact f3) hq;simp only[Op.eqFields,zE h1,Sem.run_bind,h2,p1,p2,Result.andThen_ok,au];subst he;cases b
    .simp
    .simp[ih]
theorem eY{P:Program}{o:Oper}{s:SS}{op:BinOp}{t yt:TypeId}{x y:Operand}{l m:List SV}{ks:List EK}{r:Bool}(h:o.op=.binOp op t x y yt)(hop:op=.eql\/op=.neq)(hq:EqOK P t ks)(hx:ev s x=.agg l)(hy:ev s y=.agg m)(hr:eqS ks l m=some r):Good P o s ⟨.val (.bool (if op=.eql then r else !r)),[],[]⟩ :=
 Good.pure λk a w _ ia _=>by
  have h1:=ia x (by simp[h,Op.operands]);have h2:=ia y (by simp[h,Op.operands]);rw[hx]at h1;rw[hy]at h2;simp only[Rd]at h1 h2;obtain ⟨cs,e1,_,e3⟩:=h1;obtain ⟨ds,f1,_,f3⟩:=h2;have au:(Op.equal t (.agg cs.toArray) (.agg ds.toArray)).run P w=.ok r w:=by
   show (Op.equalIn (9999+1) t (.agg cs.toArray) (.agg ds.toArray)).run P w=.ok r w;rw[run_equalIn_struct w 9999 t _ _ hq.under hq.stood];exact Azq (κ:=k) 9998 ks _ 0 l m r hq.fields (kS e3) (kS f3) hr
  have hg:(eqGuard op t x y (.agg cs.toArray) (.agg ds.toArray)).run P w=.ok () w:=by
   rcases hop with rfl|rfl<;>simp[eqGuard,hq.guard]
  refine⟨.bool (if op=.eql then r else !r),?_,by simp[Rd]⟩;rcases hop with rfl|rfl<;>simp[execOp,h,e1,f1,hg,binOp,au]
theorem aS{P:Program}(Γ:Ty P){o:Oper}{s:SS}{op:BinOp}{t yt:TypeId}{ti:TI}{x y:Operand}{p q:Bool}(h:o.op=.binOp op t x y yt)(hop:op=.eql\/op=.neq)(ht:Γ.get t=some ti)(hk:ti.k=.bool)(hx:ev s x=.val (.bool p))(hy:ev s y=.val (.bool q)):Good P o s ⟨.val (.bool (if op=.eql then p==q else p != q)),[],[]⟩ :=
 Good.pure λb a w _ ia _=>by
  have h1:=ia x (by simp[h,Op.operands]);have h2:=ia y (by simp[h,Op.operands]);rw[hx]at h1;rw[hy]at h2;obtain ⟨d,info,z,k1,k2,_⟩:=Γ.ok t ti ht;rw[hk]at k2;simp only[TK.ok]at k2;subst k2;have au:=run_equal_bool (P:=P) w t p q k1;refine⟨.bool (if op=.eql then p==q else p != q),?_,by simp[Rd]⟩;rcases hop with rfl|rfl<;>simp[execOp,h,h1.val,h2.val,eqGuard_at_bool,binOp,au,bne]
theorem Xf{P:Program}(w:World)(d:Nat){t e:TypeId}(h:P.underlying t=some (.pointer e))(p:Option Addr):(Op.equalIn (d+1) t (.pointer p) (.pointer none)).run P w=.ok p.isNone w:=by
 cases p<;>simp[Op.equalIn,run_underlying h]
theorem eX{P:Program}(Γ:Ty P){o:Oper}{s:SS}{op:BinOp}{t yt:TypeId}{ti:TI}{x y:Operand}(h:o.op=.binOp op t x y yt)(hop:op=.eql\/op=.neq)(ht:Γ.get t=some ti)(hk:ti.k=.ptr)(hy:ev s y=.val (.pointer none)){b:Bool}{rd:List Nat}(hx:(∃k off l,ev s x=.ptr k off/\s.h k=.box l/\rd=[k]/\b=false)\/(ev s x=.val (.pointer none)/\rd=[]/\b=true)):Good P o s ⟨.val (.bool (if op=.eql then b else !b)),rd,[]⟩ :=
 Good.pure λr a w _ ia ho=>by
  have h1:=ia x (by simp[h,Op.operands]);have h2:=ia y (by simp[h,Op.operands]);rw[hy]at h2;obtain ⟨d,info,z,k1,k2,_⟩:=Γ.ok t ti ht;rw[hk]at k2;simp only[TK.ok]at k2;obtain ⟨e,rfl⟩:=k2;have key:∃p:Option Addr,a.eval x=.pointer p/\p.isNone=b:=by
   rcases hx with ⟨k,off,l,hx,hl,rfl,rfl⟩|⟨hx,rfl,rfl⟩
   .have h3:=ho k qq;rw[hl]at h3;obtain ⟨bb,cs,T,fr,e1,_⟩:=h3;rw[hx]at h1;simp only[Rd,e1]at h1;exact⟨_,h1,E⟩
   .rw[hx]at h1;exact⟨none,h1.val,E⟩
  obtain ⟨p,e1,e2⟩:=key;have au:(Op.equal t (.pointer p) (.pointer none)).run P w=.ok b w:=by
   show (Op.equalIn (9999+1) t (.pointer p) (.pointer none)).run P w=.ok b w;rw[Xf w 9999 k1,e2]
  refine⟨.bool (if op=.eql then b else !b),?_,by simp[Rd]⟩;rcases hop with rfl|rfl<;>simp[execOp,h,e1,h2.val,eqGuard_at_pointer,binOp,au]
end Go.Sy
