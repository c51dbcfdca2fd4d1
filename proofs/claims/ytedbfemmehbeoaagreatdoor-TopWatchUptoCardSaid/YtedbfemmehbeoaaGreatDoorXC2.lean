/- Parts of a proof. -/
import Derived.Test.YtedbfemmehbeoaaGreatDoorXC1
set_option linter.all false
namespace Go.Sy
variable {C:Cx} {k:List KI} {s:SS}
inductive Bgh(Γ:TypeId->Option TI)(s:SS):ResultVar->SV->Prop
 |tmp {t:Nat}:Bgh Γ s (.tmp t) (s.σ t)
 |cell {a:Nat} {t:TypeId} {k off:Nat} {l:List SV} {i:TI} {x:SV} (h1:s.σ a=.ptr k off) (h2:s.h k=.box l) (h3:Γ t=some i) (h4:Ur i l off=some x):Bgh Γ s (.cell a t) x
inductive S1(Γ:TypeId->Option TI)(s:SS):List ResultVar->List SV->Prop
 |nil:S1 Γ s [] []
 |cons {r:ResultVar} {rs:List ResultVar} {x:SV} {xs:List SV} (h:Bgh Γ s r x) (hs:S1 Γ s rs xs):S1 Γ s (r::rs) (x::xs)
theorem As{Γ:TypeId->Option TI}{s:SS}{t:Nat}:S1 Γ s [.tmp t] [s.σ t]:=.cons .tmp .nil
def comb:List SV->SV
 |[x]=>x
 |xs=>.tup xs
theorem A90{F:Fr}{n:Nat}{m:Ka}{a:Act}{w:World}{P:Program}{Γ:Ty P}(g:St F n s m a w){r:ResultVar}{x:SV}(h:Bgh Γ.get s r x):∃v,(match r with| .tmp t=>(pure (a.tmps.getD t undef):Sem Value)| .cell b t=>do loadVar t (<-asAddr (a.tmps.getD b undef))).run P w=.ok v w/\Rd m w x v:=by
 cases h with
 | @tmp t=>exact⟨_,rfl,g.ax t⟩
 | @cell b t k off l i x p I J R=>
  have hp:=g.ax b;have j:=g.obj k;rw[I]at j;obtain ⟨bb,e1,e2⟩:=j.cellsAt;rw[p]at hp;simp only[Rd,e1]at hp;obtain ⟨v,o,e4⟩:=S5 (P:=P) Γ J e2 R;rw[xU]at o;refine⟨v,?_,e4⟩;simp only[hp,Sem.run_bind,asAddr,Sem.run_pure,Result.andThen_ok,o]
theorem cF{F:Fr}{n:Nat}{k:Ka}{a:Act}{w:World}{P:Program}{Γ:Ty P}(p:St F n s k a w){fn:Func}{j:List ResultVar}(I:fn.results=j.toArray){xs:List SV}(h:S1 Γ.get s j xs):∃v,(results fn a.tmps).run P w=.ok v w/\Rd k w (comb xs) v:=by
 have key:∀(j:List ResultVar) (xs:List SV),S1 Γ.get s j xs->∃vs:List Value,(j.mapM (λ(r:ResultVar)=>match r with| .tmp t=>(pure (a.tmps.getD t undef):Sem Value)| .cell b t=>do loadVar t (<-asAddr (a.tmps.getD b undef)))).run P w=.ok vs w/\B8 k w xs vs:=by
  intro j xs h
  induction h with
  |nil=>exact⟨[],by simp,by simp[B8]⟩
  | @cons r j x xs h ya J=>
   obtain ⟨v,l,i⟩:=A90 (P:=P) (Γ:=Γ) p h;obtain ⟨vs,o,R⟩:=J;refine⟨v::vs,?_,by simp only[B8];exact⟨v,vs,q_,i,R⟩⟩;simp only[List.mapM_cons,Sem.run_bind,l,Result.andThen_ok,o,Sem.run_pure]
 obtain ⟨vs,l,i⟩:=key j xs h;have an:(fn.results.mapM (λ(r:ResultVar)=>match r with| .tmp t=>(pure (a.tmps.getD t undef):Sem Value)| .cell b t=>do loadVar t (<-asAddr (a.tmps.getD b undef)))).run P w=.ok vs.toArray w:=by
  rw[I,Array.mapM_eq_mapM_toList];simp only[Sem.run_map,l,Result.andThen_ok]
 refine⟨if h:vs.toArray.size=1 then vs.toArray[0] else .tuple vs.toArray,?_,?_⟩
 .unfold results;rw[Sem.run_bind];change ((Sem.run P (fn.results.mapM (λ(r:ResultVar)=>match r with| .tmp t=>(pure (a.tmps.getD t undef):Sem Value)| .cell b t=>do loadVar t (<-asAddr (a.tmps.getD b undef)))) w).andThen λq w'=>Sem.run P (pure (if h:q.size=1 then q[0] else Value.tuple q)) w')=_;rw[an];rfl
 .have g:=i.length
  match xs,g,i with
  |[],g,i=>
   simp only[B8]at i;subst i;simp[comb,Rd,B8]
  |[x],g,i=>
   simp only[B8]at i;obtain ⟨v,r,rfl,o,rfl⟩:=i;simpa [comb] using o
  |x::y::xs,g,i=>
   have ag:vs.toArray.size≠1:=by simp at g|-;omega
   rw[dif_neg ag];simp only[comb,Rd];exact⟨vs,q_,i⟩
def argσ(A:List SV):Nat->SV:=λi=>match Lr A i with|some x=>x|none=>.val undef
theorem B8.getD{k:Ka}{w:World}:∀{A:List SV} {vs:List Value} (m i:Nat),B8 k w A vs->Rd k w (argσ A i) ((vs++List.replicate m undef).getD i undef)
 |[],vs,m,i,h=>by
  simp only[B8]at h;subst h;have:argσ [] i=.val undef:=by cases i<;>rfl
  rw[this];simp only[Rd,xO,wL,List.getElem?_replicate];split<;>rfl
 |x::A,vs,m,0,h=>by
  simp only[B8]at h;obtain ⟨v,r,rfl,g,j⟩:=h;simpa [argσ,Lr] using g
 |x::A,vs,m,i+1,h=>by
  simp only[B8]at h;obtain ⟨v,r,rfl,g,j⟩:=h;have:=B8.getD (i:=i) m j;simpa [argσ,Lr] using this
def lK(P:Program)(fn:Func)(F:Fr)(R:SV)(H':It):Exit->Act->World->Prop:=match F.ds with
 |[]=>bodyPost P fn λe w'=>∃v k',e=.returned v/\bG F k' w'/\Inv k' w'/\Rd k' w' R v/\H'.ok k' w'
 |_=>λ_ _ _=>True
theorem Az4{k:Ka}{w:World}:∀{O:It} {i:Nat},(∀p∈O,B3 k w p.1 p.2)->(i∉O.map (·.1)->k i=.new)->B3 k w i (mkh O i)
 |[],i,_,h=>h qx
 |(j,x)::r,i,l,o=>by
  simp only[mkh,uL];split
  .rename_i g;have:=yN g;subst this;exact l (j,x) qx
  .rename_i g;exact Az4 (λ p hp=>l p (by simp[hp])) (λ hi=>o (by
    simp only[xR,yH,vY];exact⟨λ e=>g (by subst e;simp),hi⟩))
theorem A41{P:Program}(Γ:Ty P){f:FuncId}{fn:Func}{c:Code}{A:List SV}{H:It}{R:SV}{g:It}(p:P.funcs[f]? = some fn)(r:fn.body=some c){n:Nat}(t:fn.ntmps=n)(hn:A.length<=n)(h:∀(F:Fr) (I:∀k,F.k0 k≠.new->k∈H.keys),G ⟨P,Γ,F,n,lK P fn F R g,H.keys,I⟩ [.code c] ⟨argσ A,mkh H⟩):Spec P f A H R g:=by
 subst t;intro a w vs hi j l J;refine calls_of_wp p r ?_;have o:=l.length;refine h ⟨w,a,[]⟩ j a _ w ⟨q_,?_,hi,bG.refl a w,?_,?_⟩
 .simp;omega
 .intro i;have:=l.getD (fn.ntmps-vs.length) i;have he:(vs.toArray++Array.replicate (fn.ntmps-vs.length) undef)=(vs++List.replicate (fn.ntmps-vs.length) undef).toArray:=by simp
  show Rd a w _ ((vs.toArray++Array.replicate (fn.ntmps-vs.toArray.size) undef).getD i undef);rw[tC,he];simpa using this
 .intro k;exact Az4 J (λhk=>Classical.byContradiction λag=>hk (j k ag))
theorem A21{P:Program}{fn:Func}{F:Fr}{R:SV}{H':It}{Γ:Ty P}{n:Nat}{bn:List Nat}{I:∀k,F.k0 k≠.new->k∈bn}{rs:List ResultVar}(hf:fn.results=rs.toArray){xs:List SV}(hx:S1 Γ.get s rs xs)(c:List (Nat×Nat))(L:It)(hL:∀p∈H',p∈L)(hR:R.ren (Bs c)=comb xs)(o6:R.inn L.keys=true)(a6:Sub ⟨P,Γ,F,n,lK P fn F R H',bn,I⟩ s c [] L){m:Ka}{a:Act}{w:World}(l:St F n s m a w):lK P fn F R H' .ret a w/\lK P fn F R H' .normal a w:=by
 obtain ⟨v,o,h2⟩:=cF (P:=P) (Γ:=Γ) l hf hx;have ck:=a6.st l;have ln:Ren (Bs c) L.keys m (Abx m (Bs c) L.keys):=⟨λk t=>Abw t⟩
 rw[<-hR]at h2;have h3:=Rd.unren ln (λb _=>Abv b) _ _ o6 h2;have hO:H'.ok (Abx m (Bs c) L.keys) w:=λp hp=>by
  have J:=hL p hp;have o:=a6.bp;have key:∀i:It,(∀q∈i,q.1∈L.keys)->A8h c L.keys s i->∀q∈i,B3 (Abx m (Bs c) L.keys) w q.1 q.2:=by
   intro i
   induction i with
   |nil=>intro _ _ q g;cases g
   |cons q r ih=>
    obtain ⟨j,x⟩:=q;intro t hm q g;simp only[A8h]at hm;rcases yH.1 g with rfl|g
    .rcases hm.1 with h4|h4
     .have h5:=l.obj (Bs c j);rw[<-h4]at h5;exact B3.unren ln (λb _=>Abv b) (t (j,x) qx) hm.2.1 h5
     .show B3 _ _ j x;rw[h4];trivial
    .exact ih (λq g=>t q (by simp[g])) hm.2.2 q g
  exact key L (λq g=>yT.2 ⟨q,g,q_⟩) o p J
 have ed:∃v' m',Ending.returned v=.returned v'/\bG F m' w/\Inv m' w/\Rd m' w R v'/\H'.ok m' w:=⟨v,_,rfl,ck.ctx,ck.inv,h3,hO⟩
 have h0:=l.defers;unfold lK;cases hd:F.ds with
 |nil=>
  rw[hd]at h0;exact⟨⟨h0,v,o,ed⟩,⟨h0,v,o,ed⟩⟩
 |cons=>exact⟨trivial,trivial⟩
theorem G_set(d:Nat){x:SV}(h:∀b w v,Rd b w (s.σ d) v->Rd b w x v)(j:G C k ⟨upd s.σ d x,s.h⟩):G C k s:=λb a w g=>
 j b a w ⟨g.defers,g.size,g.inv,g.ctx,λ i=>by
  show Rd b w (upd s.σ d x i) _;by_cases hi:i=d
  .subst hi;rw[C2];exact h b w _ (g.ax i)
  .rw[D7 _ _ hi];exact g.ax i,g.obj⟩
theorem Axe(d:Nat){sz:Nat}{c:Type}{e:c->SV}{l:List c}{j:List SV}(h:s.h d=.lit sz j)(p:l.map e=j)(r:G C k ⟨s.σ,upd s.h d (.row sz e l)⟩):G C k s:=λm a w o=>
 r m a w ⟨o.defers,o.size,o.inv,o.ctx,o.ax,λ i=>by
  show B3 m w i (upd s.h d (.row sz e l) i);by_cases hi:i=d
  .subst hi;rw[C2];have:=o.obj i;rw[h]at this;obtain ⟨b,cap,cs,T,t,I,J,P,R,e5,e6⟩:=this;have g:l.length=j.length:=by rw[<-p];simp
   exact .inr ⟨b,cap,cs,T,t,by rw[g];exact I,J,P,R,by omega,λi x hx=>by rw[g];exact e6 i x (Yi p i x hx)⟩
  .rw[D7 _ _ hi];exact o.obj i⟩
theorem Ct(i d sz:Nat){c:Type}(e:c->SV)(h:s.σ i=.val (.slice none 0 0))(o:s.h d=.fresh)(p:G C k ⟨upd s.σ i (.osl d),upd s.h d (.row sz e [])⟩):G C k s:=λm a w g=>by
 have r:m d=.new:=by have:=g.obj d;rwa [o]at this
 obtain ⟨st,inv⟩:=Lm g.inv r (e:=.nil) (Kb.refl w) (λb t=>by cases t);refine p (H4 m d .nil) a w ⟨g.defers,g.size,inv,g.ctx.step inv st,λj=>?_,λj=>?_⟩
 .show Rd _ w (upd s.σ i (.osl d) j) _;by_cases l:j=i
  .subst l;rw[C2];have:=g.ax j;rw[h]at this;simp[Rd,Az,this.val]
  .rw[D7 _ _ l];exact Rd.step st _ _ (g.ax j)
 .show B3 _ w j (upd s.h d (.row sz e []) j);by_cases l:j=d
  .subst l;rw[C2];exact .inl ⟨Az _ _ _,rfl⟩
  .rw[D7 _ _ l];exact B3.step st l _ (g.obj j)
def freezeσ(σ:Nat->SV)(x:SV):List Nat->Nat->SV
 |[]=>σ
 |i::r=>freezeσ (upd σ i x) x r
theorem Hn.freeze{k k':Ka}{w:World}{d sz:Nat}{a:Type}{e:a->SV}{l:List a}(h:Hn k w d sz l.length (U9 e l)){v:Value}(g:Rd k w (.osl d) v)(p:∀b,b<w.heap.size->¬Own k b->¬Own k' b)(r:∀b,(k d).block? = some b->b<w.heap.size/\¬Own k' b):Rd k' w (.sl sz e l) v:=by
 obtain ⟨b,cap,cs,T,t,o,I,e3,e4,J,P⟩:=h;simp only[Rd,o]at g;obtain ⟨R,h2⟩:=r b (by rw[o];rfl);simp only[Rd,D3];refine .inr ⟨b,0,cap,g,J,h2,R,λi hi=>?_⟩;obtain ⟨h0,u,u1,u2,u3,u4⟩:=P i (e l[i]) ⟨hi,rfl⟩;refine⟨u,D3.keep ⟨yG _,λ_ _ _=>rfl,p⟩ _ _ u1,u2,u3,λj hj=>?_⟩;rw[xU,cell_of_row w b _ cs.toArray T t I];simpa using u4 j hj
theorem freezeσ_ok{k:Ka}{w:World}{a:Act}{x:SV}:∀(r:List Nat) (σ:Nat->SV) (i:Nat),Rd k w (σ i) (a.tmps.getD i undef)->(i∈r->Rd k w x (a.tmps.getD i undef))->Rd k w (freezeσ σ x r i) (a.tmps.getD i undef)
 |[],σ,i,h,_=>h
 |j::r,σ,i,h,g=>by
  refine freezeσ_ok r (upd σ j x) i ?_ (λhi=>g (by simp[hi]));by_cases l:i=j
  .subst l;rw[C2];exact g qx
  .rw[D7 _ _ l];exact h
variable {C:Cx} {k:List KI} {s:SS}
structure Fun(P:Program)(f:FuncId)(fn:Func)(c:Code):Prop where
 da:P.funcs[f]? = some fn
 body:fn.body=some c
 name : (fn.name == "runtime.NumGoroutine") = false
theorem U8{P:Program}{f:FuncId}{fn:Func}{c:Code}(h:Fun P f fn c)(args:Array Value)(w:World):(callFunc f args).run P w=.ok (.enter f args) w:=by
 have g : ¬fn.name = "runtime.NumGoroutine" := kS h.name;simp[callFunc,h.da,g,h.body]
theorem Spec.at{P:Program}{f:FuncId}{A:List SV}{H:It}{R:SV}{H':It}(h:Spec P f A H R H'){ρ:Nat->Nat}(iu:∀i∈H'.keys,∀j∈H'.keys,ρ i=ρ j->i=j)(p5:∀k∈H.keys,k∈H'.keys)(zn:C7 H.keys A=true)(a6:∀p∈H,p.2.inn H.keys=true)(o6:R.inn H'.keys=true)(a4:∀p∈H',p.2.inn H'.keys=true){a:Ka}{w:World}{vs:List Value}(hi:Inv a w)(hA:B8 a w (S8 ρ A) vs)(hH:∀p∈H,B3 a w (ρ p.1) (p.2.ren ρ))(ay:∀k∈H'.keys,k∉H.keys->a (ρ k)=.new):Calls P f vs.toArray w λe w'=>∃v a',e=.returned v/\En (λn=>∃k∈H'.keys,ρ k=n) a w a' w'/\Inv a' w'/\Rd a' w' (R.ren ρ) v/\∀p∈H',B3 a' w' (ρ p.1) (p.2.ren ρ):=by
 let ac:Ka:=⟨λk=>if k∈H.keys then a (ρ k) else .new,λb=>a.M b\/∃n,(∀k∈H.keys,ρ k≠n)/\(a n).block? = some b⟩
 have s7:∀k,k∈H.keys->ac k=a (ρ k):=λk r=>by simp[ac,r]
 have kv:∀k,k∉H.keys->ac k=.new:=λk r=>by simp[ac,r]
 have th:∀k b,(ac k).block? = some b->k∈H.keys/\(a (ρ k)).block? = some b:=λk b I=>by
  by_cases r:k∈H.keys
  .rw[s7 k r]at I;exact⟨r,I⟩
  .rw[kv k r]at I;cases I
 have a7:Inv ac w:=by
  refine⟨λi j b g t=>?_,λj b g=>hi.bf _ b (th j b g).2,λj b g hm=>?_,λb hm=>?_⟩
  .obtain ⟨a1,a2⟩:=th i b g;obtain ⟨b1,b2⟩:=th j b t;exact iu i (p5 i a1) j (p5 j b1) (hi.inj _ _ b a2 b2)
  .obtain ⟨a1,a2⟩:=th j b g;rcases hm with hm|⟨n,l,hm⟩
   .exact hi.apart _ b a2 hm
   .exact l j a1 (hi.inj _ _ b a2 hm)
  .rcases hm with hm|⟨n,_,hm⟩
   .exact hi.bh b hm
   .exact hi.bf n b hm
 have jk:∀b,b<w.heap.size->¬Own a b->¬Own ac b:=by
  rintro b _ l (⟨j,o⟩|(hm|⟨n,_,hm⟩))
  .exact l (.inl ⟨_,(th j b o).2⟩)
  .exact l (.inr hm)
  .exact l (.inl ⟨n,hm⟩)
 have ln:Ren ρ H.keys a ac:=⟨λk r=>s7 k r⟩
 have a8:B8 ac w A vs:=B8.unren ln jk A vs zn hA;have a9:It.ok ac w H:=λp hp=>B3.unren ln jk (yT.2 ⟨p,hp,rfl⟩) (a6 p hp) (hH p hp)
 refine(h ac w vs a7 (λj o=>Classical.byContradiction λl=>o (kv j l)) a8 a9).mono ?_;rintro e w' ⟨v,ad,rfl,cu,hid,hR,hO⟩
 let pick:Nat->Option Nat:=λn=>H'.keys.find? (λk=>decide (ρ k=n))
 let a':Ka:=⟨λn=>match pick n with|some k=>ad k|none=>a n,a.M⟩
 have eh:∀k,k∈H'.keys->pick (ρ k)=some k:=λk r=>by
  cases hf:pick (ρ k) with
  |none=>
   have:=List.find?_eq_none.1 hf k r;simp at this
  |some j=>
   have g:=List.find?_some hf;have t:=List.mem_of_find?_eq_some hf;rw[iu j t k r (zO g)]
 have fy:∀n,(∀k∈H'.keys,ρ k≠n)->pick n=none:=λn l=>List.find?_eq_none.2 (λk r=>kS (l k r))
 have dg:∀k,k∈H'.keys->a' (ρ k)=ad k:=λk r=>by show (match pick (ρ k) with|some k=>ad k|none=>a (ρ k))=ad k;rw[eh k r]
 have cq:∀n,(∀k∈H'.keys,ρ k≠n)->a' n=a n:=λn l=>by show (match pick n with|some k=>ad k|none=>a n)=a n;rw[fy n l]
 have da:∀n,(∃k∈H'.keys,ρ k=n)\/(∀k∈H'.keys,ρ k≠n):=λn=>by
  by_cases l:∃k∈H'.keys,ρ k=n
  .exact .inl l
  .exact .inr (λk r e=>l ⟨k,r,e⟩)
 have a0:ad.M=ac.M:=cu.M;have w4:∀b,b<w.heap.size->(∀j,(ac j).block? ≠ some b)->w'.heap[b]? = w.heap[b]?:=λb I l=>cu.ci b I l
 have vr:∀j b,(ad j).block? = some b->w.heap.size<=b\/∃i∈H.keys,(a (ρ i)).block? = some b:=λj b o=>by
  rcases cu.bc j b o with g|⟨i,g⟩
  .exact .inl g
  .exact .inr ⟨i,th i b g⟩
 have il:En (λn=>∃k∈H'.keys,ρ k=n) a w a' w':=by
  refine⟨cu.size,cu.os,cu.tape,cu.output,q_,λb hm=>?_,λb I l=>?_,λn b l I=>?_,λn l=>cq n (λk r e=>l ⟨k,r,e⟩),?_,?_⟩
  .exact w4 b (hi.bh b hm) (λj o=>hi.apart _ b (th j b o).2 hm)
  .exact w4 b I (λj o=>l (.inl ⟨_,(th j b o).2⟩))
  .refine w4 b (hi.bf n b I) (λj o=>?_);obtain ⟨a1,a2⟩:=th j b o;exact l ⟨j,p5 j a1,hi.inj _ _ b a2 I⟩
  .rintro n ⟨j,o,rfl⟩;rw[dg j o];by_cases a3:j∈H.keys
   .by_cases zo:a (ρ j)=.new
    .exact .inl zo
    .have:=cu.cc j (by show ac j≠.new;rw[s7 j a3];exact zo);rw[<-s7 j a3];exact .inr this
   .exact .inl (ay j o a3)
  .rintro b (⟨n,l⟩|l)
   .rcases da n with ⟨j,o,rfl⟩|ag
    .rw[dg j o]at l;rcases vr j b l with g|⟨i,_,g⟩
     .exact .inr g
     .exact .inl (.inl ⟨_,g⟩)
    .rw[cq n ag]at l;exact .inl (.inl ⟨n,l⟩)
   .exact .inl (.inr l)
 have a5:Inv a' w':=by
  have J:∀j∈H'.keys,∀n,(∀k∈H'.keys,ρ k≠n)->∀b,(ad j).block? = some b->(a n).block? = some b->False:=λj o n l b g t=>by
   rcases vr j b g with h3|⟨i,hi',h3⟩
   .have:=hi.bf n b t;omega
   .exact l i (p5 i hi') (hi.inj _ _ b h3 t)
  refine⟨λm n b g t=>?_,λn b g=>?_,λn b g hm=>?_,λb hm=>xB (hi.bh b hm) cu.size⟩
  .rcases da m with ⟨i,hi',rfl⟩|hm<;>rcases da n with ⟨j,o,rfl⟩|l
   .rw[dg i hi']at g;rw[dg j o]at t;rw[hid.inj i j b g t]
   .rw[dg i hi']at g;rw[cq n l]at t;exact(J i hi' n l b g t).elim
   .rw[cq m hm]at g;rw[dg j o]at t;exact(J j o m hm b t g).elim
   .rw[cq m hm]at g;rw[cq n l]at t;exact hi.inj m n b g t
  .rcases da n with ⟨j,o,rfl⟩|l
   .rw[dg j o]at g;exact hid.bf j b g
   .rw[cq n l]at g;exact xB (hi.bf n b g) cu.size
  .rcases da n with ⟨j,o,rfl⟩|l
   .rw[dg j o]at g;exact hid.apart j b g (by rw[a0];exact .inl hm)
   .rw[cq n l]at g;exact hi.apart n b g hm
 have vu:Ren ρ H'.keys a' ad:=⟨λk r=>(dg k r).symm⟩
 have vv:∀b,b<w'.heap.size->¬Own ad b->¬Own a' b:=by
  rintro b _ l (⟨n,g⟩|g)
  .rcases da n with ⟨j,o,rfl⟩|ag
   .rw[dg j o]at g;exact l (.inl ⟨j,g⟩)
   .rw[cq n ag]at g;exact l (.inr (by rw[a0];exact .inr ⟨n,λk r=>ag k (p5 k r),g⟩))
  .exact l (.inr (by rw[a0];exact .inl g))
 exact⟨v,a',q_,il,a5,Rd.ren vu vv R v o6 hR,λp hp=>B3.ren vu vv (yT.2 ⟨p,hp,q_⟩) (a4 p hp) (hO p hp)⟩
def Ux(A:List SV)(H:It)(R:SV)(H':It)(k:List (Nat×Nat)):Bool :=
 lU k [] H'.keys&&Aps H.keys H'.keys&&C7 H.keys A&&(H.all λp=>p.2.inn H.keys)&&R.inn H'.keys&&(H'.all λp=>p.2.inn H'.keys)
def Acf(s:SS)(a:List (Nat×Nat))(K:List Nat):List Nat->Prop
 |[]=>True
 |k::r=>(Yq K k=true\/s.h (Bs a k)=.fresh)/\Acf s a K r
def Adv(s:SS)(k:List (Nat×Nat)):It->Prop
 |[]=>True
 |(i,x)::r=>x.ren (Bs k)=s.h (Bs k i)/\Adv s k r
def Xy(k:List (Nat×Nat)):It->It
 |[]=>[]
 |(i,x)::r=>(Bs k i,x.ren (Bs k))::Xy k r
theorem Yk(k:List (Nat×Nat)):∀H:It,Xy k H=H.map λp=>(Bs k p.1,p.2.ren (Bs k))
 |[]=>rfl
 |(i,x)::r=>by simp[Xy,Yk k r]
def Enters(P:Program)(o:Oper)(s:SS)(rd:List Nat)(f:FuncId)(B:List SV):Prop :=
 ∀(b:Ka) (a:Act) (w:World),(∀x∈o.op.operands,Rd b w (ev s x) (a.eval x))->(∀k∈rd,B3 b w k (s.h k))->∃vs:List Value,(execOp a.eval o).run P w=.ok (.enter f vs.toArray) w/\B8 b w B vs
theorem eA{P:Program}{o:Oper}{s:SS}{f:FuncId}{fn:Func}{c:Code}{xs:List Operand}{g:Array TypeId}(h:o.op=.call ⟨.value (.func f),xs.toArray,g⟩)(i:Fun P f fn c):Enters P o s [] f (xs.map (ev s)) :=
 λk a w j _=>by
  refine⟨xs.map a.eval,?_,Xs xs (λx l=>j x (by simp[h,Op.operands,Call.operands,l]))⟩;have:=U8 i (xs.map a.eval).toArray w;simp[execOp,h,resolve,Act.eval,Deferred.ofValue,invoke]at this|-;exact this
theorem A3{P:Program}{o:Oper}{s:SS}{f:FuncId}{fn:Func}{c:Code}{x:Operand}{xs:List Operand}{l:Array TypeId}{first cap:List SV}(h:o.op=.call ⟨.value x,xs.toArray,l⟩)(p:ev s x=.clo (.func f) first cap)(r:Fun P f fn c):Enters P o s [] f (first++xs.map (ev s)++cap) :=
 λk a w i _=>by
  have g:=i x (by simp[h,Op.operands,Call.operands]);rw[p]at g;simp only[Rd]at g;obtain ⟨j,cs,t,I,J⟩:=g;refine⟨j++xs.map a.eval++cs,?_,B8.append (B8.append I (Xs xs (λy R=>i y (by simp[h,Op.operands,Call.operands,R])))) J⟩;have:=U8 r (j++xs.map a.eval++cs).toArray w;simp only[execOp,h,resolve,Deferred.ofValue,invoke,t,Sem.run_bind,Sem.run_pure,Result.andThen_ok]at this|-;rw[<-this];simp
theorem A1{P:Program}{o:Oper}{s:SS}{f:FuncId}{rd:List Nat}{B:List SV}{A:List SV}{H:It}{R:SV}{H':It}(m:List (Nat×Nat))(hE:Enters P o s rd f B)(hs:Spec P f A H R H')(hA:S8 (Bs m) A=B)(hH:Adv s m H)(aq:Ux A H R H' m=true)(ay:Acf s m H.keys H'.keys):Good P o s ⟨R.ren (Bs m),rd,Xy m H'⟩:=by
 intro b a w hi hr I N Q hN;simp only[Ux,zG,yX]at aq;obtain ⟨⟨⟨⟨⟨c1,c2⟩,c3⟩,c4⟩,c5⟩,c6⟩:=aq;obtain ⟨iu,_⟩:=fD c1;have p5:∀k∈H.keys,k∈H'.keys:=λk g=>by
  simp only[Aps,yX]at c2;exact Em.1 (c2 k g)
 have J:∀k∈H'.keys,Bs m k∈(Up.mk (R.ren (Bs m)) rd (Xy m H')).ws:=λk g=>by
  obtain ⟨p,hp,rfl⟩:=yT.1 g;simp only[Up.ws,Yk,tR,yT];exact⟨p,hp,q_⟩
 obtain ⟨vs,an,kx⟩:=hE b a w hr (λk g=>I k (.inl g));have j5:B8 b w (S8 (Bs m) A) vs:=by rw[hA];exact kx
 have a0:∀l:It,(∀p∈l,p∈H)->Adv s m l->∀p∈l,B3 b w (Bs m p.1) (p.2.ren (Bs m)):=by
  intro l
  induction l with
  |nil=>intro _ _ p hp;cases hp
  |cons q r ih=>
   obtain ⟨i,x⟩:=q;intro t he p hp;simp only[Adv]at he;rcases yH.1 hp with rfl|hp
   .have g:i∈H.keys:=yT.2 ⟨(i,x),t _ qx,rfl⟩;rw[he.1];exact I _ (.inr (J i (p5 i g)))
   .exact ih (λq hq=>t q (by simp[hq])) he.2 p hp
 have a1:∀k∈H'.keys,k∉H.keys->b (Bs m k)=.new:=by
  have key:∀K:List Nat,(∀k∈K,k∈H'.keys)->Acf s m H.keys K->∀k∈K,k∉H.keys->b (Bs m k)=.new:=by
   intro K
   induction K with
   |nil=>intro _ _ k g;cases g
   |cons j r ih=>
    intro t hn k g kc;simp only[Acf]at hn;rcases yH.1 g with rfl|g
    .rcases hn.1 with h1|h1
     .exact zW (Em.1 h1) kc
     .have:=I _ (.inr (J k (t k qx)));rw[h1]at this;exact this
    .exact ih (λk g=>t k (by simp[g])) hn.2 k g kc
  exact key _ (λ_ g=>g) ay
 have em:=hs.at (ρ:=Bs m) iu p5 c3 (λp hp=>c4 p hp) c5 (λp hp=>c6 p hp) hi j5 (a0 H (λ_ hp=>hp) hH) a1;simp only[Oper.wp,an,Oper.upon];refine em.mono ?_;rintro e w' ⟨v,b',rfl,st,inv,hv,hO⟩;refine hN v b' w' (st.weaken ?_) inv hv (λp hp=>?_)
 .rintro n ⟨j,hj,rfl⟩;exact J j hj
 .simp only[Yk,yT]at hp;obtain ⟨q,hq,rfl⟩:=hp;exact hO q hq
def Ow(k:Ka):List Nat->Ka
 |[]=>k
 |n::V=>Ow (H4 k n .dead) V
theorem A3c(k:Ka):∀V:List Nat,(Ow k V).M=k.M
 |[]=>rfl
 |n::V=>by rw[Ow,A3c];rfl
theorem Qc{w:World}:∀(V:List Nat) (k:Ka),Inv k w->En (·∈V) k w (Ow k V) w/\Inv (Ow k V) w
 |[],k,hi=>⟨En.refl _ k w,hi⟩
 |n::V,k,hi=>by
  have i:=Lx (κ:=k) (w:=w) (some n);have l:=Oz hi (some n);obtain ⟨o,p⟩:=Qc V (H4 k n .dead) l;exact⟨(i.weaken (λj g=>by simp only[Option.some.injEq]at g;subst g;simp)).trans (o.weaken (λj g=>by simp[g])),p⟩
theorem Ajm(k:Ka):∀(V:List Nat) (n:Nat),n∈V\/k n=.dead->Ow k V n=.dead
 |[],n,h=>h.resolve_left qx
 |m::V,n,h=>by
  rw[Ow];apply Ajm;by_cases hm:n=m
  .subst hm;right;exact Az _ _ _
  .rcases h with h|h
   .left;simpa [hm] using h
   .right;rw[C4 _ _ hm];exact h
theorem Ajl(k:Ka):∀(V:List Nat) (n:Nat),n∉V->Ow k V n=k n
 |[],n,_=>rfl
 |m::V,n,h=>by
  simp only[yH,vY]at h;rw[Ow,Ajl _ V n h.2,C4 _ _ h.1]
theorem Anq{k:Ka}{w:World}(hi:Inv k w){V:List Nat}{n b:Nat}(o:n∈V)(l:(k n).block? = some b):¬Own (Ow k V) b:=by
 rintro (⟨j,g⟩|g)
 .by_cases i:j∈V
  .rw[Ajm k V j (.inl i)]at g;cases g
  .rw[Ajl k V j i]at g;exact i (by rw[hi.inj j n b g l];exact o)
 .rw[A3c]at g;exact hi.apart n b l g
mutual
inductive Vw(s:SS)(V:List Nat):SV->SV->Prop
 |refl (x:SV):Vw s V x x
 |row {n sz:Nat} {α:Type} {e:α->SV} {l:List α} (h:s.h n=.row sz e l) (hn:Yq V n=true):Vw s V (.osl n) (.sl sz e l)
 |lit {n sz:Nat} {α:Type} {e:α->SV} {l:List α} {svs:List SV} (h:s.h n=.lit sz svs) (hl:l.map e=svs) (hn:Yq V n=true):Vw s V (.osl n) (.sl sz e l)
 |nil {sz:Nat} {α:Type} {e:α->SV}:Vw s V (.val (.slice none 0 0)) (.sl sz e [])
 |box {n sz o:Nat} {y:SV} {l:List SV} (h:s.h n=.box l) (hl:cellsOf y=l) (hc:(y.boxed&&y.data&&Nat.beq l.length sz)=true) (hn:Yq V n=true):Vw s V (.ptr n o) (.ref sz y o)
 |agg {l m:List SV} (h:VwL s V l m):Vw s V (.agg l) (.agg m)
inductive VwL(s:SS)(V:List Nat):List SV->List SV->Prop
 |nil:VwL s V [] []
 |cons {x y:SV} {l m:List SV} (h:Vw s V x y) (hs:VwL s V l m):VwL s V (x::l) (y::m)
end
def Awu{k k':Ka}{w:World}{d sz:Nat}{l:List SV}{x:SV}(h:B3 k w d (.box l))(i:cellsOf x=l)(I:x.boxed=true)(J:l.length=sz)(P:∀b,b<w.heap.size->¬Own k b->¬Own k' b)(R:∀b,(k d).block? = some b->b<w.heap.size/\¬Own k' b)(tm:x.data=true)(o:Nat)(v:Value)(p:Rd k w (.ptr d o) v):Rd k' w (.ref sz x o) v:=by
 obtain ⟨b,cs,T,fr,r,e2,e3,t,g⟩:=h;simp only[Rd,r]at p;obtain ⟨h1,h2⟩:=R b (by rw[r];rfl);rw[<-i]at g;obtain ⟨u,f1,f2⟩:=Rd.of_cells I t g;simp only[Rd,D3];refine⟨b,0,u,by rw[xU];exact p,h2,h1,D3.keep ⟨yG _,λ_ _ _=>rfl,P⟩ _ _ (Rd.data _ _ tm f1),?_,by rw[f2];exact t,λj hj=>?_⟩
 .have:=g.length;rw[<-J,<-i,<-this,<-f2];simp
 .rw[xU,cell_of_row w b _ cs.toArray T fr e2,<-f2]
def A3y{V:List Nat}{k:Ka}{w:World}(hi:Inv k w){n sz:Nat}{a:Type}{e:a->SV}{l:List a}(o:n∈V)(h:(k n=.nil/\l=[])\/Hn k w n sz l.length (U9 e l)){v:Value}(g:Rd k w (.osl n) v):Rd (Ow k V) w (.sl sz e l) v:=by
 rcases h with ⟨i,rfl⟩|i
 .simp only[Rd,i]at g;simp only[Rd,D3];exact .inl ⟨by simp,none,0,g⟩
 .exact i.freeze g (Qc V k hi).1.keeps.out (λb j=>⟨hi.bf n b j,Anq hi o j⟩)
mutual
theorem Vw.rd{s:SS}{V:List Nat}{k:Ka}{w:World}(hi:Inv k w)(r:∀n∈V,B3 k w n (s.h n)):∀{x y:SV} (_:Vw s V x y) {v:Value},Rd k w x v->Rd (Ow k V) w y v
 |_,_,.refl x,_,g=>Rd.step (Qc V k hi).1 _ _ g
 |_,_,.row h p,_,g=>by
  have o:=r _ (Em.1 p);rw[h]at o;exact A3y hi (Em.1 p) o g
 |_,_,.lit (l:=l) h t p,_,g=>by
  have o:=r _ (Em.1 p);rw[h]at o;obtain ⟨b,cap,cs,T,P,R,e2,e3,e4,e5,e6⟩:=o;refine A3y hi (Em.1 p) (.inr ?_) g;have j:=zH List.length t;simp only[yS]at j;exact⟨b,cap,cs,T,P,by rw[j];exact R,e2,e3,e4,by omega,λi x hx=>by rw[j];exact e6 i x (Yi t i x hx)⟩
 |_,_,.nil,_,g=>by
  simp only[Rd,D3];exact .inl ⟨by simp,none,0,g.val⟩
 |_,_,.box h t I p,_,g=>by
  have o:=r _ (Em.1 p);rw[h]at o;simp only[zG]at I;exact Awu o t I.1.1 (yN I.2) (Qc V k hi).1.keeps.out (λb J=>⟨hi.bf _ b J,Anq hi (Em.1 p) J⟩) I.1.2 _ _ g
 |_,_,.agg h,_,g=>by
  simp only[Rd]at g|-;obtain ⟨cs,o,h2,h3⟩:=g;exact⟨cs,o,h2,VwL.rd hi r h h3⟩
theorem VwL.rd{s:SS}{V:List Nat}{k:Ka}{w:World}(hi:Inv k w)(i:∀n∈V,B3 k w n (s.h n)):∀{l m:List SV} (_:VwL s V l m) {vs:List Value},B8 k w l vs->B8 (Ow k V) w m vs
 |_,_,.nil,_,g=>by simpa [B8] using g
 |_,_,.cons h j,_,g=>by
  simp only[B8]at g|-;obtain ⟨v,r,o,p,t⟩:=g;exact⟨v,r,o,Vw.rd hi i h p,VwL.rd hi i j t⟩
end
def A13(a:List (Nat×Nat))(K V:List Nat):Bool:=K.all λk=>!(Yq V (Bs a k))
def Qr{P:Program}{o:Oper}{s:SS}{f:FuncId}{B:List SV}{A:List SV}{H:It}{R:SV}{H':It}(m:List (Nat×Nat))(V:List Nat)(hE:Enters P o s [] f B)(hs:Spec P f A H R H')(hA:VwL s V B (S8 (Bs m) A))(hH:Adv s m H)(aq:Ux A H R H' m=true)(ay:Acf s m H.keys H'.keys)(hV:A13 m H'.keys V=true):Good P o s ⟨R.ren (Bs m),[],V.map (λn=>(n,.non))++Xy m H'⟩:=by
 intro b a w hi hr ho N Q hN;simp only[Ux,zG,yX]at aq;obtain ⟨⟨⟨⟨⟨c1,c2⟩,c3⟩,c4⟩,c5⟩,c6⟩:=aq;obtain ⟨iu,_⟩:=fD c1;have p5:∀k∈H.keys,k∈H'.keys:=λk g=>by
  simp only[Aps,yX]at c2;exact Em.1 (c2 k g)
 have I:∀k∈H'.keys,Bs m k∉V:=λk g hm=>by
  simp only[A13,yX]at hV;have:=hV k g;rw[Em.2 hm]at this;cases this
 have w5:∀k∈H'.keys,Bs m k∈(Up.mk (R.ren (Bs m)) [] (V.map (λn=>(n,Ob.non))++Xy m H')).ws:=λk g=>by
  obtain ⟨p,hp,rfl⟩:=yT.1 g;simp only[Up.ws,Yk,wP,tR,yJ,yT];exact .inr ⟨p,hp,q_⟩
 have zp:∀n∈V,n∈(Up.mk (R.ren (Bs m)) [] (V.map (λn=>(n,Ob.non))++Xy m H')).ws:=λn l=>by
  simp only[Up.ws,wP,tR,yJ,yT];exact .inl ⟨n,l,q_⟩
 have a0:∀n∈V,B3 b w n (s.h n):=λn l=>ho n (.inr (zp n l))
 obtain ⟨J,A0q⟩:=Qc V b hi;obtain ⟨vs,an,kx⟩:=hE b a w hr (λk g=>by cases g);have j5:B8 (Ow b V) w (S8 (Bs m) A) vs:=hA.rd hi a0 kx;have a1:∀H0:It,(∀p∈H0,p∈H)->Adv s m H0->∀p∈H0,B3 (Ow b V) w (Bs m p.1) (p.2.ren (Bs m)):=by
  intro H0
  induction H0 with
  |nil=>intro _ _ p hp;cases hp
  |cons q r ih=>
   obtain ⟨i,x⟩:=q;intro t he p hp;simp only[Adv]at he;rcases yH.1 hp with rfl|hp
   .have g:i∈H.keys:=yT.2 ⟨(i,x),t _ qx,rfl⟩;rw[he.1];exact B3.step J (I i (p5 i g)) _ (ho _ (.inr (w5 i (p5 i g))))
   .exact ih (λq hq=>t q (by simp[hq])) he.2 p hp
 have a2:∀k∈H'.keys,k∉H.keys->(Ow b V) (Bs m k)=.new:=by
  have key:∀K:List Nat,(∀k∈K,k∈H'.keys)->Acf s m H.keys K->∀k∈K,k∉H.keys->(Ow b V) (Bs m k)=.new:=by
   intro K
   induction K with
   |nil=>intro _ _ k g;cases g
   |cons j r ih=>
    intro t l k g kc;simp only[Acf]at l;rcases yH.1 g with rfl|g
    .rcases l.1 with h1|h1
     .exact zW (Em.1 h1) kc
     .have:=ho _ (.inr (w5 k (t k qx)));rw[h1]at this;rw[Ajl b V _ (I k (t k qx))];exact this
    .exact ih (λk g=>t k (by simp[g])) l.2 k g kc
  exact key _ (λ_ g=>g) ay
 have em:=hs.at (ρ:=Bs m) iu p5 c3 (λp hp=>c4 p hp) c5 (λp hp=>c6 p hp) A0q j5 (a1 H (λ_ hp=>hp) hH) a2;simp only[Oper.wp,an,Oper.upon];refine em.mono ?_;rintro e w' ⟨v,b',rfl,st,inv,hv,hO⟩;refine hN v b' w' ((J.weaken zp).trans (st.weaken ?_)) inv hv (λp hp=>?_)
 .rintro n ⟨j,hj,rfl⟩;exact w5 j hj
 .rcases yJ.1 hp with hp|hp
  .obtain ⟨n,_,rfl⟩:=yT.1 hp;trivial
  .simp only[Yk,yT]at hp;obtain ⟨q,hq,rfl⟩:=hp;exact hO q hq
mutual
def SV.plain:SV->Bool
 | .top=>true
 | .val _=>true
 | .agg l=>Aiu l
 | .tup l=>Aiu l
 |_=>false
def Aiu:List SV->Bool
 |[]=>true
 |x::l=>x.plain&&Aiu l
end
mutual
theorem Rd.plain{k k':Ka}{w w':World}:∀(x:SV) (v:Value),x.plain=true->Rd k w x v->Rd k' w' x v
 | .top,_,_,_=>by simp[Rd]
 | .val u,v,_,h=>by simpa [Rd] using h
 | .agg l,v,hp,h=>by
  simp only[Rd,SV.plain]at h hp|-;obtain ⟨cs,g,j,i⟩:=h;exact⟨cs,g,j,B8.plain l cs hp i⟩
 | .tup l,v,hp,h=>by
  simp only[Rd,SV.plain]at h hp|-;obtain ⟨cs,g,i⟩:=h;exact⟨cs,g,B8.plain l cs hp i⟩
 | .sl _ _ _,_,hp,_=>by simp[SV.plain]at hp
 | .ref _ _ _,_,hp,_=>by simp[SV.plain]at hp
 | .ptr _ _,_,hp,_=>by simp[SV.plain]at hp
 | .rpt _ _ _ _,_,hp,_=>by simp[SV.plain]at hp
 | .osl _,_,hp,_=>by simp[SV.plain]at hp
 | .ifc _ _,_,hp,_=>by simp[SV.plain]at hp
 | .clo _ _ _,_,hp,_=>by simp[SV.plain]at hp
theorem B8.plain{k k':Ka}{w w':World}:∀(l:List SV) (vs:List Value),Aiu l=true->B8 k w l vs->B8 k' w' l vs
 |[],_,_,h=>by simpa [B8] using h
 |x::l,vs,hp,h=>by
  simp only[B8,Aiu,zG]at h hp|-;obtain ⟨v,r,g,i,j⟩:=h;exact⟨v,r,g,Rd.plain x v hp.1 i,B8.plain l r hp.2 j⟩
end
mutual
theorem Br:∀x:SV,x.ren id=x
 | .ptr _ _=>rfl
 | .rpt _ _ _ _=>rfl
 | .osl _=>rfl
 | .agg l=>by simp only[SV.ren,O5 l]
 | .tup l=>by simp only[SV.ren,O5 l]
 | .ifc t x=>by simp only[SV.ren,Br x]
 | .clo fn f l=>by simp only[SV.ren,O5 f,O5 l]
 | .top=>rfl
 | .val _=>rfl
 | .sl _ _ _=>rfl
 | .ref _ _ _=>rfl
theorem O5:∀l:List SV,S8 id l=l
 |[]=>rfl
 |x::l=>by simp only[S8,Br x,O5 l]
end
def K0{P:Program}{o:Oper}{s:SS}{f:FuncId}{rd:List Nat}{B:List SV}{A:List SV}{R:SV}(V:List Nat)(hE:Enters P o s rd f B)(hs:Spec P f A [] R [])(hA:VwL s V B A)(zn:C7 [] A=true)(hR:R.plain=true):Good P o s ⟨R,V++rd,[]⟩:=by
 intro m a w hi hr ho N Q hN;have I:∀n∈V,B3 m w n (s.h n):=λn J=>ho n (.inl (by simp[J]))
 obtain ⟨a2,A0q⟩:=Qc V m hi;obtain ⟨vs,an,kx⟩:=hE m a w hr (λk hk=>ho k (.inl (by simp[hk])));have j5:B8 (Ow m V) w A vs:=hA.rd hi I kx
 let mc:Ka:=⟨λ_=>.new,Own (Ow m V)⟩
 have a0:Inv mc w:=by
  refine⟨λi j b t _=>?_,λj b t=>?_,λj b t=>?_,λb g=>?_⟩
  .cases t
  .cases t
  .cases t
  .rcases g with ⟨j,l⟩|l
   .exact A0q.bf j b l
   .exact A0q.bh b l
 have jk:∀b,b<w.heap.size->¬Own (Ow m V) b->¬Own mc b:=by
  rintro b _ J (⟨j,l⟩|l)
  .cases l
  .exact J l
 have a1:B8 mc w A vs:=B8.unren (ρ:=id) (K:=[]) (κ:=Ow m V) ⟨λk hk=>by cases hk⟩ jk A _ zn (by rw[O5];exact j5);have em:=hs mc w _ a0 (λj l=>zW rfl l) a1 (λp hp=>by cases hp);simp only[Oper.wp,an,Oper.upon];refine em.mono ?_;rintro e w' ⟨v,m',rfl,r,inv,hv,_⟩;have db:∀b,b<w.heap.size->w'.heap[b]? = w.heap[b]?:=λb g=>r.ci b g (λj l=>by cases l)
 refine hN v m w' ⟨r.size,r.os,r.tape,r.output,q_,λb g=>db b (hi.bh b g),λb g _=>db b g,λj b _ g=>db b (hi.bf j b g),λ_ _=>rfl,λ_ _=>.inr (.inl q_),λ_ g=>.inl g⟩
  ⟨hi.inj,λj b g=>xB (hi.bf j b g) r.size,hi.apart,λb g=>xB (hi.bh b g) r.size⟩ (Rd.plain _ _ hR hv) (λp hp=>by cases hp)
def Ad{P:Program}{o:Oper}{s:SS}{f:FuncId}{fn:Func}{c:Code}{xs:List Operand}{g:Array TypeId}{A:List SV}{H:It}{R:SV}{H':It}(k:List (Nat×Nat))(h:o.op=.call ⟨.value (.func f),xs.toArray,g⟩)(i:Fun P f fn c)(j:Spec P f A H R H')(l:S8 (Bs k) A=xs.map (ev s))(p:Adv s k H)(r:Ux A H R H' k=true)(t:Acf s k H.keys H'.keys):Good P o s ⟨R.ren (Bs k),[],Xy k H'⟩ :=
 A1 k (eA h i) j l p r t
def Aak{P:Program}{o:Oper}{s:SS}{f:FuncId}{fn:Func}{c:Code}{xs:List Operand}{g:Array TypeId}{A:List SV}{H:It}{R:SV}{H':It}(k:List (Nat×Nat))(V:List Nat)(h:o.op=.call ⟨.value (.func f),xs.toArray,g⟩)(i:Fun P f fn c)(j:Spec P f A H R H')(l:VwL s V (xs.map (ev s)) (S8 (Bs k) A))(p:Adv s k H)(r:Ux A H R H' k=true)(t:Acf s k H.keys H'.keys)(I:A13 k H'.keys V=true):Good P o s ⟨R.ren (Bs k),[],V.map (λn=>(n,.non))++Xy k H'⟩ :=
 Qr k V (eA h i) j l p r t I
def Ms{P:Program}{o:Oper}{s:SS}{f:FuncId}{fn:Func}{c:Code}{xs:List Operand}{g:Array TypeId}{A:List SV}{R:SV}(V:List Nat)(h:o.op=.call ⟨.value (.func f),xs.toArray,g⟩)(i:Fun P f fn c)(j:Spec P f A [] R [])(l:VwL s V (xs.map (ev s)) A)(p:C7 [] A=true)(r:R.plain=true):Good P o s ⟨R,V,[]⟩ :=
 by simpa using K0 V (eA h i) j l p r
structure Tu where
 i:Nat
 o:Oper
 U:Up
 want:Bool
def Ob.shp:Ob->Nat×Option Nat×Option (Nat×SV×Nat)
 | .box _=>(1,none,none)
 | .row _ _ l=>(0,some l.length,none)
 | .lit _ i=>(0,some i.length,none)
 | .glob sz x g=>(2,none,some (sz,x,g))
 | .rown _ _ l _ _=>(0,some l.length,none)
 |_=>(0,none,none)
theorem Ob.shp_len{x y:Ob}{n:Nat}(h:x.shp=y.shp)(g:y.len=some n):x.len=some n:=by
 cases x<;>cases y<;>simp_all[Ob.shp,Ob.len]
theorem Ob.shp_box{x:Ob}{l:List SV}(h:x.shp=(Ob.box l).shp):∃m,x=.box m:=by
 cases x<;>simp_all[Ob.shp]
def Qn(o:Oper):Bool:=match o.op with| .indexAddr ..=>true|_=>false
def X8(o:Oper):Bool:=match o.op with| .store ..=>true|_=>false
def A32(P:Program)(o:Oper)(s:SS)(U:Up):Prop :=
 ∀(b:Ka) (a:Act) (w:World),Inv b w->(∀x∈o.op.operands,Rd b w (ev s x) (a.eval x))->(∀k,k∈U.rd\/k∈U.ws->B3 b w k (s.h k)) ->
  ∀(N:Act->World->Prop) (Q:Exit->Act->World->Prop),
   (∀v b' w',En (λk=>k∈U.ws\/k∈U.rd) b w b' w'->Inv b' w'->Rd b' w' U.v v->(∀x∈U.bp,B3 b' w' x.1 x.2)->(∀k,k∈U.rd->k∉U.ws->B3 b' w' k (s.h k))->N (a.put o.dst v) w')->o.wp P a w N Q
theorem Good.two{P:Program}{o:Oper}{s:SS}{U:Up}(h:Good P o s U):A32 P o s U:=λb a w hi j i N Q l=>
 h b a w hi j i N Q λv b' w' st inv p r=>l v b' w' (st.weaken λ_ g=>.inl g) inv p r λk g t=>B3.step st t _ (i k (.inl g))
theorem Good.keep{P:Program}{o:Oper}{s:SS}{U:Up}(h:Good P o s U)(l:∀p∈U.bp,s.h p.1=p.2):A32 P o s ⟨U.v,U.rd++U.ws,[]⟩:=λb a w hi r i N Q t=>
 h b a w hi r (λk g=>i k (.inl (kS g))) N Q λv b' w' st inv I J=>t v b' w' (st.weaken λk g=>.inr (by simp[g])) inv I (λx R=>by cases R) λk dg _=>by
  by_cases j:k∈U.ws
  .obtain ⟨p,hp,rfl⟩:=yT.1 j;rw[l p hp];exact J p hp
  .exact B3.step st j _ (i k (.inl dg))
theorem St.put2{F:Fr}{n:Nat}{s:SS}{b b':Ka}{a:Act}{w w':World}(h:St F n s b a w){dst:Option Nat}{U:Up}{v:Value}(l:∀d,dst=some d->d<n)(st:En (λk=>k∈U.ws\/k∈U.rd) b w b' w')(hi:Inv b' w')(o:Rd b' w' U.v v)(p:∀x∈U.bp,B3 b' w' x.1 x.2)(r:∀k,k∈U.rd->k∉U.ws->B3 b' w' k (s.h k)):St F n (s.upd dst U) b' (a.put dst v) w' where
 defers:=by cases dst<;>exact h.defers
 size:=by cases dst<;>simp[Act.put,h.size]
 inv:=hi
 ctx:=h.ctx.step hi st
 ax i:=by
  cases dst with
  |none=>exact Rd.step st _ _ (h.ax i)
  |some d=>
   have t:=l d rfl;by_cases hi':i=d
   .subst hi';simp only[SS.upd,C2,Act.put];have I:i<a.tmps.size:=by rw[h.size];exact t
    simpa [I] using o
   .simp only[SS.upd,D7 _ _ hi',Act.put];have:(a.tmps.setIfInBounds d v).getD i undef=a.tmps.getD i undef:=by
     simp[Array.getElem?_setIfInBounds_ne (Ne.symm hi')]
    rw[this];exact Rd.step st _ _ (h.ax i)
 obj k:=Apk _ _ _ p (λ g=>by
  by_cases j:k∈U.rd
  .exact r k j g
  .exact B3.step st (λ J=>J.elim g j) _ (h.obj k))
structure O2(P:Program)(o:Oper)(s:SS)(U:Up):Prop where
 cy:A32 P o s U
 idx:Qn o=true->U.bp=[]/\∀s':SS,(∀x∈o.op.operands,ev s' x=ev s x)->(∀k∈U.rd,(s'.h k).shp=(s.h k).shp)->Good P o s' U
 st:X8 o=true->∀p∈U.bp,p.2.shp=(s.h p.1).shp
theorem O2.of{P:Program}{o:Oper}{s:SS}{U:Up}(h:Good P o s U)(i:(Qn o||X8 o)=false):O2 P o s U:=by
 simp only[wY]at i;exact⟨h.two,λg=>by (rw[i.1]at g;cases g),λg=>by (rw[i.2]at g;cases g)⟩
theorem O2.of2{P:Program}{o:Oper}{s:SS}{U:Up}(h:A32 P o s U)(i:(Qn o||X8 o)=false):O2 P o s U:=by
 simp only[wY]at i;exact⟨h,λg=>by (rw[i.1]at g;cases g),λg=>by (rw[i.2]at g;cases g)⟩
def Tu.ok(P:Program)(all:Array Oper)(s:SS)(t:Tu):Prop :=
 all[t.i]? = some t.o/\Aa9 all s t.o.guard t.want/\(t.want=true->O2 P t.o s t.U)/\(t.want=false->t.U=⟨.val undef,[],[]⟩)
def Bcy(K L:List Nat):Bool:=K.all λk=>!(Yq L k)
def Arl{K L:List Nat}(h:Bcy K L=true):∀k∈K,k∉L:=λk g i=>by
 simp only[Bcy,yX]at h;have:=h k g;rw[Em.2 i]at this;cases this
def eQ(all:Array Oper)(p t:Tu):Bool :=
 p.o.apart all t.o&&Bcy p.U.ws t.U.ws&&(Bcy p.U.ws t.U.rd||(X8 p.o&&Qn t.o))&&(Bcy t.U.ws p.U.rd||(X8 t.o&&Qn p.o))
def Bgf(all:Array Oper):Nat->Nat->Oper->Bool
 |0,_,_=>false
 |n+1,i,o=>o.after.toList.any λe=>Region.binds .any e&&(Nat.beq e.on i||(match all[e.on]? with|some u=>Bgf all n i u|none=>false))
def aft(all:Array Oper)(p t:Tu):Bool:=Bgf all 4 p.i t.o
def Cl(all:Array Oper)(listed:Array Bool):Prop:=∀i o,all[i]? = some o->listed.getD i true=true->∀e∈o.after,Region.binds .any e=true->listed.getD e.on false=true
def A3l{listed:Array Bool}{i:Nat}(h:listed.getD i false=true):listed.getD i true=true:=by
 simp only[vK]at h|-;cases g:listed[i]? with
 |none=>rw[g]at h;cases h
 |some b=>rw[g]at h;exact h
def Ags{all:Array Oper}{listed:Array Bool}(l:Cl all listed){i:Nat}:∀(n:Nat) (o:Oper),(∀e∈o.after,Region.binds .any e=true->listed.getD e.on false=true)->Bgf all n i o=true->listed.getD i false=true
 |0,_,_,h=>by cases h
 |n+1,o,r,h=>by
  simp only[Bgf,wA,zG,yR]at h;obtain ⟨e,t,I,g⟩:=h;have p:=r e (kS t) I;rcases g with g|g
  .rw[<-yN g];exact p
  .cases j:all[e.on]? with
   |none=>rw[j]at g;cases g
   |some u=>
    rw[j]at g;exact Ags l n u (l e.on u j (A3l p)) g
def Aeo(all:Array Oper)(p:Tu):List Tu->Bool
 |[]=>true
 |t::r=>(eQ all p t||aft all p t)&&Aeo all p r
def Vf(all:Array Oper):List Tu->Bool
 |[]=>true
 |p::r=>Aeo all p r&&Vf all r
def Aho(t:Tu):Bool:=t.o.after.toList.all λe=>!(Region.binds .any e)||Nat.blt e.on t.i
def fin(s:SS):List Tu->SS
 |[]=>s
 |t::r=>fin (s.upd t.o.dst t.U) r
def Agx(P:Program)(all:Array Oper):SS->List Tu->Prop
 |_,[]=>True
 |s,t::r=>t.ok P all s/\Agx P all (s.upd t.o.dst t.U) r
def Asa{k:Type 1}(f:Nat->k){d e:Nat}(u v:k)(h:d≠e):upd (upd f d u) e v=upd (upd f e v) d u:=by
 funext i;by_cases g:i=d
 .subst g;rw[D7 _ _ h,C2,C2]
 .by_cases j:i=e
  .subst j;rw[C2,D7 _ _ g,C2]
  .rw[D7 _ _ j,D7 _ _ g,D7 _ _ g,D7 _ _ j]
def Asb(h:Nat->Ob)(k:Nat)(o:Ob):∀(l:List (Nat×Ob)),k∉l.map (·.1)->aY (upd h k o) l=upd (aY h l) k o
 |[],_=>rfl
 |(j,x)::r,g=>by
  simp only[xR,yH,vY]at g;rw[aY,aY,Asa _ _ _ g.1,Asb _ k o r g.2]
def Amr:∀(l m:List (Nat×Ob)) (h:Nat->Ob),(∀k∈l.map (·.1),k∉m.map (·.1))->aY (aY h l) m=aY (aY h m) l
 |[],m,h,_=>rfl
 |(k,o)::r,m,h,g=>by
  rw[aY,aY,Amr r m _ (λj i=>g j (by simp at i|-;exact .inr i)),Asb h k o m (g k qx)]
def Agp{all:Array Oper}{p t:Tu}(h:eQ all p t=true):(∀d,p.o.dst=some d->d∉t.o.looksAt all)/\(∀d,p.o.dst=some d->t.o.dst≠some d)/\(∀d,t.o.dst=some d->d∉p.o.looksAt all)/\(∀k∈p.U.ws,k∉t.U.ws) /\
   ((∀k∈p.U.ws,k∉t.U.rd)\/(X8 p.o=true/\Qn t.o=true))/\((∀k∈t.U.ws,k∉p.U.rd)\/(X8 t.o=true/\Qn p.o=true)):=by
 simp only[eQ,zG,yR]at h;obtain ⟨⟨⟨g,i⟩,j⟩,l⟩:=h;obtain ⟨r,I,J⟩:=Oper.apart_spec g;exact⟨r,I,J,Arl i,j.imp Arl id,l.imp Arl id⟩
def Ar9{all:Array Oper}{p t:Tu}(h:eQ all p t=true)(s:SS):(s.upd p.o.dst p.U).upd t.o.dst t.U=(s.upd t.o.dst t.U).upd p.o.dst p.U:=by
 obtain ⟨_,g,_,i,_,_⟩:=Agp h;unfold SS.upd;congr 1
 .cases hp:p.o.dst with
  |none=>rfl
  |some d=>
   cases j:t.o.dst with
   |none=>rfl
   |some e=>exact Asa _ _ _ (λe'=>g d hp (by rw[j,e']))
 .exact Amr _ _ _ (λk l=>i k l)
def Afa{all:Array Oper}{s i:SS}{o:Oper}{b:Bool}(g:Aa9 all s o.guard b)(t:∀d,d∈o.looksAt all->i.σ d=s.σ d):Aa9 all i o.guard b:=by
 unfold Aa9 at g|-;cases l:o.guard with
 |none=>rw[l]at g;exact g
 |some q=>
  obtain ⟨j,p⟩:=q;rw[l]at g;obtain ⟨d,r,I⟩:=g;have J:i.σ d=s.σ d:=t d (by simp[Oper.looksAt,l,r]);exact⟨d,r,by rw[J];exact I⟩
def Av2{all:Array Oper}{s i:SS}{o:Oper}(j:∀d,d∈o.looksAt all->i.σ d=s.σ d):∀x∈o.op.operands,ev i x=ev s x:=λx l=>by
 cases x with
 |tmp d=>
  have p:i.σ d=s.σ d:=j d (by
   simp only[Oper.looksAt,yJ,vM];exact .inl ⟨.tmp d,kS l,q_⟩)
  simpa only [ev] using p
 |const v=>rfl
 |global g=>rfl
 |func f=>rfl
theorem Tu.congr{P:Program}{all:Array Oper}{s l:SS}{t:Tu}(h:t.ok P all s)(J:∀d,d∈t.o.looksAt all->l.σ d=s.σ d)(j:∀k,k∈t.U.rd\/k∈t.U.ws->l.h k=s.h k):t.ok P all l:=by
 obtain ⟨a1,a2,a3,a4⟩:=h;have R:=Av2 J;refine⟨a1,Afa a2 J,λr=>?_,a4⟩;obtain ⟨g1,g2,g3⟩:=a3 r;refine⟨λb a w hi hr ho N Q hN=>?_,λhi=>?_,λhi p hp=>?_⟩
 .exact g1 b a w hi (λx i=>by rw[<-R x i];exact hr x i) (λk g=>by rw[<-j k g];exact ho k g) N Q (λv b' w' st inv hv cz jd=>hN v b' w' st inv hv cz λk g r=>by rw[j k (.inl g)];exact jd k g r)
 .obtain ⟨e1,e2⟩:=g2 hi;exact⟨e1,λI q1 q2=>e2 I (λx i=>(q1 x i).trans (R x i)) (λk g=>by rw[q2 k g,j k (.inl g)])⟩
 .rw[g3 hi p hp,j p.1 (.inr (yT.2 ⟨p,hp,rfl⟩))]
theorem Tu.congrI{P:Program}{all:Array Oper}{s g:SS}{t:Tu}(h:t.ok P all s)(hi:Qn t.o=true)(j:∀d,d∈t.o.looksAt all->g.σ d=s.σ d)(l:∀k∈t.U.rd,(g.h k).shp=(s.h k).shp):t.ok P all g:=by
 obtain ⟨a1,a2,a3,a4⟩:=h;have r:=Av2 j;refine⟨a1,Afa a2 j,λhw=>?_,a4⟩;obtain ⟨g1,g2,g3⟩:=a3 hw;obtain ⟨I,J⟩:=g2 hi;refine⟨(J g r l).two,λ_=>⟨I,λi q1 q2=>J i (λx R=>(q1 x R).trans (r x R)) (λk hk=>by rw[q2 k hk,l k hk])⟩,λ_ p hp=>?_⟩;rw[I]at hp;cases hp
def Asc:∀(l:List (Nat×Ob)) (h:Nat->Ob) (k:Nat),(∀q∈l,q.2.shp=(h q.1).shp)->(aY h l k).shp=(h k).shp
 |[],_,_,_=>rfl
 |(j,o)::r,h,k,i=>by
  rw[aY,Asc r (Sy.upd h j o) k (λq p=>?_)]
  .by_cases g:k=j
   .subst g;rw[C2];exact i (k,o) qx
   .rw[D7 _ _ g]
  .rw[i q (by simp[p])];by_cases g:q.1=j
   .rw[g,C2];exact(i (j,o) qx).symm
   .rw[D7 _ _ g]
theorem Tu.lens{P:Program}{all:Array Oper}{s:SS}{t:Tu}(h:t.ok P all s)(hi:X8 t.o=true)(k:Nat):((s.upd t.o.dst t.U).h k).shp=(s.h k).shp:=by
 obtain ⟨_,_,i,j⟩:=h;cases g:t.want with
 |false=>rw[j g];rfl
 |true=>exact Asc _ _ _ ((i g).st hi)
def upd_σ_ne{s:SS}{dst:Option Nat}{U:Up}{d:Nat}(h:dst≠some d):(s.upd dst U).σ d=s.σ d:=by
 cases dst with
 |none=>rfl
 |some e=>exact D7 _ _ (λe'=>h (by rw[e']))
theorem Agx.first{P:Program}{all:Array Oper}{t:Tu}{post:List Tu}:∀{pre:List Tu} {s:SS},Agx P all s (pre++t::post)->(∀p∈pre,eQ all p t=true) ->
  t.ok P all s/\Agx P all (s.upd t.o.dst t.U) (pre++post)/\fin s (pre++t::post)=fin (s.upd t.o.dst t.U) (pre++post)
 |[],s,h,_=>⟨h.1,h.2,rfl⟩
 |p::pre,s,h,hp=>by
  obtain ⟨j,h2⟩:=h;obtain ⟨i1,i2,i3⟩:=Agx.first h2 (λq hq=>hp q (by simp[hq]))
  have l:=hp p qx;obtain ⟨b1,b2,b3,b4,r,I⟩:=Agp l;have ht:t.ok P all s:=by
   rcases r with r|⟨J,R⟩
   .exact Tu.congr i1 (λ d i=>(upd_σ_ne (λ e=>b1 d e i)).symm) (λ k g=>(Ahw (λ hm=>by
     rcases g with g|g
     .exact r k hm g
     .exact b4 k hm g)).symm)
   .exact Tu.congrI i1 R (λd i=>(upd_σ_ne (λe=>b1 d e i)).symm) (λk _=>(Tu.lens j J k).symm)
  have zf:p.ok P all (s.upd t.o.dst t.U):=by
   rcases I with I|⟨J,R⟩
   .exact Tu.congr j (λ d i=>upd_σ_ne (λ e=>b3 d e i)) (λ k g=>Ahw (λ hm=>by
     rcases g with g|g
     .exact I k hm g
     .exact b4 k g hm))
   .exact Tu.congrI j R (λd i=>upd_σ_ne (λe=>b3 d e i)) (λk _=>Tu.lens ht J k)
  refine⟨ht,⟨zf,?_⟩,?_⟩
  .rw[<-Ar9 l];exact i2
  .show fin (s.upd p.o.dst p.U) (pre++t::post)=fin ((s.upd t.o.dst t.U).upd p.o.dst p.U) (pre++post);rw[i3,Ar9 l]
def Afw{all:Array Oper}{t:Tu}{post:List Tu}:∀{pre:List Tu},Vf all (pre++t::post)=true->(∀p∈pre,eQ all p t=true\/aft all p t=true)/\Vf all (pre++post)=true
 |[],h=>by
  simp only[xO,Vf,zG]at h;exact⟨by simp,h.2⟩
 |p::pre,h=>by
  simp only[wF,Vf,zG]at h;obtain ⟨j,o⟩:=h;obtain ⟨r,I⟩:=Afw o;have key:∀l:List Tu,Aeo all p (l++t::post)=true->(eQ all p t=true\/aft all p t=true)/\Aeo all p (l++post)=true:=by
   intro l
   induction l with
   |nil=>intro h;simp only[xO,Aeo,zG,yR]at h;exact h
   |cons q l i=>
    intro h;simp only[wF,Aeo,zG]at h|-;exact⟨(i h.2).1,h.1,(i h.2).2⟩
  obtain ⟨k1,k2⟩:=key pre j;refine⟨λq g=>?_,?_⟩
  .rcases yH.1 g with rfl|g
   .exact k1
   .exact r q g
  .simp only[wF,Vf,zG];exact⟨k2,I⟩
def A76{P:Program}{F:Fr}{n:Nat}{all:Array Oper}{Q:Exit->Act->World->Prop}(o7:∀(i:Nat) (o:Oper),all[i]? = some o->∀d,o.dst=some d->d<n):∀(m:Nat) (rem:List Tu) (listed:Array Bool) (s:SS) (k:Ka) (a:Act) (w:World),rem.length=m->St F n s k a w->Agx P all s rem->Vf all rem=true->(∀t∈rem,Aho t=true) ->
   (∀i,listed.getD i true=false↔∃t∈rem,t.i=i)->(rem.Pairwise λp t=>p.i<t.i)->(∀i,i<all.size->i<listed.size)->Cl all listed->(∀k' a' w',St F n (fin s rem) k' a' w'->Q .normal a' w')->wpAny P .any all Q m listed a w:=by
 intro m
 induction m with
 |zero=>
  intro rem listed s k a w hm r _ _ _ hl _ _ _ hQ;have:rem=[]:=yF hm;subst this;refine⟨?_,hQ k a w r⟩;apply List.eq_nil_iff_forall_not_mem.2;intro i hi;have h1:=(mem_ready.1 hi).1;rw[hl i]at h1;obtain ⟨t,ht,_⟩:=h1;cases ht
 |succ m ih=>
  intro rem listed s k a w hm r hc hp he hl ab az gu hQ;have w6:∀t post,rem=t::post->t.i∈Region.ready .any all listed:=λt post h0=>by
   subst h0;refine mem_ready.2 ⟨(hl t.i).2 ⟨t,by simp,q_⟩,t.o,hc.1.1,λe zq hb=>?_⟩;have h1:=he t qx;simp only[Aho,yX,yR,xH]at h1;have I:e.on<t.i:=by
    rcases h1 e (kS zq) with I|I
    .rw[hb]at I;cases I
    .exact wG I
   have br:e.on<listed.size:=by
    refine az _ ?_;have:t.i<all.size:=by
     have:=hc.1.1;rcases vD t.i all.size with h|h
     .exact h
     .rw[uT h]at this;cases this
    omega
   have h3:listed.getD e.on true≠false:=λJ=>by
    obtain ⟨q,g,a0⟩:=(hl e.on).1 J;rcases yH.1 g with rfl|g
    .omega
    .have:=(vZ.1 ab).1 q g;omega
   simp only[vK,uJ br,Option.getD_some]at h3|-;cases hh:listed[e.on] with
   |true=>rfl
   |false=>exact zW hh h3
  refine⟨λh0=>?_,λi hi=>?_⟩
  .cases rem with
   |nil=>simp at hm
   |cons t post=>
    have:=w6 t post rfl;rw[h0]at this;cases this
  .obtain ⟨h1,oi,I,h3⟩:=mem_ready.1 hi;obtain ⟨t,ht,rfl⟩:=(hl i).1 h1;obtain ⟨pre,post,rfl⟩:=List.append_of_mem ht;obtain ⟨p1,p2⟩:=Afw hp;have a2:∀p∈pre,eQ all p t=true:=λp m5=>by
    rcases p1 p m5 with J|J
    .exact J
    .exfalso;have gh:oi=t.o:=by
      have aq:all[t.i]? = some t.o:=by
       have:∀(l:List Tu) (s:SS),Agx P all s (l++t::post)->all[t.i]? = some t.o:=by
        intro l
        induction l with
        |nil=>intro s h;exact h.1.1
        |cons q l ih=>intro s h;exact ih _ h.2
       exact this pre s hc
      rw[aq]at I;exact(Option.some.inj I).symm
     rw[gh]at h3;have R:=A3l (Ags gu 4 t.o h3 J);have h6:=(hl p.i).2 ⟨p,by simp[m5],rfl⟩;rw[R]at h6;cases h6
   obtain ⟨c1,c2,c3⟩:=hc.first a2
   have lq:(pre++post).Pairwise λp t=>p.i<t.i:=by
    rw[List.pairwise_append]at ab|-;obtain ⟨q1,q2,q3⟩:=ab;exact⟨q1,(vZ.1 q2).2,λx hx y hy=>q3 x hx y (by simp[hy])⟩
   have ag:∀q∈pre++post,q.i≠t.i:=λq g=>by
    rw[List.pairwise_append]at ab;obtain ⟨q1,q2,q3⟩:=ab;rcases yJ.1 g with g|g
    .have:=q3 q g t qx;omega
    .have:=(vZ.1 q2).1 q g;omega
   have vh:∀i,(listed.setIfInBounds t.i true).getD i true=false↔∃q∈pre++post,q.i=i:=λi=>by
    by_cases fc:t.i=i
    .subst fc;constructor
     .intro J;exfalso;rcases vD t.i listed.size with R|R
      .simp[R]at J
      .rw[vK,uT (kS R)]at J;cases J
     .rintro ⟨q,g,a0⟩;exact zW a0 (ag q g)
    .rw[getD_set_ne true fc,hl i];constructor
     .rintro ⟨q,g,rfl⟩;refine⟨q,?_,q_⟩;simp only[yJ,yH]at g|-;rcases g with g|rfl|g
      .exact .inl g
      .exact zW q_ fc
      .exact .inr g
     .rintro ⟨q,g,rfl⟩;refine⟨q,?_,q_⟩;simp only[yJ,yH]at g|-;rcases g with g|g
      .exact .inl g
      .exact .inr (.inr g)
   have zr:∀i,listed.getD i false=true->(listed.setIfInBounds t.i true).getD i false=true:=λi h=>by
    by_cases fc:t.i=i
    .subst fc;rcases vD t.i listed.size with R|R
     .simp[R]
     .rw[vK,uT R]at h;cases h
    .rw[getD_set_ne false fc];exact h
   have a1:Cl all (listed.setIfInBounds t.i true):=λi o yi pw e fq d5=>by
    refine zr _ ?_;by_cases fc:t.i=i
    .subst fc;rw[I]at yi;cases yi;exact h3 e fq d5
    .rw[getD_set_ne true fc]at pw;exact gu i o yi pw e fq d5
   have next:∀(k':Ka) (a':Act) (w':World),St F n (s.upd t.o.dst t.U) k' a' w'->wpAny P .any all Q m (listed.setIfInBounds t.i true) a' w':=λk' a' w' ya=>
    ih (pre++post) _ (s.upd t.o.dst t.U) k' a' w' (by simp at hm|-;omega) ya c2 p2 (λq g=>he q (by simp only[yJ,yH]at g|-;exact g.imp id .inr)) vh lq (kS az) a1 (by rw[<-c3];exact hQ)
   have gh:all[t.i]? = some t.o:=c1.1;have zs:=o7 t.i t.o gh;unfold wpOp;rw[gh];obtain ⟨_,d2,d3,d4⟩:=c1;have zt:=eY (o:=t.o) r (λ j a3 hg d hd=>by
    cases hj:all[j]? with
    |none=>rw[hj]at hd;cases hd
    | some oj=>rw[hj]at hd;exact o7 j oj hj d (kS hd)) d2
   simp only[zt];cases hw:t.want with
   |true=>
    simp only[if_true];exact .inl ((d3 hw).cy k a w r.inv (λx _=>r.ev x) (λj _=>r.obj j) _ _ (λv k' w' st inv hv ho jd=>next k' _ w' (r.put2 zs st inv hv ho jd)))
   |false=>
    simp only[Bool.false_eq_true,if_false];refine next k _ w ?_;rw[d4 hw];exact r.put (U:=⟨.val undef,[],[]⟩) zs (En.refl _ k w) r.inv (by simp[Rd]) (λp hp=>by cases hp)
variable {C:Cx} {k:List KI} {s:SS}
def DR(C:Cx)(k:List KI)(all:Array Oper)(done:List Tu)(l:List Oper)(s:SS):Prop :=
 ∃g:List Tu,g.map (·.o)=l/\(∀j t,g[j]? = some t->t.i=done.length+j)/\Agx C.P all s g/\Vf all (done++g)=true/\(done++g).all Aho=true/\G C k (fin s g)
def Arg(all:Array Oper)(done:List Tu):Bool:=Vf all done&&done.all Aho
theorem DR_nil{all:Array Oper}{done:List Tu}(hp:Arg all done=true)(h:G C k s):DR C k all done [] s:=by
 simp only[Arg,zG]at hp;exact⟨[],q_,by simp,z_,kS hp.1,by rw[yV];exact hp.2,h⟩
theorem A33{all:Array Oper}{done:List Tu}{o:Oper}{g:List Oper}(U:Up)(l:O2 C.P o s U)(hi:all[done.length]? = some o)(p:Aa9 all s o.guard true)(h:DR C k all (done++[⟨done.length,o,U,true⟩]) g (s.upd o.dst U)):DR C k all done (o::g) s:=by
 obtain ⟨r,I,J,R,h4,h5,h6⟩:=h;refine⟨⟨done.length,o,U,true⟩::r,by simp[I],λj t i=>?_,⟨⟨hi,p,λ_=>l,λhf=>by cases hf⟩,R⟩,kS h4,kS h5,h6⟩;cases j with
 |zero=>simp only[tK,Option.some.injEq]at i;subst i;rfl
 |succ j=>have:=J j t (kS i);simp at this;omega
theorem Bgp{all:Array Oper}{done:List Tu}{o:Oper}{g:List Oper}(hi:all[done.length]? = some o)(l:Aa9 all s o.guard false)(h:DR C k all (done++[⟨done.length,o,⟨.val undef,[],[]⟩,false⟩]) g (s.upd o.dst ⟨.val undef,[],[]⟩)):DR C k all done (o::g) s:=by
 obtain ⟨p,r,I,J,P,R,h6⟩:=h;refine⟨⟨done.length,o,⟨.val undef,[],[]⟩,false⟩::p,by simp[r],λj t i=>?_,⟨⟨hi,l,λhf=>(by cases hf),λ_=>rfl⟩,J⟩,kS P,kS R,h6⟩;cases j with
 |zero=>simp only[tK,Option.some.injEq]at i;subst i;rfl
 |succ j=>have:=I j t (kS i);simp at this;omega
def A1j(n:Nat)(ops:List Oper):Bool:=ops.all λo=>match o.dst with|some d=>Nat.blt d n|none=>true
theorem G_draw{id:Nat}{ops:Array Oper}(hm:C.P.follows .mixedOrders=true)(hd:A1j C.n ops.toList=true)(h:DR C k ops [] ops.toList s):G C (.code (.region id ops true)::k) s:=λm a w l=>by
 obtain ⟨p,h1,J,h3,h4,h5,h6⟩:=h;have o7:∀(i:Nat) (o:Oper),ops[i]? = some o->∀d,o.dst=some d->d<C.n:=λi o hi d R=>by
  simp only[A1j,yX]at hd;have gw:o∈ops.toList:=by
   rw[<-vV]at hi;exact List.mem_of_getElem? hi
  have:=hd o gw;rw[R]at this;exact wG this
 have r:p.length=ops.size:=by
  have:=zH List.length h1;simpa using this
 have ya:St C.F C.n s m a {w with drawn:=w.drawn+1}:=by
  have g:=Kb.drew w;have st:En (λ_=>False) m w m w.drew:=⟨g.size,g.os,g.tape,g.output,rfl,λb _=>rfl,λb _ _=>rfl,λ_ _ _ _=>rfl,λ_ _=>rfl,λ_ h=>h.elim,λ_ h=>.inl h⟩
  have inv:Inv m w.drew:=⟨l.inv.inj,l.inv.bf,l.inv.apart,l.inv.bh⟩
  exact⟨l.defers,l.size,inv,l.ctx.step inv st,λi=>Rd.step st _ _ (l.ax i),λj=>B3.step st (λh=>h) _ (l.obj j)⟩
 refine wp_region_any hm (A76 o7 ops.size p (Array.replicate ops.size false) s m a _ r ya h3 (kS h4) (kS h5) ?_ ?_ qx ?_ (λm' a' w' I=>h6 m' a' w' I))
 .intro i;simp only[vK,Array.getElem?_replicate];constructor
  .intro h7;split at h7
   .rename_i hi;have:i<p.length:=by omega
    exact⟨p[i],zI this,kS (J i p[i] (zT this))⟩
   .cases h7
  .rintro ⟨t,ht,rfl⟩;obtain ⟨j,hj,rfl⟩:=yY.1 ht;have:=J j p[j] (zT hj);simp only[xG,xU]at this;rw[this,zE j_];rfl
 .rw[vQ];intro i j hi hj df;have e1:=J i p[i] (zT hi);have e2:=J j p[j] (zT hj);omega
 .intro i o yi pw;exfalso;have:i<ops.size:=by
   rcases vD i ops.size with h|h
   .exact h
   .rw[uT h]at yi;cases yi
  simp only[vK,Array.getElem?_replicate,zE this]at pw;cases pw
def Ae(b:UInt8):SV:=.val (.int .u8 b.toNat)
def Aa(n:Int):SV:=.val (.int .i64 n)
def Ab(b:Bool):SV:=.val (.bool b)
def B1(n:Int):SV:=.val (.int .u64 n)
def Bo(n:Int):SV:=.val (.int .u32 n)
def Ap(s:ByteArray):SV:=.val (.string s)
theorem Aew{P:Program}(Γ:Ty P){t:TypeId}{g:TI}{k:IntKind}(i:Γ.get t=some g)(j:g.k=.int k):P.underlying t=some (.int k):=by
 obtain ⟨d,info,z,k1,k2,_⟩:=Γ.ok t g i;rw[j]at k2;simp only[TK.ok]at k2;subst k2;exact k1
theorem Am1{P:Program}(Γ:Ty P){t:TypeId}{g:TI}(i:Γ.get t=some g)(j:g.k=.string):P.underlying t=some .string:=by
 obtain ⟨d,info,z,k1,k2,_⟩:=Γ.ok t g i;rw[j]at k2;simp only[TK.ok]at k2;subst k2;exact k1
theorem Ac0{P:Program}(Γ:Ty P){o:Oper}{s:SS}{src dst:TypeId}{R di ei:TI}{x:Operand}{et:TypeId}{eb n:Nat}{ez:List Value}{ks:List Nat}{f:Nat->SV->Prop}(bs:List UInt8)(h:o.op=.convert src dst x)(hs:Γ.get src=some R)(zu:R.k=.slice et 1 eb ez)(he:Γ.get et=some ei)(w7:ei.k=.int .u8)(hd:Γ.get dst=some di)(xa:di.k=.string)(hx:Tl s 1 (ev s x) ks n f)(hn:n=bs.length)(hf:∀i (h:i<bs.length),f i (Ae bs[i])):Good P o s ⟨.val (.string ⟨bs.toArray⟩),ks,[]⟩ :=
 Good.pure λm a w hi hr ho=>by
  have r1:=hr x (by simp[h,Op.operands]);have ig:=hx.src r1 ho;obtain ⟨l,_⟩:=Di Γ hs zu;have p:=Aew Γ he w7;have r:=Am1 Γ hd xa;refine⟨.string ⟨bs.toArray⟩,?_,by simp[Rd]⟩;rcases ig with ⟨h0,bw,t,cap,g⟩|⟨b,off,cap,a0,g,e2,e3,e4,e5⟩
  .have hb:bs=[]:=yF j_;subst hb;cases t with
   |none=>simp[execOp,h,g,run_convert_bytes_nil w src et l p 0 cap dst r];rfl
   |some t=>
    have:=run_convert_bytes_back (P:=P) w src dst et t cap [] l p r (λj I=>by simp at I);simp only[xG]at this;simp[execOp,h,g,this]
  .have:=run_convert_bytes_back (P:=P) w src dst et ⟨b,off,none⟩ cap bs l p r (λ j I=>by
    obtain ⟨q0,u,q1,q2,q3,q4⟩:=e5 j _ (hf j I);have rz:u=.int .u8 bs[j].toNat:=by simpa [Ae,D3] using q1
    have J:=q4 0 j_;rw[rz]at J;simp only[tD,uO,Value.cells]at J;rw[Addr.add_lit];exact e4 j _ (kS J))
   rw[<-hn]at this;simp[execOp,h,g,this]
theorem Me{P:Program}(Γ:Ty P){o:Oper}{s:SS}{src dst:TypeId}{p r t:TI}{x:Operand}{et:TypeId}{eb d:Nat}{ez:List Value}{b:ByteArray}(h:o.op=.convert src dst x)(hs:Γ.get dst=some r)(xa:r.k=.slice et 1 eb ez)(he:Γ.get et=some t)(w7:t.k=.int .u8)(hd:Γ.get src=some p)(zu:p.k=.string)(hx:ev s x=.val (.string b))(yg:s.h d=.fresh):Good P o s ⟨.osl d,[],[(d,.row 1 Ae b.data.toList)]⟩ :=
 dS yg λm a w hi hr _ hn=>by
  have I:=hr x (by simp[h,Op.operands]);rw[hx]at I;obtain ⟨hu,_⟩:=Di Γ hs xa;have xb:=Aew Γ he w7;have p6:=Am1 Γ hd zu;have J:=run_bytes_of_string (P:=P) w src dst et b p6 hu xb;have ep:=grownCap_ge w b.size 0 et;have R:(bytesRow b (grownCap w b.size 0 et)).size=grownCap w b.size 0 et:=by
   simp only[bytesRow,Array.size_append,Array.size_map,Array.size_replicate];have:b.data.size=b.size:=rfl;omega
  generalize dx:bytesRow b (grownCap w b.size 0 et)=row at J R;refine⟨.slice (some ⟨w.heap.size,0,none⟩) b.size (grownCap w b.size 0 et),w.drew.alloc (.cells row et (row.size,row.size+1)),.row w.heap.size b.size (grownCap w b.size 0 et),?_,(Kb.drew w).trans (Kb.alloc _ _),?_,?_⟩
  .simp[execOp,h,I.val,J]
  .intro c l;simp only[Ent.block?,Option.some.injEq]at l;subst l;simp
  .intro st;have g:b.data.toList.length=b.size:=by rfl
   refine⟨by simp[Rd,Az],.inr ⟨w.heap.size,grownCap w b.size 0 et,row.toList,et,(row.size,row.size+1),by rw[g];exact Az _ _ _,?_,?_,?_,by rw[g];exact ep,?_⟩⟩
   .have:=heap_alloc_new w.drew (.cells row et (row.size,row.size+1));simpa using this
   .exact .inr qx
   .simp[R]
   .rintro i y ⟨hi',rfl⟩;refine⟨hi',.int .u8 b.data.toList[i].toNat,by simp[Ae,D3],q_,λc l=>by simp[Value.cells]at l;subst l;rfl,λj hj=>?_⟩;have ai:j=0:=by omega
    subst ai;have jg:i<b.data.size:=kS hi';rw[<-dx];simp only[bytesRow,Value.cells,tD,uO,Array.toList_append,Array.toList_map];rw[xM (kS jg),wX,zT hi'];rfl
inductive EK|int (k:IntKind)|bool|string
def EK.desc:EK->TypeDesc| .int k=>.int k| .bool=>.bool| .string=>.string
def A1e(P:Program):Nat->List Field->List EK->Prop
 |_,[],[]=>True
 |i, f::g, k::j=> f.name ≠ "_" /\ f.offset = i /\ P.underlying f.type = some k.desc /\ A1e P (i + 1) g j
 |_,_,_=>False
structure EqOK(P:Program)(t:TypeId)(ks:List EK):Prop where
 under:P.underlying t=some (.struct (P.fieldsOf t))
 stood:P.stoodInHeld t=false
 guard:P.eqGuardType P.depth t=false
 fields:A1e P 0 (P.fieldsOf t).toList ks
def eq1(k:EK)(x y:SV):Option Bool :=
 match k,x,y with
 | .int _,.val (.int k1 a),.val (.int k2 b)=>if k1=k2 then some (a==b) else none
 | .bool,.val (.bool a),.val (.bool b)=>some (a==b)
 | .string,.val (.string a),.val (.string b)=>some (a==b)
 |_,_,_=>none
theorem Bfr{P:Program}{κ:Ka}{w:World}(d:Nat){t:TypeId}{k:EK}(g:P.underlying t=some k.desc){x y:SV}{u v:Value}{b:Bool}(h:eq1 k x y=some b)(i:Rd κ w x u)(j:Rd κ w y v):(Op.equalIn (d+1) t u v).run P w=.ok b w:=by
 unfold eq1 at h;split at h
 .split at h
  .rename_i l;subst l;simp only[Option.some.injEq]at h;rw[i.val,j.val,<-h];exact run_equalIn_int w d t _ _ _ _ g
  .cases h
 .simp only[Option.some.injEq]at h;rw[i.val,j.val,<-h];exact run_equalIn_bool' w d t _ _ g
 .simp only[Option.some.injEq]at h;rw[i.val,j.val,<-h,beq_toListBytes];exact run_equalIn_string w d t _ _ g
 .cases h
def eqS:List EK->List SV->List SV->Option Bool
 |[],[],[]=>some true
 |k::g,x::l,y::m=>match eq1 k x y,eqS g l m with
  |some a,some b=>some (a&&b)
  |_,_=>none
 |_,_,_=>none
theorem Abu{P:Program}(w:World){t:TypeId}{k:EK}(h:P.underlying t=some k.desc)(cs:Array Value){i:Nat}{v:Value}(g:cs[i]? = some v):(part t cs i).run P w=.ok v w:=by
 cases k<;>simp only[EK.desc]at h<;>simp[part,isAgg,run_underlying h,g]
theorem Bco{P:Program}{κ:Ka}{w:World}{xs ys:Array Value}(d:Nat):∀(j:List EK) (o:List Field) (i:Nat) (l m:List SV) (r:Bool),A1e P i o j->B8 κ w l (xs.toList.drop i)->B8 κ w m (ys.toList.drop i)->eqS j l m=some r ->
  (Op.eqFields (d+1) xs ys o).run P w=.ok r w
 |[],[],i,l,m,r,_,_,_,g=>by
  cases l<;>cases m<;>simp[eqS]at g
  subst g;simp[Op.eqFields]
 |[],_::_,i,l,m,r,h,_,_,_=>by simp[A1e]at h
 |_::_,[],i,l,m,r,h,_,_,_=>by simp[A1e]at h
 |k::j,f::o,i,[],m,r,h,t,hm,g=>by simp[eqS]at g
 |k::j,f::o,i,x::l,[],r,h,t,hm,g=>by simp[eqS]at g
 |k::j,f::o,i,x::l,y::m,r,h,t,hm,g=>by
  simp only[A1e]at h;obtain ⟨h1,h2,J,h4⟩:=h;simp only[B8]at t hm;obtain ⟨v,q,e1,e2,e3⟩:=t;obtain ⟨u,p,f1,f2,f3⟩:=hm;have g1:xs[i]? = some v:=by
   have:=zH (λl=>l[0]?) e1;simpa using this
  have g2:ys[i]? = some u:=by
   have:=zH (λl=>l[0]?) f1;simpa using this
  have e4:xs.toList.drop (i+1)=q:=by
   have:=zH (List.drop 1) e1;simpa [tP] using this
  have f4:ys.toList.drop (i+1)=p:=by
   have:=zH (List.drop 1) f1;simpa [tP] using this
  have p1:=Abu (P:=P) w J xs g1;have p2:=Abu (P:=P) w J ys g2;simp only[eqS]at g;cases I:eq1 k x y with
  |none=>rw[I]at g;cases g
  |some b=>
   cases R:eqS j l m with
   |none=>rw[I,R]at g;cases g
   |some r'=>
    rw[I,R]at g;simp only[Option.some.injEq]at g;have an:=Bfr (P:=P) (κ:=κ) (w:=w) d J I e2 f2;have ih:=Bco d j o (i+1) l m r' h4 (by rw[e4];exact e3) (by rw[f4];exact f3) R;simp only[Op.eqFields,zE h1,Sem.run_bind,h2,p1,p2,Result.andThen_ok,an];subst g;cases b
    .simp
    .simp[ih]
theorem Agb{P:Program}{o:Oper}{s:SS}{op:BinOp}{t J:TypeId}{x y:Operand}{l m:List SV}{i:List EK}{r:Bool}(h:o.op=.binOp op t x y J)(hop:op=.eql\/op=.neq)(g:EqOK P t i)(R:ev s x=.agg l)(hy:ev s y=.agg m)(hr:eqS i l m=some r):Good P o s ⟨.val (.bool (if op=.eql then r else !r)),[],[]⟩ :=
 Good.pure λk a w _ I _=>by
  have j:=I x (by simp[h,Op.operands]);have p:=I y (by simp[h,Op.operands]);rw[R]at j;rw[hy]at p;simp only[Rd]at j p;obtain ⟨cs,e1,_,e3⟩:=j;obtain ⟨ds,f1,_,f3⟩:=p;have an:(Op.equal t (.agg cs.toArray) (.agg ds.toArray)).run P w=.ok r w:=by
   show (Op.equalIn (9999+1) t (.agg cs.toArray) (.agg ds.toArray)).run P w=.ok r w;rw[run_equalIn_struct w 9999 t _ _ g.under g.stood];exact Bco (κ:=k) 9998 i _ 0 l m r g.fields (kS e3) (kS f3) hr
  have hg:(eqGuard op t x y (.agg cs.toArray) (.agg ds.toArray)).run P w=.ok () w:=by
   rcases hop with rfl|rfl<;>simp[eqGuard,g.guard]
  refine⟨.bool (if op=.eql then r else !r),?_,by simp[Rd]⟩;rcases hop with rfl|rfl<;>simp[execOp,h,e1,f1,hg,binOp,an]
theorem Acy{P:Program}(Γ:Ty P){o:Oper}{s:SS}{op:BinOp}{t r:TypeId}{g:TI}{x y:Operand}{p q:Bool}(h:o.op=.binOp op t x y r)(hop:op=.eql\/op=.neq)(I:Γ.get t=some g)(J:g.k=.bool)(R:ev s x=.val (.bool p))(hy:ev s y=.val (.bool q)):Good P o s ⟨.val (.bool (if op=.eql then p==q else p != q)),[],[]⟩ :=
 Good.pure λb a w _ i _=>by
  have j:=i x (by simp[h,Op.operands]);have l:=i y (by simp[h,Op.operands]);rw[R]at j;rw[hy]at l;obtain ⟨d,info,z,k1,k2,_⟩:=Γ.ok t g I;rw[J]at k2;simp only[TK.ok]at k2;subst k2;have an:=run_equal_bool (P:=P) w t p q k1;refine⟨.bool (if op=.eql then p==q else p != q),?_,by simp[Rd]⟩;rcases hop with rfl|rfl<;>simp[execOp,h,j.val,l.val,eqGuard_at_bool,binOp,an,bne]
theorem lE{P:Program}(w:World)(d:Nat){t e:TypeId}(h:P.underlying t=some (.pointer e))(p:Option Addr):(Op.equalIn (d+1) t (.pointer p) (.pointer none)).run P w=.ok p.isNone w:=by
 cases p<;>simp[Op.equalIn,run_underlying h]
theorem Aga{P:Program}(Γ:Ty P){o:Oper}{s:SS}{op:BinOp}{t yt:TypeId}{j:TI}{x y:Operand}(h:o.op=.binOp op t x y yt)(hop:op=.eql\/op=.neq)(ht:Γ.get t=some j)(hk:j.k=.ptr)(hy:ev s y=.val (.pointer none)){b:Bool}{rd:List Nat}(g:(∃k off l,ev s x=.ptr k off/\s.h k=.box l/\rd=[k]/\b=false)\/(ev s x=.val (.pointer none)/\rd=[]/\b=true)):Good P o s ⟨.val (.bool (if op=.eql then b else !b)),rd,[]⟩ :=
 Good.pure λm a w _ I ho=>by
  have i:=I x (by simp[h,Op.operands]);have J:=I y (by simp[h,Op.operands]);rw[hy]at J;obtain ⟨d,info,z,k1,k2,_⟩:=Γ.ok t j ht;rw[hk]at k2;simp only[TK.ok]at k2;obtain ⟨e,rfl⟩:=k2;have key:∃p:Option Addr,a.eval x=.pointer p/\p.isNone=b:=by
   rcases g with ⟨k,off,l,g,hl,rfl,rfl⟩|⟨g,rfl,rfl⟩
   .have R:=ho k qx;rw[hl]at R;obtain ⟨bb,cs,T,fr,r,_⟩:=R;rw[g]at i;simp only[Rd,r]at i;exact⟨_,i,q_⟩
   .rw[g]at i;exact⟨none,i.val,q_⟩
  obtain ⟨p,r,e2⟩:=key;have an:(Op.equal t (.pointer p) (.pointer none)).run P w=.ok b w:=by
   show (Op.equalIn (9999+1) t (.pointer p) (.pointer none)).run P w=.ok b w;rw[lE w 9999 k1,e2]
  refine⟨.bool (if op=.eql then b else !b),?_,by simp[Rd]⟩;rcases hop with rfl|rfl<;>simp[execOp,h,r,J.val,eqGuard_at_pointer,binOp,an]
def fv(x:SV)(K:SV->Prop):Prop :=
 match x with
 | .val v=>(match v with
  | .int k n=>K (.val (.int k n))
  | .bool b=>K (.val (.bool b))
  | .string b=>K (.val (.string b))
  | v=>K (.val v))
 | .agg l=>K (.agg l)
 | .tup l=>K (.tup l)
 | .sl sz e l=>K (.sl sz e l)
 | .ref sz x o=>K (.ref sz x o)
 | .ptr k o=>K (.ptr k o)
 | .rpt k sz i o=>K (.rpt k sz i o)
 | .osl k=>K (.osl k)
 | .ifc t x=>K (.ifc t x)
 | .clo f g l=>K (.clo f g l)
 | .top=>K .top
theorem Ae0(x:SV)(K:SV->Prop):fv x K↔K x:=by
 unfold fv;split<;>first|rfl|(split<;>rfl)
def fl(l:List SV)(K:List SV->Prop):Prop :=
 match l with
 |[]=>K []
 |x::r=>fv x λg=>fl r λi=>K (g::i)
theorem Ya:∀(l:List SV) (K:List SV->Prop),fl l K↔K l
 |[],K=>Iff.rfl
 |x::r,K=>by unfold fl;rw[Ae0,Ya r]
def fa(x:SV)(K:SV->Prop):Prop :=
 match x with
 | .agg l=>fl l λl=>K (.agg l)
 | .tup l=>fl l λl=>K (.tup l)
 |x=>fv x K
theorem Bcl(x:SV)(K:SV->Prop):fa x K↔K x:=by
 unfold fa;split
 .exact Ya _ _
 .exact Ya _ _
 .exact Ae0 _ _
def S2(x:Int):Prop:=-9223372036854775808<=x/\x<=9223372036854775807
theorem S2.wrap{x:Int}(h:S2 x):IntKind.i64.wrap x=x:=by
 obtain ⟨g,i⟩:=h;rw[IntKind.wrap_i64];omega
def Bby(op:BinOp)(k:IntKind)(a b:Int)(K:SV->Prop)(stop:Prop):Prop :=
 match op with
 | .add=>(match k with| .i64=>S2 (a+b)/\K (.val (.int .i64 (a+b)))|k=>K (.val (.int k (k.wrap (a+b)))))
 | .sub=>(match k with| .i64=>S2 (a-b)/\K (.val (.int .i64 (a-b)))|k=>K (.val (.int k (k.wrap (a-b)))))
 | .mul=>(match k with| .i64=>S2 (a*b)/\K (.val (.int .i64 (a*b)))|k=>K (.val (.int k (k.wrap (a*b)))))
 | .quo=>b≠0/\K (.val (.int k (k.wrap (a.tdiv b))))
 | .rem=>b≠0/\K (.val (.int k (a.tmod b)))
 | .and=>K (.val (.int k (bits .and k a b)))
 | .or=>K (.val (.int k (bits .or k a b)))
 | .xor=>K (.val (.int k (bits .xor k a b)))
 | .andNot=>K (.val (.int k (bits .andNot k a b)))
 | .lss=>K (.val (.bool (decide (a<b))))
 | .leq=>K (.val (.bool (decide (a<=b))))
 | .gtr=>K (.val (.bool (decide (a>b))))
 | .geq=>K (.val (.bool (decide (a>=b))))
 | .eql=>K (.val (.bool (a==b)))
 | .neq=>K (.val (.bool (a != b)))
 |_=>stop
def Apw(op:BinOp)(k:IntKind)(a b:Int)(K:SV->Prop)(stop:Prop):Prop :=
 match op with
 | .shl=>0<=b/\K (.val (.int k (k.wrap (a*2^(min b.toNat k.bits)))))
 | .shr=>0<=b/\K (.val (.int k (a.fdiv (2^(min b.toNat k.bits)))))
 |_=>stop
def Bfb:BinOp->Bool| .shl=>true| .shr=>true|_=>false
def A9j(op:BinOp)(a b:ByteArray)(K:SV->Prop)(stop:Prop):Prop :=
 match op with
 | .add=>a.size+b.size<=9223372036854775807/\K (.val (.string (a++b)))
 | .eql=>K (.val (.bool (a==b)))
 | .neq=>K (.val (.bool (!(a==b))))
 | .lss=>K (.val (.bool (Op.bytesLess a.toList b.toList)))
 | .gtr=>K (.val (.bool (!(Op.bytesLess a.toList b.toList||a==b))))
 |_=>stop
structure TyE(P:Program) extends Ty P where
 eqs:TypeId->Option (List EK)
 cq:∀t ks,eqs t=some ks->EqOK P t ks
def bnd(s:SS)(x:Option Operand)(d:Int)(K:Int->Prop)(stop:Prop):Prop :=
 match x with
 |none=>K d
 | some y=>(match ev s y with
  | .val (.int _ n)=>K n
  | _=>stop)
def Cb(b:ByteArray)(i:Nat):UInt8:=b.data.toList.getD i 0
def opW{P:Program}(Γ:TyE P)(o:Oper)(s:SS)(K:Up->Prop)(stop:Prop):Prop :=
 match o.op with
 | .move x=>fv (ev s x) λv=>K ⟨v,[],[]⟩
 | .assign x=>fv (ev s x) λv=>K ⟨v,[],[]⟩
 | .pick c a b=>(match ev s c with
  | .val (.bool c)=>(match c with
   |true=>fv (ev s a) λv=>K ⟨v,[],[]⟩
   | false=>fv (ev s b) λ v=>K ⟨v,[],[]⟩)
  | _=>stop)
 | .alloc t=>(match o.dst with
  | some d=>(match s.h d with
   | .fresh=>(match Γ.get t with
    | some i=>(match Afx i.zero with
     |true=>fl (i.zero.map .val) λl=>K ⟨.ptr d 0,[],[(d,.box l)]⟩
     | false=>stop)
    | none=>stop)
   | _=>stop)
  | none=>stop)
 | .box _ x=>(match o.dst with
  | some d=>(match s.h d with
   | .fresh=>(match (ev s x).boxed with
    |true=>fl (cellsOf (ev s x)) λl=>K ⟨.ptr d 0,[],[(d,.box l)]⟩
    | false=>stop)
   | _=>stop)
  | none=>stop)
 | .load t x=>(match Γ.get t with
  | some i=>(match ev s x with
   | .ptr k off=>(match s.h k with
    | .box l=>(match Ur i l off with
     |some y=>fa y λy=>K ⟨y,[k],[]⟩
     | none=>stop)
    | _=>stop)
   | .ref _ z off=>(match z.boxed with
    | true=>(match Ur i (cellsOf z) off with
     |some y=>fa y λy=>K ⟨y,[],[]⟩
     | none=>stop)
    | false=>stop)
   | .rpt k sz n off=>(match s.h k with
    | .row j e l=>j=sz/\∃ h:n<l.length,(match (e l[n]).boxed with
     | true=>(match Ur i (cellsOf (e l[n])) off with
      |some y=>fa y λy=>K ⟨y,[k],[]⟩
      | none=>False)
     | false=>False)
    | .lit j I=>j=sz/\(match Lr I n with
     | some z=>(match z.boxed with
      | true=>(match Ur i (cellsOf z) off with
       |some y=>fa y λy=>K ⟨y,[k],[]⟩
       | none=>False)
      | false=>False)
     | none=>False)
    | _=>stop)
   | _=>stop)
  | none=>stop)
 | .store t x y=>(match Γ.get t with
  | some i=>(match ev s x with
   | .ptr k off=>(match s.h k with
    | .box l=>(match (ev s y).boxed && Nat.beq (cellsOf (ev s y)).length i.size && Nat.ble (off+i.size) l.length with
     |true=>fl (setAt l off (cellsOf (ev s y))) λl=>K ⟨.val undef,[],[(k,.box l)]⟩
     | false=>stop)
    | _=>stop)
   | .rpt k sz n off=>(match s.h k with
    | .row (α:=u) j e l=>j=sz/\∃(h:n<l.length) (z:u),cellsOf (e z)=setAt (cellsOf (e l[n])) off (cellsOf (ev s y)) /\
      (((ev s y).boxed&&Nat.beq (cellsOf (ev s y)).length i.size&&Nat.ble (off+i.size) sz&&(e l[n]).boxed&&(e z).boxed&&(e z).data)=true)/\K ⟨.val undef,[],[(k,.row j e (l.set n z))]⟩
    | _=>stop)
   | _=>stop)
  | none=>stop)
 | .fieldAddr t x f=>(match Γ.get t with
  | some i=>(match i.k with
   | .struct fs=>(match fs[f]? with
    | some (J,fn)=>(match fn with
     |0=>stop
     | _+1=>(match ev s x with
      | .ptr k off=>(match s.h k with
       | .box _=>K ⟨.ptr k (off+J),[k],[]⟩
       | _=>stop)
      | .ref sz z off=>K ⟨.ref sz z (off+J),[],[]⟩
      | .rpt k sz n off=>(match s.h k with
       | .row (α:=u) j e l=>l≠[]/\K ⟨.rpt k sz n (off+J),[k],[]⟩
       | .lit _ _=>K ⟨.rpt k sz n (off+J),[k],[]⟩
       | _=>stop)
      | _=>stop))
    | none=>stop)
   | _=>stop)
  | none=>stop)
 | .nilCheck x=>(match ev s x with
  | .ptr k off=>(match s.h k with
   | .box _=>K ⟨.ptr k off,[k],[]⟩
   | _=>stop)
  | .ref sz z off=>K ⟨.ref sz z off,[],[]⟩
  | .clo fn first cap=>(match fn with
   | .func f=>K ⟨.clo (.func f) first cap,[],[]⟩
   | _=>stop)
  | _=>stop)
 | .indexAddr t x y=>(match Γ.get t with
  | some i=>(match i.k with
   | .slice _ g _ _=>(match ev s y with
    | .val (.int _ n)=>(match ev s x with
     | .sl sz e l=>g=sz/\∃(_:0<=n) (h:n.toNat<l.length),K ⟨.ref sz (e l[n.toNat]) 0,[],[]⟩
     | .osl k=>(match (s.h k).len with
      |some len=>0<=n/\n.toNat<len/\K ⟨.rpt k g n.toNat 0,[k],[]⟩
      | none=>stop)
     | _=>stop)
    | _=>stop)
   | .array _ len g=>(match ev s y with
    | .val (.int _ n)=>(match ev s x with
     | .ptr k off=>(match s.h k with
      | .box _=>0<=n/\n.toNat<len/\K ⟨.ptr k (off+n.toNat*g),[k],[]⟩
      | _=>stop)
     | .ref sz z off=>0<=n/\n.toNat<len/\K ⟨.ref sz z (off+n.toNat*g),[],[]⟩
     | _=>stop)
    | _=>stop)
   | _=>stop)
  | none=>stop)
 | .binOp op t x y _=>(match ev s x,ev s y with
  | .val (.int k a),.val (.int R b)=>(match Bfb op with
   |true=>Apw op k a b (λv=>K ⟨v,[],[]⟩) stop
   | false=>if k=R then Bby op k a b (λ v=>K ⟨v,[],[]⟩) stop else stop)
  | .val (.string a),.val (.string b)=>A9j op a b (λv=>K ⟨v,[],[]⟩) stop
  | .val (.bool p),.val (.bool q)=>(match Γ.get t with
   | some i=>(match i.k with
    | .bool=>(match op with
     | .eql=>K ⟨.val (.bool (p==q)),[],[]⟩
     | .neq=>K ⟨.val (.bool (p != q)),[],[]⟩
     | _=>stop)
    | _=>stop)
   | none=>stop)
  | .agg l,.agg m=>(match Γ.eqs t with
   | some ks=>(match eqS ks l m with
    | some r=>(match op with
     | .eql=>K ⟨.val (.bool r),[],[]⟩
     | .neq=>K ⟨.val (.bool (!r)),[],[]⟩
     | _=>stop)
    | none=>stop)
   | none=>stop)
  | .ptr k _,.val (.pointer none)=>(match s.h k with
   | .box _=>(match Γ.get t with
    | some i=>(match i.k with
     | .ptr=>(match op with
      | .eql=>K ⟨.val (.bool false),[k],[]⟩
      | .neq=>K ⟨.val (.bool true),[k],[]⟩
      | _=>stop)
     | _=>stop)
    | none=>stop)
   | _=>stop)
  | _,_=>stop)
 | .unOp op _ x=>(match op,ev s x with
  | .not,.val (.bool b)=>K ⟨.val (.bool (!b)),[],[]⟩
  | .neg,.val (.int k n)=>K ⟨.val (.int k (k.wrap (0-n))),[],[]⟩
  | _,_=>stop)
 | .extract x i=>(match ev s x with
  | .tup l=>(match Lr l i with
   |some y=>fa y λy=>K ⟨y,[],[]⟩
   | none=>stop)
  | _=>stop)
 | .convert src dst x=>(match Γ.get src,Γ.get dst with
  | some si,some di=>(match di.k,ev s x with
   | .int R,.val (.int _ n)=>K ⟨.val (.int R (R.wrap n)),[],[]⟩
   | .string,.val (.string b)=>(match si.k with
    | .string=>K ⟨.val (.string b),[],[]⟩
    | _=>stop)
   | _,_=>stop)
  | _,_=>stop)
 | .makeInterface t x=>(match Γ.get t with
  | some i=>(match i.k with
   | .iface=>stop
   | .other=>stop
   | .array _ _ _=>stop
   | _=>fv (ev s x) λ v=>K ⟨.ifc t v,[],[]⟩)
  | none=>stop)
 | .build t ps=>(match Γ.get t with
  | some i=>(match i.k with
   | .struct fs=>(match Afx i.zero with
    | true=>(match Akb fs (i.zero.map .val) (ps.toList.map λ p=>(p.1,ev s p.2)) with
     |some out=>fl out λout=>K ⟨.agg out,[],[]⟩
     | none=>stop)
    | false=>stop)
   | _=>stop)
  | none=>stop)
 | .buildSlice t len ps=>(match o.dst with
  | some d=>(match s.h d with
   | .fresh=>(match Γ.get t with
    | some i=>(match i.k with
     | .slice _ sz _ _=>(match Vz 0 ps.toList with
      | some xs=>(match Nat.beq xs.length len && Nat.ble (len * sz) 16777216 && Ann sz (xs.map (ev s)) with
       |true=>fl (xs.map (ev s)) λI=>K ⟨.osl d,[],[(d,.lit sz I)]⟩
       | false=>stop)
      | none=>stop)
     | _=>stop)
    | none=>stop)
   | _=>stop)
  | none=>stop)
 | .index t x y=>(match Γ.get t with
  | some i=>(match i.k with
   | .string=>(match ev s x with
    | .val (.string b)=>(match ev s y with
     | .val (.int _ n)=>0<=n/\n.toNat<b.size/\K ⟨.val (.int .u8 (Cb b n.toNat).toNat),[],[]⟩
     | _=>stop)
    | _=>stop)
   | _=>stop)
  | none=>stop)
 | .slice t x lo hi mx=>(match mx with
  | none=>(match Γ.get t with
   | some i=>(match i.k with
    | .string=>(match ev s x with
     | .val (.string b)=>bnd s lo 0 (λl=>bnd s hi b.size (λh=>(0<=l/\l<=h/\h<=b.size)/\K ⟨.val (.string (b.extract l.toNat h.toNat)),[],[]⟩) stop) stop
     | _=>stop)
    | _=>stop)
   | none=>stop)
  | some _=>stop)
 | .makeFunc fn first cap=>fl (first.toList.map (ev s)) λf=>fl (cap.toList.map (ev s)) λl=>K ⟨.clo fn f l,[],[]⟩
 | .call c=>(match c.callee with
  | .builtin .len=>(match c.args.toList,c.argTypes.toList with
   | [x],t::_=>(match Γ.get t with
    | some i=>(match i.k with
     | .slice _ _ _ _=>(match ev s x with
      | .sl _ _ l=>K ⟨.val (.int .i64 l.length),[],[]⟩
      | .osl k=>(match (s.h k).len with
       |some n=>K ⟨.val (.int .i64 n),[k],[]⟩
       | none=>stop)
      | .val (.slice _ n _)=>K ⟨.val (.int .i64 n),[],[]⟩
      | _=>stop)
     | .string=>(match ev s x with
      | .val (.string b)=>K ⟨.val (.int .i64 b.size),[],[]⟩
      | _=>stop)
     | _=>stop)
    | none=>stop)
   | _,_=>stop)
  | _=>stop)
 |_=>stop
theorem Bbx{P:Program}{o:Oper}{s:SS}{op:BinOp}{t i:TypeId}{x y:Operand}{k:IntKind}{m n:Int}{K:Up->Prop}{stop:Prop}(h:o.op=.binOp op t x y i)(j:ev s x=.val (.int k m))(l:ev s y=.val (.int k n))(g:Bby op k m n (λv=>K ⟨v,[],[]⟩) stop):(∃U,Good P o s U/\K U)\/stop:=by
 have mk:∀u:Value,(∀w,(binOp op t (.int k m) (.int k n)).run P w=.ok u w)->K ⟨.val u,[],[]⟩->(∃U,Good P o s U/\K U)\/stop:=λu p r=>.inl ⟨_,Bcg h j l p,r⟩
 unfold Bby at g;split at g
 .split at g
  .exact mk _ (λw=>by simp[binOp_add,Op.intArith,g.1.wrap]) g.2
  .exact mk _ (λw=>by simp[binOp_add,Op.intArith]) g
 .split at g
  .exact mk _ (λw=>by simp[binOp_sub,Op.intArith,g.1.wrap]) g.2
  .exact mk _ (λw=>by simp[binOp_sub,Op.intArith]) g
 .split at g
  .exact mk _ (λw=>by simp[binOp_mul,Op.intArith,g.1.wrap]) g.2
  .exact mk _ (λw=>by simp[binOp_mul,Op.intArith]) g
 .exact mk _ (λw=>by simp[binOp_quo,Op.intDiv,g.1]) g.2
 .exact mk _ (λw=>by simp[binOp_rem,Op.intDiv,g.1]) g.2
 .exact mk _ (λw=>by simp[binOp_and,intBits_and]) g
 .exact mk _ (λw=>by simp[binOp_or,intBits_or]) g
 .exact mk _ (λw=>by simp[binOp_xor,intBits_xor]) g
 .exact mk _ (λw=>by simp[binOp_andNot,intBits_andNot]) g
 .exact mk _ (λw=>by simp[binOp_lss]) g
 .exact mk _ (λw=>by simp[binOp_leq]) g
 .exact mk _ (λw=>by simp[binOp_gtr]) g
 .exact mk _ (λw=>by simp[binOp_geq]) g
 .exact mk _ (λw=>by simp[binOp_eql]) g
 .exact mk _ (λw=>by simp[binOp_neq]) g
 .exact .inr g
theorem Aj1{P:Program}{o:Oper}{s:SS}{op:BinOp}{t p:TypeId}{x y:Operand}{k g:IntKind}{m n:Int}{u:Value}(h:o.op=.binOp op t x y p)(r:ev s x=.val (.int k m))(I:ev s y=.val (.int g n))(J:∀w,(binOp op t (.int k m) (.int g n)).run P w=.ok u w):Good P o s ⟨.val u,[],[]⟩ :=
 Good.pure λb a w _ i _=>by
  have j:=i x (by simp[h,Op.operands]);have l:=i y (by simp[h,Op.operands]);rw[r]at j;rw[I]at l;refine⟨u,?_,by simp[Rd]⟩;simp[execOp,h,j.val,l.val,eqGuard_at_int,J]
theorem Ayz{P:Program}{o:Oper}{s:SS}{op:BinOp}{t p:TypeId}{x y:Operand}{k r:IntKind}{m n:Int}{K:Up->Prop}{stop:Prop}(h:o.op=.binOp op t x y p)(j:ev s x=.val (.int k m))(l:ev s y=.val (.int r n))(g:Apw op k m n (λv=>K ⟨v,[],[]⟩) stop):(∃U,Good P o s U/\K U)\/stop:=by
 unfold Apw at g;split at g
 .have i:¬n<0:=by omega
  exact .inl ⟨_,Aj1 (u:=.int k (k.wrap (m*2^(min n.toNat k.bits)))) h j l (λw=>by simp[binOp_shl,Op.shift,i]),g.2⟩
 .have i:¬n<0:=by omega
  exact .inl ⟨_,Aj1 (u:=.int k (m.fdiv (2^(min n.toNat k.bits)))) h j l (λw=>by simp[binOp_shr,Op.shift,i]),g.2⟩
 .exact .inr g
theorem A9i{P:Program}{o:Oper}{s:SS}{op:BinOp}{t l:TypeId}{x y:Operand}{m n:ByteArray}{K:Up->Prop}{stop:Prop}(h:o.op=.binOp op t x y l)(i:ev s x=.val (.string m))(j:ev s y=.val (.string n))(g:A9j op m n (λv=>K ⟨v,[],[]⟩) stop):(∃U,Good P o s U/\K U)\/stop:=by
 unfold A9j at g;split at g
 .have p:¬(9223372036854775807<((m.size+n.size:Nat):Int)):=by omega
  refine .inl ⟨_,Ub (u:=.string (m++n)) h qx i j (λw=>?_),g.2⟩;simp only[Op.stringOp,IntKind.max_i64];rw[zD p];rfl
 .exact .inl ⟨_,Ub (u:=.bool (m==n)) h qx i j (λw=>by simp[Op.stringOp,beq_toListBytes]),g⟩
 .exact .inl ⟨_,Ub (u:=.bool (!(m==n))) h qx i j (λw=>by simp[Op.stringOp,beq_toListBytes]),g⟩
 .exact .inl ⟨_,Ub (u:=.bool (Op.bytesLess m.toList n.toList)) h qx i j (λw=>by simp[Op.stringOp]),g⟩
 .exact .inl ⟨_,Ub (u:=.bool (!(Op.bytesLess m.toList n.toList||m==n))) h qx i j (λw=>by simp[Op.stringOp,beq_toListBytes]),g⟩
 .exact .inr g
theorem eP{P:Program}(Γ:Ty P){t:TypeId}{j:TI}{e:TypeId}{len g:Nat}(l:Γ.get t=some j)(o:j.k=.array e len g):P.underlying t=some (.array len e)/\∃i,P.info? e=some i/\i.size=g:=by
 obtain ⟨d,info,z,k1,k2,k3,k4,k5,k6⟩:=Γ.ok t j l;rw[o]at k2;simp only[TK.ok]at k2;obtain ⟨rfl,k2⟩:=k2;exact⟨k1,k2⟩
theorem Zl{P:Program}{t et:TypeId}{len g:Nat}{i:TypeInfo}{j:IntKind}{n:Int}{b o:Nat}(w:World)(l:P.underlying t=some (.array len et))(p:P.info? et=some i)(hi:i.size=g)(r:0<=n)(J:n.toNat<len):(Instr.indexAt t (.pointer (some ⟨b,o,none⟩)) (.int j n)).run P w=.ok (.pointer (some ⟨b,o+n.toNat*g,none⟩)) w:=by
 have I:n<len:=by omega
 simp[Instr.indexAt,asIntOf,run_underlying l,Instr.sureAddr,r,I,sizeOf,typeInfo,p,hi,Addr.add_lit]
theorem Of{P:Program}(Γ:Ty P){o:Oper}{s:SS}{t:TypeId}{p:TI}{et:TypeId}{len g k off:Nat}{x y:Operand}{ik:IntKind}{n:Int}{l:List SV}(h:o.op=.indexAddr t x y)(ht:Γ.get t=some p)(hk:p.k=.array et len g)(hx:ev s x=.ptr k off)(hb:s.h k=.box l)(hy:ev s y=.val (.int ik n))(h0:0<=n)(hn:n.toNat<len):Good P o s ⟨.ptr k (off+n.toNat*g),[k],[]⟩ :=
 Good.pure λm a w _ r ho=>by
  have j:=r x (by simp[h,Op.operands]);have I:=r y (by simp[h,Op.operands]);have J:=ho k qx;rw[hb]at J;obtain ⟨b,cs,T,fr,R,_⟩:=J;rw[hx]at j;rw[hy]at I;simp only[Rd,R]at j;obtain ⟨hu,i,q1,q2⟩:=eP Γ ht hk;refine⟨.pointer (some ⟨b,off+n.toNat*g,none⟩),?_,by simp only[Rd,R]⟩;simp only[execOp,h,j,I.val];simp[Zl w hu q1 q2 h0 hn]
theorem Oe{P:Program}(Γ:Ty P){o:Oper}{s:SS}{t:TypeId}{l:TI}{et:TypeId}{len g sz off:Nat}{x y:Operand}{J:IntKind}{n:Int}{z:SV}(h:o.op=.indexAddr t x y)(R:Γ.get t=some l)(hk:l.k=.array et len g)(hx:ev s x=.ref sz z off)(hy:ev s y=.val (.int J n))(h0:0<=n)(hn:n.toNat<len):Good P o s ⟨.ref sz z (off+n.toNat*g),[],[]⟩ :=
 Good.pure λm a w _ p _=>by
  have j:=p x (by simp[h,Op.operands]);have r:=p y (by simp[h,Op.operands]);rw[hx]at j;rw[hy]at r;simp only[Rd,D3]at j;obtain ⟨b,I,u,e1,e2,e3,e4,e5⟩:=j;obtain ⟨hu,i,q1,q2⟩:=eP Γ R hk;refine⟨.pointer (some ⟨b,I+off+n.toNat*g,none⟩),?_,?_⟩
  .simp only[execOp,h,e1,r.val];simp[Zl w hu q1 q2 h0 hn]
  .simp only[Rd,D3];exact⟨b,I,u,by rw[uD],e2,e3,e4,e5⟩
theorem Acx{P:Program}(Γ:Ty P){o:Oper}{s:SS}{t:TypeId}{g:TI}{x y:Operand}{r:IntKind}{n:Int}{b:ByteArray}(h:o.op=.index t x y)(I:Γ.get t=some g)(J:g.k=.string)(R:ev s x=.val (.string b))(hy:ev s y=.val (.int r n))(h0:0<=n)(i:n.toNat<b.size):Good P o s ⟨.val (.int .u8 (Cb b n.toNat).toNat),[],[]⟩ :=
 Good.pure λm a w _ j _=>by
  have l:=j x (by simp[h,Op.operands]);have p:=j y (by simp[h,Op.operands]);rw[R]at l;rw[hy]at p;obtain ⟨d,info,z,k1,k2,k3,k4,k5,k6⟩:=Γ.ok t g I;rw[J]at k2;simp only[TK.ok]at k2;subst k2;have hg:b[n.toNat]? = some (Cb b n.toNat):=by
   have m9:n.toNat<b.data.toList.length:=i;rw[getElem?_pos b n.toNat i];simp only[Cb,wL,zT m9,Option.getD_some,Option.some.injEq];rfl
  refine⟨.int .u8 (Cb b n.toNat).toNat,?_,by simp only[Rd]⟩;simp[execOp,h,l.val,p.val,Instr.index,run_underlying k1,asIntOf,h0,hg]
def Bdw(s:SS)(x:Option Operand)(d n:Int):Prop:=(x=none/\n=d)\/∃y k,x=some y/\ev s y=.val (.int k n)
theorem Bc9{s:SS}{x:Option Operand}{d:Int}{K:Int->Prop}{stop:Prop}(h:bnd s x d K stop):(∃n,Bdw s x d n/\K n)\/stop:=by
 unfold bnd at h;split at h
 .exact .inl ⟨d,.inl ⟨q_,q_⟩,h⟩
 .split at h
  .rename_i y _ k n g;exact .inl ⟨n,.inr ⟨y,k,q_,g⟩,h⟩
  .exact .inr h
theorem Bdw.is{s:SS}{x:Option Operand}{d n:Int}{m:Nat}(h:Bdw s x d n)(g:0<=n)(i:d.toNat=m):Oa s x m n.toNat:=by
 rcases h with ⟨rfl,rfl⟩|⟨y,k,rfl,j⟩
 .exact .inl ⟨q_,i⟩
 .exact .inr ⟨y,k,q_,by rw[j,yQ g]⟩
theorem Bar{P:Program}{Γ:TyE P}{o:Oper}{s:SS}{K:Up->Prop}{stop:Prop}(h:opW Γ o s K stop):(∃U,Good P o s U/\K U)\/stop:=by
 cases hop:o.op with
 |move x=>
  simp only[opW,hop,Ae0]at h;exact .inl ⟨_,An7 (.inl hop),h⟩
 |assign x=>
  simp only[opW,hop,Ae0]at h;exact .inl ⟨_,An7 (.inr hop),h⟩
 |pick c a b=>
  simp only[opW,hop,Ae0]at h;split at h
  .rename_i cc J;cases cc
   .exact .inl ⟨_,An6 hop J,h⟩
   .exact .inl ⟨_,An6 hop J,h⟩
  .exact .inr h
 |alloc t=>
  simp only[opW,hop,Ya]at h;split at h
  .rename_i d hd;split at h
   .rename_i hf;split at h
    .rename_i i hi;split at h
     .rename_i h1;exact .inl ⟨_,A0z Γ.toTy hop hf hi h1,h⟩
     .exact .inr h
    .exact .inr h
   .exact .inr h
  .exact .inr h
 |box t x=>
  simp only[opW,hop,Ya]at h;split at h
  .rename_i d hd;split at h
   .rename_i hf;split at h
    .rename_i h1;exact .inl ⟨_,Ac1 hop hf h1,h⟩
    .exact .inr h
   .exact .inr h
  .exact .inr h
 |load t x=>
  simp only[opW,hop,Bcl]at h;split at h
  .rename_i i hi;split at h
   .rename_i k off g;split at h
    .rename_i l j;split at h
     .rename_i y I;exact .inl ⟨_,Ame Γ.toTy hop g hi j I,h⟩
     .exact .inr h
    .exact .inr h
   .rename_i sz z off g;split at h
    .rename_i hz;split at h
     .rename_i y I;exact .inl ⟨_,Amd Γ.toTy hop g hi hz I,h⟩
     .exact .inr h
    .exact .inr h
   .rename_i k sz n off g;split at h
    .rename_i ef v e l j;obtain ⟨rfl,hn,h⟩:=h;split at h
     .rename_i hz;split at h
      .rename_i y I;have ag:l≠[]:=by intro he;subst he;simp at hn
       refine .inl ⟨_,nJ (n:=l.length) (f:=U9 e l) Γ.toTy hop g hi (λu w R=>?_) ⟨hn,q_⟩ hz I,h⟩;rw[j]at R;exact R.rowAt ag
      .exact h.elim
     .exact h.elim
    .rename_i ef a0 j;obtain ⟨rfl,h⟩:=h;split at h
     .rename_i z cj;split at h
      .rename_i hz;split at h
       .rename_i y I;refine .inl ⟨_,nJ (n:=a0.length) (f:=Al6 a0) Γ.toTy hop g hi (λu w R=>?_) cj hz I,h⟩;rw[j]at R;exact R
       .exact h.elim
      .exact h.elim
     .exact h.elim
    .exact .inr h
   .exact .inr h
  .exact .inr h
 |store t x y=>
  simp only[opW,hop,Ya]at h;split at h
  .rename_i i hi;split at h
   .rename_i k off g;split at h
    .rename_i l j;split at h
     .rename_i J;simp only[zG]at J;exact .inl ⟨_,dQ Γ.toTy hop g hi j J.1.1 (yN J.1.2) (wG J.2),h⟩
     .exact .inr h
    .exact .inr h
   .rename_i k sz n off g;split at h
    .rename_i ef v e l j;obtain ⟨rfl,hn,z,hz,J,h⟩:=h;simp only[zG]at J;obtain ⟨⟨⟨⟨⟨c1,c2⟩,c3⟩,c4⟩,c5⟩,c6⟩:=J;exact .inl ⟨_,dP Γ.toTy hop g hi j c1 (yN c2) (wG c3) hn hz c4 c5 c6,h⟩
    .exact .inr h
   .exact .inr h
  .exact .inr h
 |fieldAddr t x f=>
  simp only[opW,hop]at h;split at h
  .rename_i i hi;split at h
   .rename_i fs j;split at h
    .rename_i fo fn hf;split at h
     .exact .inr h
     .rename_i a7;split at h
      .rename_i k off g;split at h
       .rename_i l hb;exact .inl ⟨_,Si Γ.toTy hop hi j hf j_ (.inl ⟨k,off,l,g,hb,q_,q_⟩),h⟩
       .exact .inr h
      .rename_i sz z off g;exact .inl ⟨_,Si Γ.toTy hop hi j hf j_ (.inr (.inl ⟨sz,z,off,g,q_,q_⟩)),h⟩
      .rename_i k sz n off g;split at h
       .rename_i ef v e l hb;obtain ⟨ag,h⟩:=h;refine .inl ⟨_,Si Γ.toTy hop hi j hf j_ (.inr (.inr ⟨k,sz,n,off,g,λu w R=>?_,q_,q_⟩)),h⟩;rw[hb]at R;obtain ⟨b,cap,_,_,_,e1,_⟩:=R.rowAt ag;exact⟨b,_,cap,e1⟩
       .rename_i ef a0 hb;refine .inl ⟨_,Si Γ.toTy hop hi j hf j_ (.inr (.inr ⟨k,sz,n,off,g,λu w R=>?_,q_,q_⟩)),h⟩;rw[hb]at R;obtain ⟨b,cap,_,_,_,e1,_⟩:=R;exact⟨b,_,cap,e1⟩
       .exact .inr h
      .exact .inr h
    .exact .inr h
   .exact .inr h
  .exact .inr h
 |nilCheck x=>
  simp only[opW,hop]at h;split at h
  .rename_i k off g;split at h
   .rename_i l hb;have:=J6 (P:=P) (rd:=[k]) hop (.inl ⟨k,off,l,g,hb,rfl⟩);rw[g]at this;exact .inl ⟨_,this,h⟩
   .exact .inr h
  .rename_i sz z off g;have:=J6 (P:=P) (rd:=[]) hop (.inr (.inl ⟨sz,z,off,g,rfl⟩));rw[g]at this;exact .inl ⟨_,this,h⟩
  .rename_i fn first cap g
   split at h
   .rename_i f;have:=J6 (P:=P) (rd:=[]) hop (.inr (.inr (.inl ⟨f,first,cap,g,rfl⟩)));rw[g]at this;exact .inl ⟨_,this,h⟩
   .exact .inr h
  .exact .inr h
 |indexAddr t x y=>
  simp only[opW,hop]at h;split at h
  .rename_i i hi;split at h
   .rename_i et a6 eb ez j;split at h
    .rename_i ik n I;split at h
     .rename_i sz v e l g;obtain ⟨rfl,h0,hn,h⟩:=h;exact .inl ⟨_,Sh Γ.toTy hop hi j g I h0 hn,h⟩
     .rename_i k g;split at h
      .rename_i len hl;exact .inl ⟨_,Qe Γ.toTy hop hi j g hl I h.1 h.2.1,h.2.2⟩
      .exact .inr h
     .exact .inr h
    .exact .inr h
   .rename_i et len a6 j;split at h
    .rename_i ik n I;split at h
     .rename_i k off g;split at h
      .rename_i l hl;exact .inl ⟨_,Of Γ.toTy hop hi j g hl I h.1 h.2.1,h.2.2⟩
      .exact .inr h
     .rename_i sz z off g;exact .inl ⟨_,Oe Γ.toTy hop hi j g I h.1 h.2.1,h.2.2⟩
     .exact .inr h
    .exact .inr h
   .exact .inr h
  .exact .inr h
 |binOp op t x y yt=>
  simp only[opW,hop]at h;split at h
  .rename_i k a k' b g I;split at h
   .exact Ayz hop g I h
   .split at h
    .rename_i pp;subst pp;exact Bbx hop g I h
    .exact .inr h
  .rename_i a b g I;exact A9i hop g I h
  .rename_i p q g I;split at h
   .rename_i i hi;split at h
    .rename_i j;split at h
     .exact .inl ⟨_,Acy Γ.toTy hop (.inl q_) hi j g I,h⟩
     .exact .inl ⟨_,Acy Γ.toTy hop (.inr q_) hi j g I,h⟩
     .exact .inr h
    .exact .inr h
   .exact .inr h
  .rename_i l m g I;split at h
   .rename_i ks a4;split at h
    .rename_i r hr;split at h
     .exact .inl ⟨_,Agb hop (.inl q_) (Γ.cq t ks a4) g I hr,h⟩
     .exact .inl ⟨_,Agb hop (.inr q_) (Γ.cq t ks a4) g I hr,h⟩
     .exact .inr h
    .exact .inr h
   .exact .inr h
  .rename_i k off g I;split at h
   .rename_i l hb;split at h
    .rename_i i hi;split at h
     .rename_i j;split at h
      .exact .inl ⟨_,Aga Γ.toTy hop (.inl q_) hi j I (.inl ⟨k,off,l,g,hb,q_,q_⟩),h⟩
      .exact .inl ⟨_,Aga Γ.toTy hop (.inr q_) hi j I (.inl ⟨k,off,l,g,hb,q_,q_⟩),h⟩
      .exact .inr h
     .exact .inr h
    .exact .inr h
   .exact .inr h
  .exact .inr h
 |unOp op t x=>
  simp only[opW,hop]at h;split at h
  .rename_i b g;exact .inl ⟨_,Bcd hop g,h⟩
  .rename_i k n g;exact .inl ⟨_,Bce hop g,h⟩
  .exact .inr h
 |extract x i=>
  simp only[opW,hop,Bcl]at h;split at h
  .rename_i l g;split at h
   .rename_i y I;exact .inl ⟨_,Aqy hop g I,h⟩
   .exact .inr h
  .exact .inr h
 |convert src dst x=>
  simp only[opW,hop]at h;split at h
  .rename_i si di hs hd;split at h
   .rename_i k' k n j g;exact .inl ⟨_,Aez Γ.toTy hop hs hd j g,h⟩
   .rename_i b j g;split at h
    .rename_i li;exact .inl ⟨_,lH Γ.toTy hop hs hd li j g,h⟩
    .exact .inr h
   .exact .inr h
  .exact .inr h
 |makeInterface t x=>
  simp only[opW,hop,Ae0]at h;split at h
  .rename_i i hi;split at h
   .exact .inr h
   .exact .inr h
   .exact .inr h
   .rename_i h1 h2 h3;refine .inl ⟨_,Aaj Γ.toTy hop hi ?_,h⟩;cases j:i.k<;>first|rfl|(exact zW j h1)|(exact zW j h2)|(exact zW j (h3 _ _ _))
  .exact .inr h
 |build t ps=>
  simp only[opW,hop,Ya]at h;split at h
  .rename_i i hi;split at h
   .rename_i fs j;split at h
    .rename_i h1;split at h
     .rename_i out rq;exact .inl ⟨_,A0y (ps:=ps.toList) Γ.toTy (by rw[hop]) hi j h1 rq,h⟩
     .exact .inr h
    .exact .inr h
   .exact .inr h
  .exact .inr h
 |buildSlice t len ps=>
  simp only[opW,hop,Ya]at h;split at h
  .rename_i d hd;split at h
   .rename_i hf;split at h
    .rename_i i hi;split at h
     .rename_i et sz eb ez j;split at h
      .rename_i xs kx;split at h
       .rename_i J;simp only[zG]at J;exact .inl ⟨_,Ag9 (ps:=ps.toList) Γ.toTy (by rw[hop]) hf hi j kx (yN J.1.1) (wG J.1.2) J.2,h⟩
       .exact .inr h
      .exact .inr h
     .exact .inr h
    .exact .inr h
   .exact .inr h
  .exact .inr h
 |index t x y=>
  simp only[opW,hop]at h;split at h
  .rename_i i hi;split at h
   .rename_i j;split at h
    .rename_i b g;split at h
     .rename_i ik n I;exact .inl ⟨_,Acx Γ.toTy hop hi j g I h.1 h.2.1,h.2.2⟩
     .exact .inr h
    .exact .inr h
   .exact .inr h
  .exact .inr h
 |slice t x lo hi mx=>
  simp only[opW,hop]at h;split at h
  .split at h
   .rename_i i hi';split at h
    .rename_i j;split at h
     .rename_i b g;rcases Bc9 h with ⟨l,hl,h⟩|h
      .rcases Bc9 h with ⟨r,hr,h⟩|h
       .obtain ⟨⟨a1,a2,a3⟩,h⟩:=h;exact .inl ⟨_,Acw (lo:=l.toNat) (hi:=r.toNat) Γ.toTy hop hi' j g (hl.is a1 q_) (hr.is j_ qx) j_ j_,h⟩
       .exact .inr h
      .exact .inr h
     .exact .inr h
    .exact .inr h
   .exact .inr h
  .exact .inr h
 |makeFunc fn first cap=>
  simp only[opW,hop,Ya]at h;exact .inl ⟨_,Amc (ys:=first.toList) (xs:=cap.toList) (by rw[hop]),h⟩
 |call c=>
  simp only[opW,hop]at h;split at h
  .rename_i zw;split at h
   .rename_i x t r vw a5;have J:c=⟨.builtin .len,#[x],c.argTypes⟩:=by
     obtain ⟨a,b,d⟩:=c;simp only at zw vw|-;have:b=#[x]:=by
      apply Array.ext';simpa using vw
     rw[zw,this]
    rw[J]at hop;have es:c.argTypes[0]? = some t:=by
     rw[<-vV,a5];rfl
    split at h
    .rename_i i hi;split at h
     .rename_i et sz eb ez j;split at h
      .rename_i z v e l g;exact .inl ⟨_,Aj3 Γ.toTy hop es hi j (.inl ⟨z,v,e,l,g,q_,q_⟩),h⟩
      .rename_i k g;split at h
       .rename_i n hn;exact .inl ⟨_,Aj3 Γ.toTy hop es hi j (.inr (.inl ⟨k,g,hn,q_⟩)),h⟩
       .exact .inr h
      .rename_i a n cap g;exact .inl ⟨_,Aj3 Γ.toTy hop es hi j (.inr (.inr ⟨a,cap,g,q_⟩)),h⟩
      .exact .inr h
     .rename_i j;split at h
      .rename_i b g;exact .inl ⟨_,Ag8 Γ.toTy hop es hi j g,h⟩
      .exact .inr h
     .exact .inr h
    .exact .inr h
   .exact .inr h
  .exact .inr h
 |_=>simp only[opW,hop]at h;exact .inr h
theorem Bez{P:Program}{Γ:TyE P}{o:Oper}{s:SS}{K:Up->Prop}{stop:Prop}(h:opW Γ o s K stop):(∃U,O2 P o s U/\K U)\/stop:=by
 have a0:(Qn o||X8 o)=false->(∃U,O2 P o s U/\K U)\/stop:=λhn=>by
  rcases Bar h with ⟨U,hU,r⟩|h
  .exact .inl ⟨U,.of hU hn,r⟩
  .exact .inr h
 cases hop:o.op with
 |indexAddr t x y=>
  have ck:X8 o=false:=by simp[X8,hop]
  have g:x∈o.op.operands/\y∈o.op.operands:=by simp[hop,Op.operands]
  simp only[opW,hop]at h;split at h
  .rename_i i hi;split at h
   .rename_i et a1 eb ez r;split at h
    .rename_i ik n R;split at h
     .rename_i sz a e l I;obtain ⟨rfl,h0,hn,h⟩:=h;exact .inl ⟨_,⟨(Sh Γ.toTy hop hi r I R h0 hn).two,λ_=>⟨rfl,λs' J h2=>Sh Γ.toTy hop hi r ((J x g.1).trans I) ((J y g.2).trans R) h0 hn⟩,λj=>(by rw[ck]at j;cases j)⟩,h⟩
     .rename_i k I;split at h
      .rename_i len hl;exact .inl ⟨_,⟨(Qe Γ.toTy hop hi r I hl R h.1 h.2.1).two,λ_=>⟨rfl,λs' J h2=>Qe Γ.toTy hop hi r ((J x g.1).trans I) (Ob.shp_len (h2 k qx) hl) ((J y g.2).trans R) h.1 h.2.1⟩,λj=>(by rw[ck]at j;cases j)⟩,h.2.2⟩
      .exact .inr h
     .exact .inr h
    .exact .inr h
   .rename_i et len a1 r;split at h
    .rename_i ik n R;split at h
     .rename_i k off I;split at h
      .rename_i l hl;exact .inl ⟨_,⟨(Of Γ.toTy hop hi r I hl R h.1 h.2.1).two,λ_=>⟨rfl,λs' J h2=>(Ob.shp_box ((h2 k qx).trans (zH Ob.shp hl))).elim λm hm=>Of Γ.toTy hop hi r ((J x g.1).trans I) hm ((J y g.2).trans R) h.1 h.2.1⟩,λj=>(by rw[ck]at j;cases j)⟩,h.2.2⟩
      .exact .inr h
     .rename_i sz z off I;exact .inl ⟨_,⟨(Oe Γ.toTy hop hi r I R h.1 h.2.1).two,λ_=>⟨rfl,λs' J h2=>Oe Γ.toTy hop hi r ((J x g.1).trans I) ((J y g.2).trans R) h.1 h.2.1⟩,λj=>(by rw[ck]at j;cases j)⟩,h.2.2⟩
     .exact .inr h
    .exact .inr h
   .exact .inr h
  .exact .inr h
 |store t x y=>
  have uq:Qn o=false:=by simp[Qn,hop]
  simp only[opW,hop,Ya]at h;split at h
  .rename_i i hi;split at h
   .rename_i k off I;split at h
    .rename_i l r;split at h
     .rename_i j;simp only[zG]at j;exact .inl ⟨_,⟨(dQ Γ.toTy hop I hi r j.1.1 (yN j.1.2) (wG j.2)).two,λ j=>(by rw[uq]at j;cases j),λ _ p hp=>by
       simp only[zX]at hp;subst hp;show (Ob.box _).shp=(s.h k).shp;rw[r];rfl⟩,h⟩
     .exact .inr h
    .exact .inr h
   .rename_i k sz n off I;split at h
    .rename_i ef a e l r;obtain ⟨rfl,hn,z,hz,j,h⟩:=h;simp only[zG]at j;obtain ⟨⟨⟨⟨⟨c1,c2⟩,c3⟩,c4⟩,c5⟩,c6⟩:=j;exact .inl ⟨_,⟨(dP Γ.toTy hop I hi r c1 (yN c2) (wG c3) hn hz c4 c5 c6).two,λ j=>(by rw[uq]at j;cases j),λ _ p hp=>by
      simp only[zX]at hp;subst hp;show (Ob.row _ _ _).shp=(s.h k).shp;rw[r];simp[Ob.shp]⟩,h⟩
    .exact .inr h
   .exact .inr h
  .exact .inr h
 |_=>exact a0 (by simp[Qn,X8,hop])
def Aj0(g:Nat):List Oper->Bool
 |[]=>false
 | o::r=>(match o.guard with
  |some (j,_)=>Nat.beq j g
  | none=>false) || Aj0 g r
def Bfm(g:Bool)(U:Up)(K i:Up->Prop):Prop :=
 match g with
 |false=>K U
 | true=>(match U.v with
  | .val (.bool b)=>(b=true->i ⟨.val (.bool true),U.rd,U.bp⟩)/\(b=false->i ⟨.val (.bool false),U.rd,U.bp⟩)
  | _=>K U)
theorem A3m{X:Up->Prop}{i:Bool}{U:Up}{K j:Up->Prop}(l:∀U,K U->j U)(g:X U)(h:Bfm i U K j):∃o,X o/\j o:=by
 unfold Bfm at h;split at h
 .exact⟨U,g,l _ h⟩
 .split at h
  .rename_i b p;obtain ⟨v,rd,r⟩:=U;simp only at p;subst p;cases b
   .exact⟨_,g,h.2 q_⟩
   .exact⟨_,g,h.1 q_⟩
  .exact⟨U,g,l _ h⟩
def Jg(n:Nat)(all:Array Oper)(o:Oper)(s:SS):Option Bool :=
 match o.guard with
 |none=>some true
 | some (j,g)=>(match (all[j]?).bind (·.dst) with
  | some d=>(match Nat.blt d n with
   | true=>(match s.σ d with
    | .val (.bool c)=>(match c with
     |true=>some g
     | false=>(match g with | true=>some false | false=>some true))
    | .val (.tuple a)=>(match a.toList with|[]=>some false|_=>none)
    | _=>none)
   | false=>none)
  | none=>none)
theorem I9{n:Nat}{all:Array Oper}{o:Oper}{s:SS}{b:Bool}(h:Jg n all o s=some b):Aa9 all s o.guard b/\∀j g,o.guard=some (j,g)->∀d,((all[j]?).bind (·.dst))=some d->d<n:=by
 unfold Jg at h;cases t:o.guard with
 |none=>
  rw[t]at h;simp only[Option.some.injEq]at h;exact⟨h.symm,λj g i=>by cases i⟩
 |some p=>
  obtain ⟨j,g⟩:=p;rw[t]at h;simp only at h;split at h
  .rename_i d I;split at h
   .rename_i J;refine⟨⟨d,I,?_⟩,λj' l i d' r=>?_⟩
    .split at h
     .rename_i c P;left;refine⟨c,P,?_⟩;cases c
      .cases g<;>simp_all
      .simp_all
     .rename_i a R;split at h
      .rename_i he;right;have:a=#[]:=kS he;subst this;simp only[Option.some.injEq]at h;exact⟨R,h.symm⟩
      .cases h
     .cases h
    .simp only[Option.some.injEq,Prod.mk.injEq]at i;obtain ⟨rfl,rfl⟩:=i;rw[I]at r;simp only[Option.some.injEq]at r;subst r;exact wG J
   .cases h
  .cases h
def eC(n:Nat)(o:Oper):Bool:=match o.dst with|some d=>Nat.blt d n|none=>true
mutual
def Wx(C:Cx)(Γ:TyE C.P):Nat->List KI->SS->Prop
 |0,k,s=>G C k s
 | n+1,k,s=>(match k with
  |[]=>G C [] s
  | .blk _::k=>Wx C Γ n k s
  | .inv I::k=>G C (.inv I::k) s
  | .scp::k=>Wx C Γ n k s
  | .ops _ []::k=>Wx C Γ n k s
  | .ops all (o::g)::k=>(match eC C.n o with
   | true=>(match Jg C.n all o s with
    |some true=>opW Γ o s (λU=>Bfm (Aj0 (all.size-g.length-1) g) U (λU=>Wx C Γ n (.ops all g::k) (s.upd o.dst U)) (λU=>G C (.ops all g::k) (s.upd o.dst U))) (G C (.ops all (o::g)::k) s)
    |some false=>Wx C Γ n (.ops all g::k) (s.upd o.dst ⟨.val undef,[],[]⟩)
    | none=>G C (.ops all (o::g)::k) s)
   | false=>G C (.ops all (o::g)::k) s)
  | .code c::k=>(match c with
   | .skip=>Wx C Γ n k s
   | .seq x y=>Wx C Γ n (.code x::.code y::k) s
   | .block id c=>Wx C Γ n (.code c::.blk id::k) s
   | .scope c=>Wx C Γ n (.code c::.scp::k) s
   | .label _=>Wx C Γ n k s
   | .region id ops i=>(match i with
    |false=>Wx C Γ n (.ops ops ops.toList::k) s
    | true=>(match A1j C.n ops.toList with
     |true=>Ac6 C Γ n k ops [] ops.toList s
     | false=>G C (.code (.region id ops true)::k) s))
   | .cond c x y=>(match ev s c with
    | .val (.bool b)=>(b=true->G C (.code x::k) s)/\(b=false->G C (.code y::k) s)
    | _=>G C (.code (.cond c x y)::k) s)
   | .exit id=>(match nP id k with
    |some j=>Wx C Γ n j s
    | none=>G C (.code (.exit id)::k) s)
   | c=>G C (.code c::k) s))
def Ac6(C:Cx)(Γ:TyE C.P):Nat->List KI->Array Oper->List Tu->List Oper->SS->Prop
 |0,k,all,done,g,s=>DR C k all done g s
 | n+1,k,all,done,g,s=>(match g with
  |[]=>Arg all done=true/\Wx C Γ n k s
  | o::g=>(match Jg C.n all o s with
   |some true=>opW Γ o s (λU=>Bfm (Aj0 (all.size-g.length-1) g) U (λU=>Ac6 C Γ n k all (done++[⟨done.length,o,U,true⟩]) g (s.upd o.dst U)) (λU=>DR C k all (done++[⟨done.length,o,U,true⟩]) g (s.upd o.dst U))) (DR C k all done (o::g) s)
   |some false=>Ac6 C Γ n k all (done++[⟨done.length,o,⟨.val undef,[],[]⟩,false⟩]) g (s.upd o.dst ⟨.val undef,[],[]⟩)
   | none=>DR C k all done (o::g) s))
end
def Akf{n:Nat}{o:Oper}(h:eC n o=true):∀d,o.dst=some d->d<n:=λd g=>by
 unfold eC at h;rw[g]at h;exact wG h
def Bdc{all:Array Oper}{done:List Tu}{o:Oper}{g:List Oper}(h:all.toList=done.map (·.o)++o::g):all[done.length]? = some o:=by
 rw[<-vV,h,wD qx];simp
def A3n{C:Cx}{Γ:TyE C.P}(hm:C.P.follows .mixedOrders=true):∀n,(∀k s,Wx C Γ n k s->G C k s)/\(∀k all done g s,all.toList=done.map (·.o)++g->Ac6 C Γ n k all done g s->DR C k all done g s):=by
 intro n
 induction n with
 |zero=>exact⟨λk s h=>(by simpa only [Wx] using h),λk all done g s _ h=>(by simpa only [Ac6] using h)⟩
 |succ n ih=>
  obtain ⟨i,t⟩:=ih;constructor
  .intro k s h;simp only[Wx]at h;split at h
   .exact h
   .exact G_blk (i _ _ h)
   .exact h
   .exact G_scp (i _ _ h)
   .exact A8i (i _ _ h)
   .rename_i all o g k';split at h
    .rename_i I;have p6:=Akf I;split at h
     .rename_i j;obtain ⟨l,r⟩:=I9 j;rcases Bar h with ⟨U,J,R⟩|h
      .obtain ⟨U',p,li⟩:=A3m (X:=Good C.P o s) (λU hu=>i _ _ hu) J R;exact G_op p (λm a w hs=>eY hs r l) p6 li
      .exact h
     .rename_i j;obtain ⟨l,r⟩:=I9 j;exact A8j (λm a w hs=>eY hs r l) p6 (i _ _ h)
     .exact h
    .exact h
   .rename_i c k';split at h
    .exact G_skip (i _ _ h)
    .exact G_seq (i _ _ h)
    .exact Bgn (i _ _ h)
    .exact Bgk (i _ _ h)
    .exact Bgl (i _ _ h)
    .split at h
     .exact Bdu (i _ _ h)
     .split at h
      .rename_i I;exact G_draw hm I (t _ _ _ _ _ qx h)
      .exact h
    .split at h
     .rename_i b hc;exact G_cond hc h.1 h.2
     .exact h
    .split at h
     .rename_i hx;exact G_exit hx (i _ _ h)
     .exact h
    .exact h
  .intro k all done g s iw h;simp only[Ac6]at h;split at h
   .exact DR_nil h.1 (i _ _ h.2)
   .rename_i o g;have hi:=Bdc iw;split at h
    .rename_i j;obtain ⟨l,r⟩:=I9 j;rcases Bez h with ⟨U,J,R⟩|h
     .obtain ⟨U',p,li⟩:=A3m (X:=O2 C.P o s) (λU hu=>t _ _ _ _ _ (by simp[iw]) hu) J R;exact A33 U' p hi l li
     .exact h
    .rename_i j;obtain ⟨l,r⟩:=I9 j;exact Bgp hi l (t _ _ _ _ _ (by simp[iw]) h)
    .exact h
def aF{p q:Prop}(h:q):(false=true->p)/\(false=false->q):=⟨λe=>(tS e).elim,λ_=>h⟩
def aT{p q:Prop}(h:p):(true=true->p)/\(true=false->q):=⟨λ_=>h,λe=>(tS e.symm).elim⟩
def run{C:Cx}{k:List KI}{s:SS}(Γ:TyE C.P)(hm:C.P.follows .mixedOrders=true)(n:Nat)(h:Wx C Γ n k s):G C k s:=(A3n hm n).1 k s h
theorem runD{C:Cx}{k:List KI}{s:SS}{all:Array Oper}{done:List Tu}{g:List Oper}(Γ:TyE C.P)(hm:C.P.follows .mixedOrders=true)(n:Nat)(i:all.toList=done.map (·.o)++g)(h:Ac6 C Γ n k all done g s):DR C k all done g s :=
 (A3n hm n).2 k all done g s i h
def rG{C:Cx}{k:List KI}{s:SS}(Γ:TyE C.P)(hm:C.P.follows .mixedOrders=true)(h:Wx C Γ 400 k s):G C k s:=run Γ hm 400 h
def rD{C:Cx}{k:List KI}{s:SS}{all:Array Oper}{done:List Tu}{g:List Oper}(Γ:TyE C.P)(hm:C.P.follows .mixedOrders=true)(i:all.toList=done.map (·.o)++g)(h:Ac6 C Γ 400 k all done g s):DR C k all done g s:=runD Γ hm 400 i h
def Al{C:Cx}{k:List KI}{s:SS}{all:Array Oper}{o:Oper}{g:List Oper}{U:Up}(j:Good C.P o s U)(l:eC C.n o=true)(i:Jg C.n all o s=some true)(h:G C (.ops all g::k) (s.upd o.dst U)):G C (.ops all (o::g)::k) s :=
 G_op j (λ_ _ _ p=>eY p (I9 i).2 (I9 i).1) (Akf l) h
def C6{C:Cx}{k:List KI}{s:SS}{all:Array Oper}{done:List Tu}{o:Oper}{g:List Oper}{U:Up}(i:Good C.P o s U)(hi:all[done.length]? = some o)(j:Jg C.n all o s=some true)(h:DR C k all (done++[⟨done.length,o,U,true⟩]) g (s.upd o.dst U))(l:(Qn o||X8 o)=false:=by rfl):DR C k all done (o::g) s:=A33 U (.of i l) hi (I9 j).1 h
def done{P:Program}{fn:Func}{F:Fr}{R:SV}{i:It}{Γ:Ty P}{n:Nat}{j:List Nat}{g:∀k,F.k0 k≠.new->k∈j}{k:List KI}{s:SS}{l:List ResultVar}(o:fn.results=l.toArray){xs:List SV}(r:S1 Γ.get s l xs)(a:List (Nat×Nat))(L:It)(t:∀p∈i,p∈L)(I:R.ren (Bs a)=comb xs)(J:R.inn L.keys=true)(a6:Sub ⟨P,Γ,F,n,lK P fn F R i,j,g⟩ s a [] L):G ⟨P,Γ,F,n,lK P fn F R i,j,g⟩ (.code .ret::k) s :=
 Bgz λ_ _ _ hs=>(A21 o r a L t I J a6 hs).1
def Bf{P:Program}{fn:Func}{F:Fr}{R:SV}{i:It}{Γ:Ty P}{n:Nat}{j:List Nat}{g:∀k,F.k0 k≠.new->k∈j}{s:SS}{l:List ResultVar}(o:fn.results=l.toArray){xs:List SV}(r:S1 Γ.get s l xs)(a:List (Nat×Nat))(L:It)(t:∀p∈i,p∈L)(I:R.ren (Bs a)=comb xs)(J:R.inn L.keys=true)(a6:Sub ⟨P,Γ,F,n,lK P fn F R i,j,g⟩ s a [] L):G ⟨P,Γ,F,n,lK P fn F R i,j,g⟩ [] s :=
 G_nil λ_ _ _ hs=>(A21 o r a L t I J a6 hs).2
def Av{P:Program}{fn:Func}{F:Fr}{R:SV}{Γ:Ty P}{n:Nat}{g:∀k,F.k0 k≠.new->k∈[]}{k:List KI}{s:SS}{i:List ResultVar}(j:fn.results=i.toArray){xs:List SV}(l:S1 Γ.get s i xs)(o:R=comb xs)(p:R.inn []=true):G ⟨P,Γ,F,n,lK P fn F R [],[],g⟩ (.code .ret::k) s:=by
 have hid:∀x:SV,x.ren (Bs [])=x:=λx=>Br x
 exact done j l [] [] (λ_ h=>h) (by rw[hid];exact o) p kU
def fieldsOf(P:Program):List Field->Option (List (Nat×Nat))
 |[]=>some []
 |f::g=>match P.info? f.type,fieldsOf P g with
  |some i,some r=>some ((f.offset,i.size)::r)
  |_,_=>none
def Agh{P:Program}:∀{g:List Field} {r:List (Nat×Nat)},fieldsOf P g=some r->Lt P g r
 |[],r,h=>by simp only[fieldsOf,Option.some.injEq]at h;subst h;trivial
 |f::g,r,h=>by
  simp only[fieldsOf]at h;split at h
  .rename_i i q hi j;simp only[Option.some.injEq]at h;subst h;exact⟨q_,by rw[hi];rfl,Agh j⟩
  .cases h
def tkOf(P:Program)(d:TypeDesc):Option TK :=
 match d with
 | .bool=>some .bool
 | .int k=>some (.int k)
 | .string=>some .string
 | .slice e=>(match P.info? e with
  | some i=>(match i.zero with
   |some z=>some (.slice e i.size i.bytes z.cells.toList)
   | none=>none)
  | none=>none)
 | .struct g=>(match fieldsOf P g.toList with
  |some r=>some (.struct r)
  | none=>none)
 | .array len e=>(match P.info? e with
  |some i=>some (.array e len i.size)
  | none=>none)
 | .pointer _=>some .ptr
 | .interface _=>some .iface
 | .func _ _ _=>some .func
 |_=>none
def Beb{P:Program}{d:TypeDesc}{k:TK}(h:tkOf P d=some k):TK.ok P d k:=by
 unfold tkOf at h;split at h
 .cases h;rfl
 .cases h;rfl
 .cases h;rfl
 .split at h
  .rename_i i hi;split at h
   .rename_i z g;cases h;exact⟨q_,i,z,hi,q_,q_,g,q_⟩
   .cases h
  .cases h
 .split at h
  .rename_i r j;cases h;exact⟨_,q_,Agh j⟩
  .cases h
 .split at h
  .rename_i i hi;cases h;exact⟨q_,i,hi,q_⟩
  .cases h
 .cases h;exact⟨_,rfl⟩
 .cases h;exact⟨_,rfl⟩
 .cases h;exact⟨_,_,_,rfl⟩
 .cases h
def tiOf(P:Program)(t:TypeId):Option TI :=
 match P.underlying t,P.info? t with
 | some d,some info=>(match tkOf P d,info.zero with
  |some k,some z=>some ⟨k,info.size,z.cells.toList⟩
  | _,_=>none)
 |_,_=>none
def Bec{P:Program}{t:TypeId}{i:TI}(h:tiOf P t=some i):i.ok P t:=by
 unfold tiOf at h;split at h
 .rename_i d info g hi;split at h
  .rename_i k z j l;cases h;exact⟨d,info,z,g,Beb j,hi,q_,l,q_⟩
  .cases h
 .cases h
inductive Tr(α:Type)|lf|nd (k:Nat) (v:α) (l r:Tr α)
def Tr.look{a:Type}(t:Nat):Tr a->Option a
 | .lf=>none
 | .nd k v l r=>bif Nat.beq t k then some v else bif Nat.blt t k then l.look t else r.look t
def Tr.all{a:Type}(p:Nat->a->Prop):Tr a->Prop
 | .lf=>True
 | .nd k v l r=>p k v/\l.all p/\r.all p
theorem Tr.look_ok{a:Type}{p:Nat->a->Prop}{t:Nat}{v:a}:∀{T:Tr a},T.all p->T.look t=some v->p t v
 | .lf,_,h=>by cases h
 | .nd k u l r,g,h=>by
  simp only[Tr.look,uL]at h;split at h
  .rename_i i;have:=yN i;subst this;simp only[Option.some.injEq]at h;subst h;exact g.1
  .split at h
   .exact Tr.look_ok g.2.1 h
   .exact Tr.look_ok g.2.2 h
def ekOf(P:Program)(t:TypeId):Option EK :=
 match P.underlying t with
 |some (.int k)=>some (.int k)
 |some .bool=>some .bool
 |some .string=>some .string
 |_=>none
def Av8(P:Program):Nat->List Field->Option (List EK)
 |_,[]=>some []
 |i,f::g=>match ekOf P f.type,Av8 P (i+1) g with
  |some k, some r=> if f.name ≠ "_" /\ f.offset = i then some (k::r) else none
  |_,_=>none
def Av7{P:Program}:∀{j:List Field} {i:Nat} {r:List EK},Av8 P i j=some r->A1e P i j r
 |[],i,r,h=>by simp only[Av8,Option.some.injEq]at h;subst h;trivial
 |f::j,i,r,h=>by
  simp only[Av8]at h;split at h
  .rename_i k q g o;split at h
   .rename_i l;cases h;refine⟨l.1,l.2,?_,Av7 o⟩;unfold ekOf at g;split at g<;>first|(cases g;assumption)|cases g
   .cases h
  .cases h
def Bcn(P:Program)(t:TypeId):Option (List EK) :=
 match P.underlying t with
 |some (.struct g)=>if P.stoodInHeld t=false/\P.eqGuardType P.depth t=false then Av8 P 0 g.toList else none
 |_=>none
def Bcm{P:Program}{t:TypeId}{r:List EK}(h:Bcn P t=some r):EqOK P t r:=by
 unfold Bcn at h;split at h
 .rename_i l g;split at h
  .rename_i i;have j:P.fieldsOf t=l:=by simp[Program.fieldsOf,g]
   exact⟨by rw[j];exact g,i.1,i.2,by rw[j];exact Av7 h⟩
  .cases h
 .cases h
def Aky(fn:Func):Code:=fn.body.getD .skip
def Au5{k:Type 1}:List k->Nat->Bool
 |[],_=>true
 |_::_,0=>false
 |_::l,n+1=>Au5 l n
def Aji{k:Type 1}:∀{l:List k} {n:Nat},Au5 l n=true->l.length<=n
 |[],_,_=>xV _
 |_::_,0,h=>by cases h
 |_::l,n+1,h=>Nat.succ_le_succ (Aji (l:=l) h)
def Y7{P:Program}(Γ:TyE P)(hm:P.follows .mixedOrders=true)(N:Nat){f:FuncId}{fn:Func}{c:Code}{A:List SV}{H:It}{R:SV}{i:It}(g:Fun P f fn c){n:Nat}(j:fn.ntmps=n)(l:Au5 A n=true)(h:∀(F:Fr) (g:∀k,F.k0 k≠.new->k∈H.keys),Wx ⟨P,Γ.toTy,F,n,lK P fn F R i,H.keys,g⟩ Γ N [.code c] ⟨argσ A,mkh H⟩):Sy.Spec P f A H R i :=
 A41 Γ.toTy g.1 g.2 j (Aji l) λF g=>run Γ hm N (h F g)
variable {C:Cx} {k:List KI} {s:SS}
theorem U3{all:Array Oper}{o:Oper}{g:List Oper}{f:FuncId}{fn:Func}{c:Code}{xs:List Operand}{i:Array TypeId}{A:List SV}{R:SV}(j:Sy.Spec C.P f A [] R [])(l:Fun C.P f fn c)(h:o.op=.call ⟨.value (.func f),xs.toArray,i⟩)(p:A=xs.map (ev s))(aq:(C7 [] A&&R.inn [])=true)(r:eC C.n o=true)(t:Jg C.n all o s=some true)(I:G C (.ops all g::k) (s.upd o.dst ⟨R,[],[]⟩)):G C (.ops all (o::g)::k) s:=by
 have hid:∀x:SV,x.ren (Bs [])=x:=λx=>Br x
 have J:∀x:List SV,S8 (Bs []) x=x:=λx=>O5 x
 have:=Ad (s:=s) (o:=o) [] h l j (by rw[J];exact p) trivial (by simp_all[Ux,lU,Aps,It.keys]) trivial;rw[hid]at this;exact Al this r t I
theorem Bc5{all:Array Oper}{done:List Tu}{o:Oper}{g:List Oper}{f:FuncId}{fn:Func}{c:Code}{xs:List Operand}{i:Array TypeId}{A:List SV}{R:SV}(j:Sy.Spec C.P f A [] R [])(l:Fun C.P f fn c)(h:o.op=.call ⟨.value (.func f),xs.toArray,i⟩)(p:A=xs.map (ev s))(J:(C7 [] A&&R.inn [])=true)(hi:all[done.length]? = some o)(r:Jg C.n all o s=some true)(t:DR C k all (done++[⟨done.length,o,⟨R,[],[]⟩,true⟩]) g (s.upd o.dst ⟨R,[],[]⟩)):DR C k all done (o::g) s:=by
 have hid:∀x:SV,x.ren (Bs [])=x:=λx=>Br x
 have I:∀x:List SV,S8 (Bs []) x=x:=λx=>O5 x
 have:=Ad (s:=s) (o:=o) [] h l j (by rw[I];exact p) trivial (by simp_all[Ux,lU,Aps,It.keys]) trivial;rw[hid]at this;exact C6 this hi r t (by simp[Qn,X8,h])
theorem Agj{all:Array Oper}{o:Oper}{g:List Oper}(V:List Nat){f:FuncId}{fn:Func}{c:Code}{xs:List Operand}{j:Array TypeId}{A:List SV}{R:SV}(l:Sy.Spec C.P f A [] R [])(p:Fun C.P f fn c)(h:o.op=.call ⟨.value (.func f),xs.toArray,j⟩)(r:VwL s V (xs.map (ev s)) A)(i:(C7 [] A&&R.plain)=true)(t:eC C.n o=true)(I:Jg C.n all o s=some true)(J:G C (.ops all g::k) (s.upd o.dst ⟨R,V,[]⟩)):G C (.ops all (o::g)::k) s:=by
 simp only[zG]at i;exact Al (Ms V h p l r i.1 i.2) t I J
def J3(P:Program)(f:FuncId)(A:List SV)(R:SV):Prop:=(∃fn c,Fun P f fn c)/\Sy.Spec P f A [] R []
theorem call0E{all:Array Oper}{o:Oper}{g:List Oper}{f:FuncId}{B A:List SV}{R:SV}(i:Enters C.P o s [] f B)(j:Sy.Spec C.P f A [] R [])(l:A=B)(J:(C7 [] A&&R.inn [])=true)(p:eC C.n o=true)(r:Jg C.n all o s=some true)(t:G C (.ops all g::k) (s.upd o.dst ⟨R,[],[]⟩)):G C (.ops all (o::g)::k) s:=by
 have hid:∀x:SV,x.ren (Bs [])=x:=λx=>Br x
 have I:∀x:List SV,S8 (Bs []) x=x:=λx=>O5 x
 have:=A1 (s:=s) (o:=o) [] i j (by rw[I];exact l) trivial (by simp_all[Ux,lU,Aps,It.keys]) trivial;rw[hid]at this;exact Al this p r t
theorem Is{all:Array Oper}{o:Oper}{g:List Oper}{f:FuncId}{x:Operand}{xs:List Operand}{j:Array TypeId}{first cap A:List SV}{R:SV}(i:J3 C.P f A R)(h:o.op=.call ⟨.value x,xs.toArray,j⟩)(l:ev s x=.clo (.func f) first cap)(p:A=first++xs.map (ev s)++cap)(r:(C7 [] A&&R.inn [])=true)(t:eC C.n o=true)(I:Jg C.n all o s=some true)(J:G C (.ops all g::k) (s.upd o.dst ⟨R,[],[]⟩)):G C (.ops all (o::g)::k) s:=by
 obtain ⟨⟨fn,c,hf⟩,i⟩:=i;exact call0E (A3 h l hf) i p r t I J
theorem Bf2{all:Array Oper}{done:List Tu}{o:Oper}{g:List Oper}{f:FuncId}{B A:List SV}{R:SV}(i:Enters C.P o s [] f B)(j:(Qn o||X8 o)=false)(l:Sy.Spec C.P f A [] R [])(p:A=B)(J:(C7 [] A&&R.inn [])=true)(hi:all[done.length]? = some o)(r:Jg C.n all o s=some true)(t:DR C k all (done++[⟨done.length,o,⟨R,[],[]⟩,true⟩]) g (s.upd o.dst ⟨R,[],[]⟩)):DR C k all done (o::g) s:=by
 have hid:∀x:SV,x.ren (Bs [])=x:=λx=>Br x
 have I:∀x:List SV,S8 (Bs []) x=x:=λx=>O5 x
 have:=A1 (s:=s) (o:=o) [] i l (by rw[I];exact p) trivial (by simp_all[Ux,lU,Aps,It.keys]) trivial;rw[hid]at this;exact C6 this hi r t j
theorem A1u{all:Array Oper}{done:List Tu}{o:Oper}{g:List Oper}{f:FuncId}{x:Operand}{xs:List Operand}{j:Array TypeId}{first cap A:List SV}{R:SV}(i:J3 C.P f A R)(h:o.op=.call ⟨.value x,xs.toArray,j⟩)(l:ev s x=.clo (.func f) first cap)(p:A=first++xs.map (ev s)++cap)(r:(C7 [] A&&R.inn [])=true)(hi:all[done.length]? = some o)(t:Jg C.n all o s=some true)(I:DR C k all (done++[⟨done.length,o,⟨R,[],[]⟩,true⟩]) g (s.upd o.dst ⟨R,[],[]⟩)):DR C k all done (o::g) s:=by
 obtain ⟨⟨fn,c,J⟩,i⟩:=i;exact Bf2 (A3 h l J) (by simp[Qn,X8,h]) i p r hi t I
theorem eH{all:Array Oper}{done:List Tu}{o:Oper}{g:List Oper}(V:List Nat){f:FuncId}{fn:Func}{c:Code}{xs:List Operand}{j:Array TypeId}{A:List SV}{R:SV}(l:Sy.Spec C.P f A [] R [])(p:Fun C.P f fn c)(h:o.op=.call ⟨.value (.func f),xs.toArray,j⟩)(r:VwL s V (xs.map (ev s)) A)(i:(C7 [] A&&R.plain)=true)(hi:all[done.length]? = some o)(t:Jg C.n all o s=some true)(I:DR C k all (done++[⟨done.length,o,⟨R,V,[]⟩,true⟩]) g (s.upd o.dst ⟨R,V,[]⟩)):DR C k all done (o::g) s:=by
 simp only[zG]at i;exact C6 (Ms V h p l r i.1 i.2) hi t I (by simp[Qn,X8,h])
theorem A7w{P:Program}(w:World)(l sT ty elem:TypeId)(d a:Option Addr)(g o j p:Nat){i:TypeInfo}(r:P.underlying l=some (.slice elem))(t:P.info? elem=some i)(_hi:i.size=1)(I:min j g=0):(Builtin.copy_ #[l,sT] ty #[.slice d g o,.slice a j p]).run P w=.ok (.int .i64 0) w:=by
 have J:∀(x:Addr),(loadCells x 0).run P w=.ok #[] w:=λx=>kS (run_loadCells_list (P:=P) w x [] qx)
 have R:Nat.min j g=0:=I;cases d<;>cases a<;>simp[Builtin.copy_,run_underlying r,Builtin.lenOf,Builtin.firstCells,sizeOf,typeInfo,t,R,storeCells,J]<;>rfl
theorem Aor{P:Program}(w w':World)(o sT ty elem:TypeId)(d a:Addr)(g p l r:Nat){i:TypeInfo}(cs:List Value)(t:P.underlying o=some (.slice elem))(I:P.info? elem=some i)(hi:i.size=1)(J:cs.length=min l g)(R:∀j v,cs[j]? = some v->w.cell? (a.add j)=some v)(ck:(storeCells d cs 0).run P w=.ok () w'):(Builtin.copy_ #[o,sT] ty #[.slice (some d) g p,.slice (some a) l r]).run P w=.ok (.int .i64 cs.length) w':=by
 have hl:=run_loadCells_list (P:=P) w a cs R;have m9:cs.length=Nat.min l g:=J;simp[Builtin.copy_,run_underlying t,Builtin.lenOf,Builtin.firstCells,sizeOf,typeInfo,I,hi,<-m9,hl,ck];rfl
theorem fO{P:Program}(Γ:Ty P){o:Oper}{s:SS}{t:TypeId}{ti:TI}{et:TypeId}{eb k:Nat}{ez:List Value}{x y:Operand}{ks:List Nat}{f:Type}{e:f->SV}{l m:List f}(h:o.op=.call ⟨.builtin .copy,#[x,y],#[t,t]⟩)(ht:Γ.get t=some ti)(hk:ti.k=.slice et 1 eb ez)(hx:ev s x=.osl k)(a1:s.h k=.row 1 e l)(hs:Tl s 1 (ev s y) ks m.length (U9 e m)):Good P o s ⟨.val (.int .i64 (min m.length l.length:Nat)),ks,[(k,.row 1 e (m.take l.length++l.drop m.length))]⟩:=by
 intro d a w hi hr ho N Q hN;have h1:=hr x (by simp[h,Op.operands,Call.operands]);have h2:=hr y (by simp[h,Op.operands,Call.operands]);have h3:=ho k (.inr (by simp[Up.ws]));rw[a1]at h3;obtain ⟨hu,i,z,q1,q2,q3,q4,q5⟩:=Di Γ ht hk;have ig:=hs.src h2 (λj J=>ho j (.inl J));have a0:∃R cap,a.eval x=.slice R l.length cap/\(l≠[]->∃b c,d k=.row b l.length c/\R=some ⟨b,0,none⟩):=by
  have:=Ob.len_ok (ob:=.row 1 e l) (n:=l.length) rfl h3 (v:=a.eval x) (by rw[<-hx];exact h1);obtain ⟨R,cap,e1,e2⟩:=this;exact⟨R,cap,e1,λhl=>e2 (kS hl)⟩
 obtain ⟨R,cap,e1,e2⟩:=a0;by_cases hz:min m.length l.length=0
 .have ls:m.take l.length++l.drop m.length=l:=by
   rcases uM m.length with h0|h0
   .have:m=[]:=wU.1 h0;subst this;simp
   .have:l=[]:=wU.1 j_;subst this;simp
  have ny:∃a' r,a.eval y=.slice a' m.length r:=by
   rcases ig with ⟨h0,_,a',r,I⟩|⟨b,off,r,g,I,_⟩
   .exact⟨a',r,by rw[I,h0]⟩
   .exact⟨_,_,I⟩
  obtain ⟨a',r,I⟩:=ny;have an:(execOp a.eval o).run P w=.ok (.value (.int .i64 (min m.length l.length:Nat))) w:=by
   have:=A7w (P:=P) w t t o.type et R a' l.length cap m.length r hu q1 q2 hz;rw[hz];simp[execOp,h,resolve,invoke,builtin,e1,I,this]
  simp only[Oper.wp,an,Oper.upon];refine hN _ d w ((Qc [] d hi).1.weaken qx) hi (by simp[Rd]) (λp hp=>?_);simp only[zX]at hp;subst hp;rw[ls];exact h3
 .have hl:l≠[]:=by rintro rfl;simp at hz
  have I:=h3.rowAt hl;obtain ⟨b,dy,cs,T,fr,f1,f2,f3,f4,f5,f6⟩:=I;obtain ⟨b',r,g1,g2⟩:=e2 hl;rw[f1]at g1;cases g1;rcases ig with ⟨h0,_⟩|⟨b2,off,c2,g,g3,g4,g5,g6,g7⟩
  .simp[h0]at hz
  .have hn:(g.take (min m.length l.length)).length=min m.length l.length:=by simp;omega
   obtain ⟨w',k1,k2,k3,k4,k5,k6,k7⟩:=Ej P b 0 T fr (g.take (min m.length l.length)) 0 cs w f2 f3 (by rw[hn];omega) (λ v hv=>g5 v (wK hv));have hc:=Aor (P:=P) w w' t t o.type et ⟨b,0,none⟩ ⟨b2,off,none⟩ l.length cap m.length c2 (g.take (min m.length l.length)) hu q1 q2 hn (λ j v hv=>by
    rw[Addr.add_lit];refine g6 j v ?_;rw[vX]at hv;split at hv
    .exact hv
    .cases hv) k1
   rw[hn]at hc;have an:(execOp a.eval o).run P w=.ok (.value (.int .i64 (min m.length l.length:Nat))) w':=by
    subst g2;simp[execOp,h,resolve,invoke,builtin,e1,g3,hc]
   simp only[Oper.wp,an,Oper.upon];obtain ⟨st,inv⟩:=Vx hi (k:=k) (b:=b) (by rw[f1];rfl) k3 k4 k5 k6 k7;refine hN _ d w' (st.weaken (by simp[Up.ws])) inv (by simp[Rd]) (λp hp=>?_);simp only[zX]at hp;subst hp;have jf:(m.take l.length++l.drop m.length).length=l.length:=by simp;omega
   refine .inr ⟨b,dy,_,T,fr,by rw[jf];exact f1,k2,by rw[C8];exact f3,by rw[C8];exact f4,by rw[jf];exact f5,?_⟩;rintro j x ⟨J,rfl⟩;rw[jf]at J;refine⟨by rw[jf];exact J,?_⟩;have bc:=T3 cs (g.take (min m.length l.length)) 0;by_cases zx:j<m.length
   .obtain ⟨_,u,u1,u2,u3,u4⟩:=g7 j (e m[j]) ⟨zx,rfl⟩;refine⟨u,?_,u2,u3,λi hi'=>?_⟩
    .have:(m.take l.length++l.drop m.length)[j]=m[j]:=by
      rw[yZ kO,wN]
     rw[this];exact D3.keep st.keeps _ _ u1
    .have dq:i=0:=by omega
     subst dq;simp only[tD,uO]at u4|-;rw[bc _ j_,zE j_,vX,zE j_];have:=u4 0 j_;simpa using this
   .obtain ⟨_,u,u1,u2,u3,u4⟩:=f6 j (e l[j]) ⟨J,rfl⟩;refine⟨u,?_,u2,u3,λi hi'=>?_⟩
    .have:(m.take l.length++l.drop m.length)[j]'(by rw[jf];exact J)=l[j]:=by
      rw[xW kO,vS];congr 1;simp;omega
     rw[this];exact D3.keep st.keeps _ _ u1
    .have dq:i=0:=by omega
     subst dq;simp only[tD,uO]at u4|-;rw[bc _ j_,zD j_];have:=u4 0 j_;simpa using this
def Axh(C:Cx)(n:Nat)(L:Nat->List (Nat×SV))(O:Nat->It)(i:Nat)(a:Act)(w:World):Prop :=
 ∃g:{j:Nat // j<=n},∃k,n-g.1<n-i/\St C.F C.n (mkS (L g.1) (O g.1)) k a w
theorem Bl{C:Cx}{k:List KI}{s:SS}{body:Code}(n:Nat)(L:Nat->List (Nat×SV))(O:Nat->It)(a:List (Nat×Nat))(g:Sub C s a (L 0) (O 0))(h:∀i,i<=n->G C (.code body::.inv (Axh C n L O i)::k) (mkS (L i) (O i))):G C (.code (.loop body)::k) s :=
 eW (α:={j:Nat // j<=n}) (λx=>L x.1) (λx=>O x.1) (λx=>n-x.1) ⟨0,xV _⟩ a g (λx=>h x.1 x.2)
theorem A9{C:Cx}{k:List KI}{s:SS}{n:Nat}{L:Nat->List (Nat×SV)}{O:Nat->It}{i:Nat}(a:List (Nat×Nat))(hi:i+1<=n)(g:Sub C s a (L (i+1)) (O (i+1))):G C (.inv (Axh C n L O i)::k) s :=
 oA (α:={j:Nat // j<=n}) (L:=λx=>L x.1) (O:=λx=>O x.1) (μ:=λx=>n-x.1) (x:=⟨i,by omega⟩) ⟨i+1,hi⟩ a (by simp only;omega) g
end Go.Sy
