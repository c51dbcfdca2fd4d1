/- Parts of a proof. -/
import Derived.Test.YtodbnbfjhjcanaaGreatDoorXB2
set_option linter.all false
namespace Go.Sy
structure Stp where
 i:Nat
 o:Oper
 U:Up
 want:Bool
def Ob.shp:Ob->Nat×Option Nat×Option (Nat×SV×Nat)
 | .box _=>(1,none,none)
 | .row _ _ l=>(0,some l.length,none)
 | .lit _ svs=>(0,some svs.length,none)
 | .glob sz x g=>(2,none,some (sz,x,g))
 | .rown _ _ l _ _=>(0,some l.length,none)
 |_=>(0,none,none)
theorem Ob.shp_len{x y:Ob}{n:Nat}(h:x.shp=y.shp)(hy:y.len=some n):x.len=some n:=by
 cases x<;>cases y<;>simp_all[Ob.shp,Ob.len]
theorem Ob.shp_box{x:Ob}{l:List SV}(h:x.shp=(Ob.box l).shp):∃m,x=.box m:=by
 cases x<;>simp_all[Ob.shp]
def Km(o:Oper):Bool:=match o.op with| .indexAddr ..=>true|_=>false
def Tf(o:Oper):Bool:=match o.op with| .store ..=>true|_=>false
def Aui(P:Program)(o:Oper)(s:SS)(U:Up):Prop :=
 ∀(b:Ka) (a:Act) (w:World),Inv b w->(∀x∈o.op.operands,Rd b w (ev s x) (a.eval x))->(∀k,k∈U.rd\/k∈U.ws->ObOK b w k (s.h k)) ->
  ∀(N:Act->World->Prop) (Q:Exit->Act->World->Prop),
   (∀v b' w',Step (λk=>k∈U.ws\/k∈U.rd) b w b' w'->Inv b' w'->Rd b' w' U.v v->(∀x∈U.objs,ObOK b' w' x.1 x.2)->(∀k,k∈U.rd->k∉U.ws->ObOK b' w' k (s.h k))->N (a.put o.dst v) w')->o.wp P a w N Q
theorem Good.two{P:Program}{o:Oper}{s:SS}{U:Up}(h:Good P o s U):Aui P o s U:=λb a w hi hr ho N Q hN=>
 h b a w hi hr ho N Q λv b' w' st inv hv cq=>hN v b' w' (st.weaken λ_ hk=>.inl hk) inv hv cq λk hk hw=>ObOK.step st hw _ (ho k (.inl hk))
theorem Good.keep{P:Program}{o:Oper}{s:SS}{U:Up}(h:Good P o s U)(hk:∀p∈U.objs,s.h p.1=p.2):Aui P o s ⟨U.v,U.rd++U.ws,[]⟩:=λb a w hi hr ho N Q hN=>
 h b a w hi hr (λk kr=>ho k (.inl (kS kr))) N Q λv b' w' st inv hv cq=>hN v b' w' (st.weaken λk kr=>.inr (by simp[kr])) inv hv (λx hx=>by cases hx) λk cy _=>by
  by_cases hw:k∈U.ws
  .obtain ⟨p,hp,rfl⟩:=yS.1 hw;rw[hk p hp];exact cq p hp
  .exact ObOK.step st hw _ (ho k (.inl cy))
theorem St.put2{F:Fr}{n:Nat}{s:SS}{b b':Ka}{a:Act}{w w':World}(h:St F n s b a w){dst:Option Nat}{U:Up}{v:Value}(hd:∀d,dst=some d->d<n)(st:Step (λk=>k∈U.ws\/k∈U.rd) b w b' w')(hi:Inv b' w')(hv:Rd b' w' U.v v)(ho:∀x∈U.objs,ObOK b' w' x.1 x.2)(hr:∀k,k∈U.rd->k∉U.ws->ObOK b' w' k (s.h k)):St F n (s.upd dst U) b' (a.put dst v) w' where
 defers:=by cases dst<;>exact h.defers
 size:=by cases dst<;>simp[Act.put,h.size]
 inv:=hi
 ctx:=h.ctx.step hi st
 slot i:=by
  cases dst with
  |none=>exact Rd.step st _ _ (h.slot i)
  |some d=>
   have ab:=hd d rfl;by_cases hi':i=d
   .subst hi';simp only[SS.upd,B1,Act.put];have hs:i<a.tmps.size:=by rw[h.size];exact ab
    simpa [hs] using hv
   .simp only[SS.upd,Cz _ _ hi',Act.put];have:(a.tmps.setIfInBounds d v).getD i undef=a.tmps.getD i undef:=by
     simp[Array.getElem?_setIfInBounds_ne (Ne.symm hi')]
    rw[this];exact Rd.step st _ _ (h.slot i)
 obj k:=Aho _ _ _ ho (λ hk=>by
  by_cases h2:k∈U.rd
  .exact hr k h2 hk
  .exact ObOK.step st (λ h3=>h3.elim hk h2) _ (h.obj k))
structure GoodX(P:Program)(o:Oper)(s:SS)(U:Up):Prop where
 good:Aui P o s U
 idx:Km o=true->U.objs=[]/\∀s':SS,(∀x∈o.op.operands,ev s' x=ev s x)->(∀k∈U.rd,(s'.h k).shp=(s.h k).shp)->Good P o s' U
 st:Tf o=true->∀p∈U.objs,p.2.shp=(s.h p.1).shp
theorem GoodX.of{P:Program}{o:Oper}{s:SS}{U:Up}(h:Good P o s U)(hn:(Km o||Tf o)=false):GoodX P o s U:=by
 simp only[xX]at hn;exact⟨h.two,λh1=>by (rw[hn.1]at h1;cases h1),λh1=>by (rw[hn.2]at h1;cases h1)⟩
theorem GoodX.of2{P:Program}{o:Oper}{s:SS}{U:Up}(h:Aui P o s U)(hn:(Km o||Tf o)=false):GoodX P o s U:=by
 simp only[xX]at hn;exact⟨h,λh1=>by (rw[hn.1]at h1;cases h1),λh1=>by (rw[hn.2]at h1;cases h1)⟩
def Stp.ok(P:Program)(all:Array Oper)(s:SS)(t:Stp):Prop :=
 all[t.i]? = some t.o/\aS all s t.o.guard t.want/\(t.want=true->GoodX P t.o s t.U)/\(t.want=false->t.U=⟨.val undef,[],[]⟩)
def A2v(K L:List Nat):Bool:=K.all λk=>!(S7 L k)
def Ajg{K L:List Nat}(h:A2v K L=true):∀k∈K,k∉L:=λk hk hl=>by
 simp only[A2v,yT]at h;have:=h k hk;rw[memN_iff.2 hl]at this;cases this
def Xf(all:Array Oper)(p t:Stp):Bool :=
 p.o.apart all t.o&&A2v p.U.ws t.U.ws&&(A2v p.U.ws t.U.rd||(Tf p.o&&Km t.o))&&(A2v t.U.ws p.U.rd||(Tf t.o&&Km p.o))
def A5s(all:Array Oper):Nat->Nat->Oper->Bool
 |0,_,_=>false
 |n+1,i,o=>o.after.toList.any λe=>Region.binds .any e&&(Nat.beq e.on i||(match all[e.on]? with|some u=>A5s all n i u|none=>false))
def aft(all:Array Oper)(p t:Stp):Bool:=A5s all 4 p.i t.o
def Cl(all:Array Oper)(listed:Array Bool):Prop:=∀i o,all[i]? = some o->listed.getD i true=true->∀e∈o.after,Region.binds .any e=true->listed.getD e.on false=true
def Atv{listed:Array Bool}{i:Nat}(h:listed.getD i false=true):listed.getD i true=true:=by
 simp only[vM]at h|-;cases hh:listed[i]? with
 |none=>rw[hh]at h;cases h
 |some b=>rw[hh]at h;exact h
def oH{all:Array Oper}{listed:Array Bool}(hc:Cl all listed){i:Nat}:∀(n:Nat) (o:Oper),(∀e∈o.after,Region.binds .any e=true->listed.getD e.on false=true)->A5s all n i o=true->listed.getD i false=true
 |0,_,_,h=>by cases h
 |n+1,o,ho,h=>by
  simp only[A5s,xY,zG,yO]at h;obtain ⟨e,h1,h2,h3⟩:=h;have h4:=ho e (kS h1) h2;rcases h3 with h3|h3
  .rw[<-yK h3];exact h4
  .cases hu:all[e.on]? with
   |none=>rw[hu]at h3;cases h3
   |some u=>
    rw[hu]at h3;exact oH hc n u (hc e.on u hu (Atv h4)) h3
def fF(all:Array Oper)(p:Stp):List Stp->Bool
 |[]=>true
 |t::r=>(Xf all p t||aft all p t)&&fF all p r
def Og(all:Array Oper):List Stp->Bool
 |[]=>true
 |p::r=>fF all p r&&Og all r
def Aak(t:Stp):Bool:=t.o.after.toList.all λe=>!(Region.binds .any e)||Nat.blt e.on t.i
def fin(s:SS):List Stp->SS
 |[]=>s
 |t::r=>fin (s.upd t.o.dst t.U) r
def Chain(P:Program)(all:Array Oper):SS->List Stp->Prop
 |_,[]=>True
 |s,t::r=>t.ok P all s/\Chain P all (s.upd t.o.dst t.U) r
def Aj4{k:Type 1}(f:Nat->k){d e:Nat}(u v:k)(h:d≠e):upd (upd f d u) e v=upd (upd f e v) d u:=by
 funext i;by_cases h1:i=d
 .subst h1;rw[Cz _ _ h,B1,B1]
 .by_cases h2:i=e
  .subst h2;rw[B1,Cz _ _ h1,B1]
  .rw[Cz _ _ h2,Cz _ _ h1,Cz _ _ h1,Cz _ _ h2]
def Aj5(h:Nat->Ob)(k:Nat)(o:Ob):∀(l:List (Nat×Ob)),k∉l.map (·.1)->Vc (upd h k o) l=upd (Vc h l) k o
 |[],_=>rfl
 |(j,x)::r,hk=>by
  simp only[xV,yI,uF]at hk;rw[Vc,Vc,Aj4 _ _ _ hk.1,Aj5 _ k o r hk.2]
def Afg:∀(l m:List (Nat×Ob)) (h:Nat->Ob),(∀k∈l.map (·.1),k∉m.map (·.1))->Vc (Vc h l) m=Vc (Vc h m) l
 |[],m,h,_=>rfl
 |(k,o)::r,m,h,hd=>by
  rw[Vc,Vc,Afg r m _ (λj hj=>hd j (by simp at hj|-;exact .inr hj)),Aj5 h k o m (hd k y_)]
def oC{all:Array Oper}{p t:Stp}(h:Xf all p t=true):(∀d,p.o.dst=some d->d∉t.o.looksAt all)/\(∀d,p.o.dst=some d->t.o.dst≠some d)/\(∀d,t.o.dst=some d->d∉p.o.looksAt all)/\(∀k∈p.U.ws,k∉t.U.ws) /\
   ((∀k∈p.U.ws,k∉t.U.rd)\/(Tf p.o=true/\Km t.o=true))/\((∀k∈t.U.ws,k∉p.U.rd)\/(Tf t.o=true/\Km p.o=true)):=by
 simp only[Xf,zG,yO]at h;obtain ⟨⟨⟨h1,h2⟩,h3⟩,h4⟩:=h;obtain ⟨a1,a2,a3⟩:=Oper.apart_spec h1;exact⟨a1,a2,a3,Ajg h2,h3.imp Ajg id,h4.imp Ajg id⟩
def Aj3{all:Array Oper}{p t:Stp}(h:Xf all p t=true)(s:SS):(s.upd p.o.dst p.U).upd t.o.dst t.U=(s.upd t.o.dst t.U).upd p.o.dst p.U:=by
 obtain ⟨_,h2,_,h4,_,_⟩:=oC h;unfold SS.upd;congr 1
 .cases hp:p.o.dst with
  |none=>rfl
  |some d=>
   cases ht:t.o.dst with
   |none=>rfl
   |some e=>exact Aj4 _ _ _ (λe'=>h2 d hp (by rw[ht,e']))
 .exact Afg _ _ _ (λk hk=>h4 k hk)
def lI{all:Array Oper}{s s':SS}{o:Oper}{b:Bool}(a2:aS all s o.guard b)(h1:∀d,d∈o.looksAt all->s'.σ d=s.σ d):aS all s' o.guard b:=by
 unfold aS at a2|-;cases hg:o.guard with
 |none=>rw[hg]at a2;exact a2
 |some q=>
  obtain ⟨j,want⟩:=q;rw[hg]at a2;obtain ⟨d,b1,b2⟩:=a2;have hd:s'.σ d=s.σ d:=h1 d (by simp[Oper.looksAt,hg,b1]);exact⟨d,b1,by rw[hd];exact b2⟩
def Anb{all:Array Oper}{s s':SS}{o:Oper}(h1:∀d,d∈o.looksAt all->s'.σ d=s.σ d):∀x∈o.op.operands,ev s' x=ev s x:=λx hx=>by
 cases x with
 |tmp d=>
  have hd:s'.σ d=s.σ d:=h1 d (by
   simp only[Oper.looksAt,yH,wA];exact .inl ⟨.tmp d,kS hx,E⟩)
  simpa only [ev] using hd
 |const v=>rfl
 |global g=>rfl
 |func f=>rfl
theorem Stp.congr{P:Program}{all:Array Oper}{s s':SS}{t:Stp}(h:t.ok P all s)(h1:∀d,d∈t.o.looksAt all->s'.σ d=s.σ d)(h2:∀k,k∈t.U.rd\/k∈t.U.ws->s'.h k=s.h k):t.ok P all s':=by
 obtain ⟨a1,a2,a3,a4⟩:=h;have th:=Anb h1;refine⟨a1,lI a2 h1,λhw=>?_,a4⟩;obtain ⟨g1,g2,g3⟩:=a3 hw;refine⟨λb a w hi hr ho N Q hN=>?_,λhi=>?_,λhi p hp=>?_⟩
 .exact g1 b a w hi (λx hx=>by rw[<-th x hx];exact hr x hx) (λk hk=>by rw[<-h2 k hk];exact ho k hk) N Q (λv b' w' st inv hv cq jg=>hN v b' w' st inv hv cq λk hk hw=>by rw[h2 k (.inl hk)];exact jg k hk hw)
 .obtain ⟨e1,e2⟩:=g2 hi;exact⟨e1,λs'' q1 q2=>e2 s'' (λx hx=>(q1 x hx).trans (th x hx)) (λk hk=>by rw[q2 k hk,h2 k (.inl hk)])⟩
 .rw[g3 hi p hp,h2 p.1 (.inr (yS.2 ⟨p,hp,rfl⟩))]
theorem Stp.congrI{P:Program}{all:Array Oper}{s s':SS}{t:Stp}(h:t.ok P all s)(hi:Km t.o=true)(h1:∀d,d∈t.o.looksAt all->s'.σ d=s.σ d)(h2:∀k∈t.U.rd,(s'.h k).shp=(s.h k).shp):t.ok P all s':=by
 obtain ⟨a1,a2,a3,a4⟩:=h;have th:=Anb h1;refine⟨a1,lI a2 h1,λhw=>?_,a4⟩;obtain ⟨g1,g2,g3⟩:=a3 hw;obtain ⟨e1,e2⟩:=g2 hi;refine⟨(e2 s' th h2).two,λ_=>⟨e1,λs'' q1 q2=>e2 s'' (λx hx=>(q1 x hx).trans (th x hx)) (λk hk=>by rw[q2 k hk,h2 k hk])⟩,λ_ p hp=>?_⟩;rw[e1]at hp;cases hp
def Aj6:∀(l:List (Nat×Ob)) (h:Nat->Ob) (k:Nat),(∀q∈l,q.2.shp=(h q.1).shp)->(Vc h l k).shp=(h k).shp
 |[],_,_,_=>rfl
 |(j,o)::r,h,k,hq=>by
  rw[Vc,Aj6 r (Sy.upd h j o) k (λq hqr=>?_)]
  .by_cases hj:k=j
   .subst hj;rw[B1];exact hq (k,o) y_
   .rw[Cz _ _ hj]
  .rw[hq q (by simp[hqr])];by_cases hj:q.1=j
   .rw[hj,B1];exact(hq (j,o) y_).symm
   .rw[Cz _ _ hj]
theorem Stp.lens{P:Program}{all:Array Oper}{s:SS}{t:Stp}(h:t.ok P all s)(hi:Tf t.o=true)(k:Nat):((s.upd t.o.dst t.U).h k).shp=(s.h k).shp:=by
 obtain ⟨_,_,a3,a4⟩:=h;cases hw:t.want with
 |false=>rw[a4 hw];rfl
 |true=>exact Aj6 _ _ _ ((a3 hw).st hi)
def upd_σ_ne{s:SS}{dst:Option Nat}{U:Up}{d:Nat}(h:dst≠some d):(s.upd dst U).σ d=s.σ d:=by
 cases dst with
 |none=>rfl
 |some e=>exact Cz _ _ (λe'=>h (by rw[e']))
theorem Chain.first{P:Program}{all:Array Oper}{t:Stp}{post:List Stp}:∀{pre:List Stp} {s:SS},Chain P all s (pre++t::post)->(∀p∈pre,Xf all p t=true) ->
  t.ok P all s/\Chain P all (s.upd t.o.dst t.U) (pre++post)/\fin s (pre++t::post)=fin (s.upd t.o.dst t.U) (pre++post)
 |[],s,h,_=>⟨h.1,h.2,rfl⟩
 |p::pre,s,h,hp=>by
  obtain ⟨h1,h2⟩:=h;obtain ⟨i1,i2,i3⟩:=Chain.first h2 (λq hq=>hp q (by simp[hq]))
  have ha:=hp p y_;obtain ⟨b1,b2,b3,b4,b5,b6⟩:=oC ha;have ht:t.ok P all s:=by
   rcases b5 with b5|⟨c1,c2⟩
   .exact Stp.congr i1 (λ d hd=>(upd_σ_ne (λ e=>b1 d e hd)).symm) (λ k hk=>(Aau (λ hm=>by
     rcases hk with hk|hk
     .exact b5 k hm hk
     .exact b4 k hm hk)).symm)
   .exact Stp.congrI i1 c2 (λd hd=>(upd_σ_ne (λe=>b1 d e hd)).symm) (λk _=>(Stp.lens h1 c1 k).symm)
  have zm:p.ok P all (s.upd t.o.dst t.U):=by
   rcases b6 with b6|⟨c1,c2⟩
   .exact Stp.congr h1 (λ d hd=>upd_σ_ne (λ e=>b3 d e hd)) (λ k hk=>Aau (λ hm=>by
     rcases hk with hk|hk
     .exact b6 k hm hk
     .exact b4 k hk hm))
   .exact Stp.congrI h1 c2 (λd hd=>upd_σ_ne (λe=>b3 d e hd)) (λk _=>Stp.lens ht c1 k)
  refine⟨ht,⟨zm,?_⟩,?_⟩
  .rw[<-Aj3 ha];exact i2
  .show fin (s.upd p.o.dst p.U) (pre++t::post)=fin ((s.upd t.o.dst t.U).upd p.o.dst p.U) (pre++post);rw[i3,Aj3 ha]
def nB{all:Array Oper}{t:Stp}{post:List Stp}:∀{pre:List Stp},Og all (pre++t::post)=true->(∀p∈pre,Xf all p t=true\/aft all p t=true)/\Og all (pre++post)=true
 |[],h=>by
  simp only[wL,Og,zG]at h;exact⟨by simp,h.2⟩
 |p::pre,h=>by
  simp only[wB,Og,zG]at h;obtain ⟨h1,h2⟩:=h;obtain ⟨i1,i2⟩:=nB h2;have key:∀l:List Stp,fF all p (l++t::post)=true->(Xf all p t=true\/aft all p t=true)/\fF all p (l++post)=true:=by
   intro l
   induction l with
   |nil=>intro h;simp only[wL,fF,zG,yO]at h;exact h
   |cons q l ih=>
    intro h;simp only[wB,fF,zG]at h|-;exact⟨(ih h.2).1,h.1,(ih h.2).2⟩
  obtain ⟨k1,k2⟩:=key pre h1;refine⟨λq hq=>?_,?_⟩
  .rcases yI.1 hq with rfl|hq
   .exact k1
   .exact i1 q hq
  .simp only[wB,Og,zG];exact⟨k2,i2⟩
def Ax8{P:Program}{F:Fr}{n:Nat}{all:Array Oper}{Q:Exit->Act->World->Prop}(pj:∀(i:Nat) (o:Oper),all[i]? = some o->∀d,o.dst=some d->d<n):∀(m:Nat) (rem:List Stp) (listed:Array Bool) (s:SS) (k:Ka) (a:Act) (w:World),rem.length=m->St F n s k a w->Chain P all s rem->Og all rem=true->(∀t∈rem,Aak t=true) ->
   (∀i,listed.getD i true=false↔∃t∈rem,t.i=i)->(rem.Pairwise λp t=>p.i<t.i)->(∀i,i<all.size->i<listed.size)->Cl all listed->(∀k' a' w',St F n (fin s rem) k' a' w'->Q .normal a' w')->wpAny P .any all Q m listed a w:=by
 intro m
 induction m with
 |zero=>
  intro rem listed s k a w hm hs _ _ _ hl _ _ _ hQ;have:rem=[]:=yC hm;subst this;refine⟨?_,hQ k a w hs⟩;apply List.eq_nil_iff_forall_not_mem.2;intro i hi;have h1:=(mem_ready.1 hi).1;rw[hl i]at h1;obtain ⟨t,ht,_⟩:=h1;cases ht
 |succ m ih=>
  intro rem listed s k a w hm hs hc hp he hl ab bg ie hQ;have w4:∀t post,rem=t::post->t.i∈Region.ready .any all listed:=λt post h0=>by
   subst h0;refine mem_ready.2 ⟨(hl t.i).2 ⟨t,by simp,E⟩,t.o,hc.1.1,λe zt hb=>?_⟩;have h1:=he t y_;simp only[Aak,yT,yO,yU]at h1;have h2:e.on<t.i:=by
    rcases h1 e (kS zt) with h2|h2
    .rw[hb]at h2;cases h2
    .exact wC h2
   have a6:e.on<listed.size:=by
    refine bg _ ?_;have:t.i<all.size:=by
     have:=hc.1.1;rcases vZ t.i all.size with h|h
     .exact h
     .rw[uX h]at this;cases this
    omega
   have h3:listed.getD e.on true≠false:=λh4=>by
    obtain ⟨q,hq,hqi⟩:=(hl e.on).1 h4;rcases yI.1 hq with rfl|hq
    .omega
    .have:=(uE.1 ab).1 q hq;omega
   simp only[vM,uN a6,Option.getD_some]at h3|-;cases hh:listed[e.on] with
   |true=>rfl
   |false=>exact yA hh h3
  refine⟨λh0=>?_,λi hi=>?_⟩
  .cases rem with
   |nil=>simp at hm
   |cons t post=>
    have:=w4 t post rfl;rw[h0]at this;cases this
  .obtain ⟨h1,oi,h2,h3⟩:=mem_ready.1 hi;obtain ⟨t,ht,rfl⟩:=(hl i).1 h1;obtain ⟨pre,post,rfl⟩:=List.append_of_mem ht;obtain ⟨p1,p2⟩:=nB hp;have o8:∀p∈pre,Xf all p t=true:=λp j7=>by
    rcases p1 p j7 with h4|h4
    .exact h4
    .exfalso;have dr:oi=t.o:=by
      have aq:all[t.i]? = some t.o:=by
       have:∀(l:List Stp) (s:SS),Chain P all s (l++t::post)->all[t.i]? = some t.o:=by
        intro l
        induction l with
        |nil=>intro s h;exact h.1.1
        |cons q l ih=>intro s h;exact ih _ h.2
       exact this pre s hc
      rw[aq]at h2;exact(Option.some.inj h2).symm
     rw[dr]at h3;have h5:=Atv (oH ie 4 t.o h3 h4);have h6:=(hl p.i).2 ⟨p,by simp[j7],rfl⟩;rw[h5]at h6;cases h6
   obtain ⟨c1,c2,c3⟩:=hc.first o8
   have lc:(pre++post).Pairwise λp t=>p.i<t.i:=by
    rw[List.pairwise_append]at ab|-;obtain ⟨q1,q2,q3⟩:=ab;exact⟨q1,(uE.1 q2).2,λx hx y hy=>q3 x hx y (by simp[hy])⟩
   have af:∀q∈pre++post,q.i≠t.i:=λq hq=>by
    rw[List.pairwise_append]at ab;obtain ⟨q1,q2,q3⟩:=ab;rcases yH.1 hq with hq|hq
    .have:=q3 q hq t y_;omega
    .have:=(uE.1 q2).1 q hq;omega
   have uk:∀i,(listed.setIfInBounds t.i true).getD i true=false↔∃q∈pre++post,q.i=i:=λi=>by
    by_cases ep:t.i=i
    .subst ep;constructor
     .intro h4;exfalso;rcases vZ t.i listed.size with h5|h5
      .simp[h5]at h4
      .rw[vM,uX (kS h5)]at h4;cases h4
     .rintro ⟨q,hq,hqi⟩;exact yA hqi (af q hq)
    .rw[getD_set_ne true ep,hl i];constructor
     .rintro ⟨q,hq,rfl⟩;refine⟨q,?_,E⟩;simp only[yH,yI]at hq|-;rcases hq with hq|rfl|hq
      .exact .inl hq
      .exact yA E ep
      .exact .inr hq
     .rintro ⟨q,hq,rfl⟩;refine⟨q,?_,E⟩;simp only[yH,yI]at hq|-;rcases hq with hq|hq
      .exact .inl hq
      .exact .inr (.inr hq)
   have zu:∀i,listed.getD i false=true->(listed.setIfInBounds t.i true).getD i false=true:=λi h=>by
    by_cases ep:t.i=i
    .subst ep;rcases vZ t.i listed.size with h5|h5
     .simp[h5]
     .rw[vM,uX h5]at h;cases h
    .rw[getD_set_ne false ep];exact h
   have hcl':Cl all (listed.setIfInBounds t.i true):=λi o yc qz e fk dw=>by
    refine zu _ ?_;by_cases ep:t.i=i
    .subst ep;rw[h2]at yc;cases yc;exact h3 e fk dw
    .rw[getD_set_ne true ep]at qz;exact ie i o yc qz e fk dw
   have next:∀(k':Ka) (a':Act) (w':World),St F n (s.upd t.o.dst t.U) k' a' w'->wpAny P .any all Q m (listed.setIfInBounds t.i true) a' w':=λk' a' w' ya=>
    ih (pre++post) _ (s.upd t.o.dst t.U) k' a' w' (by simp at hm|-;omega) ya c2 p2 (λq hq=>he q (by simp only[yH,yI]at hq|-;exact hq.imp id .inr)) uk lc (kS bg) hcl' (by rw[<-c3];exact hQ)
   have dr:all[t.i]? = some t.o:=c1.1;have zw:=pj t.i t.o dr;unfold wpOp;rw[dr];obtain ⟨_,d2,d3,d4⟩:=c1;have zx:=Xm (o:=t.o) hs (λ j want hg d hd=>by
    cases hj:all[j]? with
    |none=>rw[hj]at hd;cases hd
    | some oj=>rw[hj]at hd;exact pj j oj hj d (kS hd)) d2
   simp only[zx];cases hw:t.want with
   |true=>
    simp only[if_true];exact .inl ((d3 hw).good k a w hs.inv (λx _=>hs.ev x) (λj _=>hs.obj j) _ _ (λv k' w' st inv hv ho jg=>next k' _ w' (hs.put2 zw st inv hv ho jg)))
   |false=>
    simp only[uR,if_false];refine next k _ w ?_;rw[d4 hw];exact hs.put (U:=⟨.val undef,[],[]⟩) zw (Step.refl _ k w) hs.inv (by simp[Rd]) (λp hp=>by cases hp)
variable {C:Cx} {k:List KI} {s:SS}
def DR(C:Cx)(k:List KI)(all:Array Oper)(done:List Stp)(rest:List Oper)(s:SS):Prop :=
 ∃ts:List Stp,ts.map (·.o)=rest/\(∀j t,ts[j]? = some t->t.i=done.length+j)/\Chain C.P all s ts/\Og all (done++ts)=true/\(done++ts).all Aak=true/\G C k (fin s ts)
def Ajc(all:Array Oper)(done:List Stp):Bool:=Og all done&&done.all Aak
theorem DR_nil{all:Array Oper}{done:List Stp}(hp:Ajc all done=true)(h:G C k s):DR C k all done [] s:=by
 simp only[Ajc,zG]at hp;exact⟨[],E,by simp,Y,kS hp.1,by rw[xD];exact hp.2,h⟩
theorem A3m{all:Array Oper}{done:List Stp}{o:Oper}{rest:List Oper}(U:Up)(hg:GoodX C.P o s U)(hi:all[done.length]? = some o)(hw:aS all s o.guard true)(h:DR C k all (done++[⟨done.length,o,U,true⟩]) rest (s.upd o.dst U)):DR C k all done (o::rest) s:=by
 obtain ⟨ts,h1,h2,h3,h4,h5,h6⟩:=h;refine⟨⟨done.length,o,U,true⟩::ts,by simp[h1],λj t hj=>?_,⟨⟨hi,hw,λ_=>hg,λhf=>by cases hf⟩,h3⟩,kS h4,kS h5,h6⟩;cases j with
 |zero=>simp only[tN,Option.some.injEq]at hj;subst hj;rfl
 |succ j=>have:=h2 j t (kS hj);simp at this;omega
theorem A5z{all:Array Oper}{done:List Stp}{o:Oper}{rest:List Oper}(hi:all[done.length]? = some o)(hw:aS all s o.guard false)(h:DR C k all (done++[⟨done.length,o,⟨.val undef,[],[]⟩,false⟩]) rest (s.upd o.dst ⟨.val undef,[],[]⟩)):DR C k all done (o::rest) s:=by
 obtain ⟨ts,h1,h2,h3,h4,h5,h6⟩:=h;refine⟨⟨done.length,o,⟨.val undef,[],[]⟩,false⟩::ts,by simp[h1],λj t hj=>?_,⟨⟨hi,hw,λhf=>(by cases hf),λ_=>rfl⟩,h3⟩,kS h4,kS h5,h6⟩;cases j with
 |zero=>simp only[tN,Option.some.injEq]at hj;subst hj;rfl
 |succ j=>have:=h2 j t (kS hj);simp at this;omega
def Ar7(n:Nat)(ops:List Oper):Bool:=ops.all λo=>match o.dst with|some d=>Nat.blt d n|none=>true
theorem G_draw{id:Nat}{ops:Array Oper}(hm:C.P.follows .mixedOrders=true)(hd:Ar7 C.n ops.toList=true)(h:DR C k ops [] ops.toList s):G C (.code (.region id ops true)::k) s:=λr a w hs=>by
 obtain ⟨ts,h1,h2,h3,h4,h5,h6⟩:=h;have pj:∀(i:Nat) (o:Oper),ops[i]? = some o->∀d,o.dst=some d->d<C.n:=λi o hi d hod=>by
  simp only[Ar7,yT]at hd;have ey:o∈ops.toList:=by
   rw[<-vY]at hi;exact List.mem_of_getElem? hi
  have:=hd o ey;rw[hod]at this;exact wC this
 have hlen:ts.length=ops.size:=by
  have:=zH List.length h1;simpa using this
 have ya:St C.F C.n s r a {w with drawn:=w.drawn+1}:=by
  have g:=Grew.drew w;have st:Step (λ_=>False) r w r w.drew:=⟨g.size,g.os,g.tape,g.output,rfl,λb _=>rfl,λb _ _=>rfl,λ_ _ _ _=>rfl,λ_ _=>rfl,λ_ h=>h.elim,λ_ h=>.inl h⟩
  have inv:Inv r w.drew:=⟨hs.inv.inj,hs.inv.bnd,hs.inv.apart,hs.inv.mbnd⟩
  exact⟨hs.defers,hs.size,inv,hs.ctx.step inv st,λi=>Rd.step st _ _ (hs.slot i),λj=>ObOK.step st (λh=>h) _ (hs.obj j)⟩
 refine wp_region_any hm (Ax8 pj ops.size ts (Array.replicate ops.size false) s r a _ hlen ya h3 (kS h4) (kS h5) ?_ ?_ y_ ?_ (λr' a' w' hs''=>h6 r' a' w' hs''))
 .intro i;simp only[vM,Array.getElem?_replicate];constructor
  .intro h7;split at h7
   .rename_i hi;have:i<ts.length:=by omega
    exact⟨ts[i],zI this,kS (h2 i ts[i] (zR this))⟩
   .cases h7
  .rintro ⟨t,ht,rfl⟩;obtain ⟨j,hj,rfl⟩:=yY.1 ht;have:=h2 j ts[j] (zR hj);simp only[xG,wF]at this;rw[this,zE q_];rfl
 .rw[wM];intro i j hi hj bu;have e1:=h2 i ts[i] (zR hi);have e2:=h2 j ts[j] (zR hj);omega
 .intro i o yc qz;exfalso;have:i<ops.size:=by
   rcases vZ i ops.size with h|h
   .exact h
   .rw[uX h]at yc;cases yc
  simp only[vM,Array.getElem?_replicate,zE this]at qz;cases qz
def Al(b:UInt8):SV:=.val (.int .u8 b.toNat)
def Aa(n:Int):SV:=.val (.int .i64 n)
def Ab(b:Bool):SV:=.val (.bool b)
def Bl(n:Int):SV:=.val (.int .u64 n)
def Be(n:Int):SV:=.val (.int .u32 n)
def As(s:ByteArray):SV:=.val (.string s)
theorem Axb{P:Program}(Γ:Ty P){t:TypeId}{ti:TI}{k:IntKind}(ht:Γ.get t=some ti)(hk:ti.k=.int k):P.underlying t=some (.int k):=by
 obtain ⟨d,info,z,k1,k2,_⟩:=Γ.ok t ti ht;rw[hk]at k2;simp only[TK.ok]at k2;subst k2;exact k1
theorem Au1{P:Program}(Γ:Ty P){t:TypeId}{ti:TI}(ht:Γ.get t=some ti)(hk:ti.k=.string):P.underlying t=some .string:=by
 obtain ⟨d,info,z,k1,k2,_⟩:=Γ.ok t ti ht;rw[hk]at k2;simp only[TK.ok]at k2;subst k2;exact k1
theorem cX{P:Program}(Γ:Ty P){o:Oper}{s:SS}{src dst:TypeId}{si di ei:TI}{x:Operand}{et:TypeId}{eb n:Nat}{ez:List Value}{ks:List Nat}{f:Nat->SV->Prop}(bs:List UInt8)(h:o.op=.convert src dst x)(hs:Γ.get src=some si)(hsk:si.k=.slice et 1 eb ez)(he:Γ.get et=some ei)(hek:ei.k=.int .u8)(hd:Γ.get dst=some di)(qy:di.k=.string)(hx:AppSrc s 1 (ev s x) ks n f)(hn:n=bs.length)(hf:∀i (h:i<bs.length),f i (Al bs[i])):Good P o s ⟨.val (.string ⟨bs.toArray⟩),ks,[]⟩ :=
 Good.pure λr a w hi hr ho=>by
  have r1:=hr x (by simp[h,Op.operands]);have iw:=hx.src r1 ho;obtain ⟨hu,_⟩:=Cu Γ hs hsk;have he':=Axb Γ he hek;have sy:=Au1 Γ hd qy;refine⟨.string ⟨bs.toArray⟩,?_,by simp[Rd]⟩;rcases iw with ⟨h0,cw,ad,cap,e1⟩|⟨b,off,cap,news,e1,e2,e3,e4,e5⟩
  .have hb:bs=[]:=yC q_;subst hb;cases ad with
   |none=>simp[execOp,h,e1,run_convert_bytes_nil w src et hu he' 0 cap dst sy];rfl
   |some ad=>
    have:=run_convert_bytes_back (P:=P) w src dst et ad cap [] hu he' sy (λj hj=>by simp at hj);simp only[xG]at this;simp[execOp,h,e1,this]
  .have:=run_convert_bytes_back (P:=P) w src dst et ⟨b,off,none⟩ cap bs hu he' sy (λ j hj=>by
    obtain ⟨q0,u,q1,q2,q3,q4⟩:=e5 j _ (hf j hj);have td:u=.int .u8 bs[j].toNat:=by simpa [Al,RdD] using q1
    have q5:=q4 0 q_;rw[td]at q5;simp only[Nat.mul_one,Nat.add_zero,Value.cells]at q5;rw[Addr.add_lit];exact e4 j _ (kS q5))
   rw[<-hn]at this;simp[execOp,h,e1,this]
inductive EK|int (k:IntKind)|bool|string
def EK.desc:EK->TypeDesc| .int k=>.int k| .bool=>.bool| .string=>.string
def Ar1(P:Program):Nat->List Field->List EK->Prop
 |_,[],[]=>True
 |i, f::fs, k::ks=> f.name ≠ "_" /\ f.offset = i /\ P.underlying f.type = some k.desc /\ Ar1 P (i + 1) fs ks
 |_,_,_=>False
structure EqOK(P:Program)(t:TypeId)(ks:List EK):Prop where
 under:P.underlying t=some (.struct (P.fieldsOf t))
 stood:P.stoodInHeld t=false
 guard:P.eqGuardType P.depth t=false
 fields:Ar1 P 0 (P.fieldsOf t).toList ks
def eq1(k:EK)(x y:SV):Option Bool :=
 match k,x,y with
 | .int _,.val (.int k1 a),.val (.int k2 b)=>if k1=k2 then some (a==b) else none
 | .bool,.val (.bool a),.val (.bool b)=>some (a==b)
 | .string,.val (.string a),.val (.string b)=>some (a==b)
 |_,_,_=>none
theorem A5c{P:Program}{κ:Ka}{w:World}(d:Nat){t:TypeId}{k:EK}(ht:P.underlying t=some k.desc){x y:SV}{u v:Value}{b:Bool}(h:eq1 k x y=some b)(hx:Rd κ w x u)(hy:Rd κ w y v):(Op.equalIn (d+1) t u v).run P w=.ok b w:=by
 unfold eq1 at h;split at h
 .split at h
  .rename_i hk;subst hk;simp only[Option.some.injEq]at h;rw[hx.val,hy.val,<-h];exact run_equalIn_int w d t _ _ _ _ ht
  .cases h
 .simp only[Option.some.injEq]at h;rw[hx.val,hy.val,<-h];exact run_equalIn_bool' w d t _ _ ht
 .simp only[Option.some.injEq]at h;rw[hx.val,hy.val,<-h,beq_toListBytes];exact run_equalIn_string w d t _ _ ht
 .cases h
def eqS:List EK->List SV->List SV->Option Bool
 |[],[],[]=>some true
 |k::ks,x::l,y::m=>match eq1 k x y,eqS ks l m with
  |some a,some b=>some (a&&b)
  |_,_=>none
 |_,_,_=>none
theorem Abb{P:Program}(w:World){t:TypeId}{k:EK}(h:P.underlying t=some k.desc)(cs:Array Value){i:Nat}{v:Value}(hv:cs[i]? = some v):(part t cs i).run P w=.ok v w:=by
 cases k<;>simp only[EK.desc]at h<;>simp[part,isAgg,run_underlying h,hv]
theorem A2n{P:Program}{κ:Ka}{w:World}{xs ys:Array Value}(d:Nat):∀(ks:List EK) (fs:List Field) (i:Nat) (l m:List SV) (r:Bool),Ar1 P i fs ks->RdL κ w l (xs.toList.drop i)->RdL κ w m (ys.toList.drop i)->eqS ks l m=some r ->
  (Op.eqFields (d+1) xs ys fs).run P w=.ok r w
 |[],[],i,l,m,r,_,_,_,he=>by
  cases l<;>cases m<;>simp[eqS]at he
  subst he;simp[Op.eqFields]
 |[],_::_,i,l,m,r,h,_,_,_=>by simp[Ar1]at h
 |_::_,[],i,l,m,r,h,_,_,_=>by simp[Ar1]at h
 |k::ks,f::fs,i,[],m,r,h,hl,hm,he=>by simp[eqS]at he
 |k::ks,f::fs,i,x::l,[],r,h,hl,hm,he=>by simp[eqS]at he
 |k::ks,f::fs,i,x::l,y::m,r,h,hl,hm,he=>by
  simp only[Ar1]at h;obtain ⟨h1,h2,h3,h4⟩:=h;simp only[RdL]at hl hm;obtain ⟨v,q,e1,e2,e3⟩:=hl;obtain ⟨u,p,f1,f2,f3⟩:=hm;have g1:xs[i]? = some v:=by
   have:=zH (λl=>l[0]?) e1;simpa using this
  have g2:ys[i]? = some u:=by
   have:=zH (λl=>l[0]?) f1;simpa using this
  have e4:xs.toList.drop (i+1)=q:=by
   have:=zH (List.drop 1) e1;simpa [tQ] using this
  have f4:ys.toList.drop (i+1)=p:=by
   have:=zH (List.drop 1) f1;simpa [tQ] using this
  have p1:=Abb (P:=P) w h3 xs g1;have p2:=Abb (P:=P) w h3 ys g2;simp only[eqS]at he;cases hb:eq1 k x y with
  |none=>rw[hb]at he;cases he
  |some b=>
   cases hq:eqS ks l m with
   |none=>rw[hb,hq]at he;cases he
   |some r'=>
    rw[hb,hq]at he;simp only[Option.some.injEq]at he;have au:=A5c (P:=P) (κ:=κ) (w:=w) d h3 hb e2 f2;have ih:=A2n d ks fs (i+1) l m r' h4 (by rw[e4];exact e3) (by rw[f4];exact f3) hq;simp only[Op.eqFields,zE h1,Sem.run_bind,h2,p1,p2,Result.andThen_ok,au];subst he;cases b
    .simp
    .simp[ih]
theorem nQ{P:Program}{o:Oper}{s:SS}{op:BinOp}{t yt:TypeId}{x y:Operand}{l m:List SV}{ks:List EK}{r:Bool}(h:o.op=.binOp op t x y yt)(hop:op=.eql\/op=.neq)(hq:EqOK P t ks)(hx:ev s x=.agg l)(hy:ev s y=.agg m)(hr:eqS ks l m=some r):Good P o s ⟨.val (.bool (if op=.eql then r else !r)),[],[]⟩ :=
 Good.pure λk a w _ jg _=>by
  have h1:=jg x (by simp[h,Op.operands]);have h2:=jg y (by simp[h,Op.operands]);rw[hx]at h1;rw[hy]at h2;simp only[Rd]at h1 h2;obtain ⟨cs,e1,_,e3⟩:=h1;obtain ⟨ds,f1,_,f3⟩:=h2;have au:(Op.equal t (.agg cs.toArray) (.agg ds.toArray)).run P w=.ok r w:=by
   show (Op.equalIn (9999+1) t (.agg cs.toArray) (.agg ds.toArray)).run P w=.ok r w;rw[run_equalIn_struct w 9999 t _ _ hq.under hq.stood];exact A2n (κ:=k) 9998 ks _ 0 l m r hq.fields (kS e3) (kS f3) hr
  have hg:(eqGuard op t x y (.agg cs.toArray) (.agg ds.toArray)).run P w=.ok () w:=by
   rcases hop with rfl|rfl<;>simp[eqGuard,hq.guard]
  refine⟨.bool (if op=.eql then r else !r),?_,by simp[Rd]⟩;rcases hop with rfl|rfl<;>simp[execOp,h,e1,f1,hg,binOp,au]
theorem cW{P:Program}(Γ:Ty P){o:Oper}{s:SS}{op:BinOp}{t yt:TypeId}{ti:TI}{x y:Operand}{p q:Bool}(h:o.op=.binOp op t x y yt)(hop:op=.eql\/op=.neq)(ht:Γ.get t=some ti)(hk:ti.k=.bool)(hx:ev s x=.val (.bool p))(hy:ev s y=.val (.bool q)):Good P o s ⟨.val (.bool (if op=.eql then p==q else p != q)),[],[]⟩ :=
 Good.pure λb a w _ jg _=>by
  have h1:=jg x (by simp[h,Op.operands]);have h2:=jg y (by simp[h,Op.operands]);rw[hx]at h1;rw[hy]at h2;obtain ⟨d,info,z,k1,k2,_⟩:=Γ.ok t ti ht;rw[hk]at k2;simp only[TK.ok]at k2;subst k2;have au:=run_equal_bool (P:=P) w t p q k1;refine⟨.bool (if op=.eql then p==q else p != q),?_,by simp[Rd]⟩;rcases hop with rfl|rfl<;>simp[execOp,h,h1.val,h2.val,eqGuard_at_bool,binOp,au,bne]
theorem Yi{P:Program}(w:World)(d:Nat){t e:TypeId}(h:P.underlying t=some (.pointer e))(p:Option Addr):(Op.equalIn (d+1) t (.pointer p) (.pointer none)).run P w=.ok p.isNone w:=by
 cases p<;>simp[Op.equalIn,run_underlying h]
theorem nP{P:Program}(Γ:Ty P){o:Oper}{s:SS}{op:BinOp}{t yt:TypeId}{ti:TI}{x y:Operand}(h:o.op=.binOp op t x y yt)(hop:op=.eql\/op=.neq)(ht:Γ.get t=some ti)(hk:ti.k=.ptr)(hy:ev s y=.val (.pointer none)){b:Bool}{rd:List Nat}(hx:(∃k off l,ev s x=.ptr k off/\s.h k=.box l/\rd=[k]/\b=false)\/(ev s x=.val (.pointer none)/\rd=[]/\b=true)):Good P o s ⟨.val (.bool (if op=.eql then b else !b)),rd,[]⟩ :=
 Good.pure λr a w _ jg ho=>by
  have h1:=jg x (by simp[h,Op.operands]);have h2:=jg y (by simp[h,Op.operands]);rw[hy]at h2;obtain ⟨d,info,z,k1,k2,_⟩:=Γ.ok t ti ht;rw[hk]at k2;simp only[TK.ok]at k2;obtain ⟨e,rfl⟩:=k2;have key:∃p:Option Addr,a.eval x=.pointer p/\p.isNone=b:=by
   rcases hx with ⟨k,off,l,hx,hl,rfl,rfl⟩|⟨hx,rfl,rfl⟩
   .have h3:=ho k y_;rw[hl]at h3;obtain ⟨bb,cs,T,fr,e1,_⟩:=h3;rw[hx]at h1;simp only[Rd,e1]at h1;exact⟨_,h1,E⟩
   .rw[hx]at h1;exact⟨none,h1.val,E⟩
  obtain ⟨p,e1,e2⟩:=key;have au:(Op.equal t (.pointer p) (.pointer none)).run P w=.ok b w:=by
   show (Op.equalIn (9999+1) t (.pointer p) (.pointer none)).run P w=.ok b w;rw[Yi w 9999 k1,e2]
  refine⟨.bool (if op=.eql then b else !b),?_,by simp[Rd]⟩;rcases hop with rfl|rfl<;>simp[execOp,h,e1,h2.val,eqGuard_at_pointer,binOp,au]
def fv(x:SV)(K:SV->Prop):Prop :=
 match x with
 | .val v=>(match v with
  | .int k n=>K (.val (.int k n))
  | .bool b=>K (.val (.bool b))
  | .string b=>K (.val (.string b))
  | v=>K (.val v))
 | .agg l=>K (.agg l)
 | .tup l=>K (.tup l)
 | .sl sz e l=>K (.sl sz e l)
 | .ref sz x o=>K (.ref sz x o)
 | .ptr k o=>K (.ptr k o)
 | .rpt k sz i o=>K (.rpt k sz i o)
 | .osl k=>K (.osl k)
 | .ifc t x=>K (.ifc t x)
 | .clo f g l=>K (.clo f g l)
 | .top=>K .top
theorem fY(x:SV)(K:SV->Prop):fv x K↔K x:=by
 unfold fv;split<;>first|rfl|(split<;>rfl)
def fl(l:List SV)(K:List SV->Prop):Prop :=
 match l with
 |[]=>K []
 |x::r=>fv x λx'=>fl r λr'=>K (x'::r')
theorem So:∀(l:List SV) (K:List SV->Prop),fl l K↔K l
 |[],K=>Iff.rfl
 |x::r,K=>by unfold fl;rw[fY,So r]
def fa(x:SV)(K:SV->Prop):Prop :=
 match x with
 | .agg l=>fl l λl=>K (.agg l)
 | .tup l=>fl l λl=>K (.tup l)
 |x=>fv x K
theorem A2k(x:SV)(K:SV->Prop):fa x K↔K x:=by
 unfold fa;split
 .exact So _ _
 .exact So _ _
 .exact fY _ _
def I64(x:Int):Prop:=-9223372036854775808<=x/\x<=9223372036854775807
theorem I64.wrap{x:Int}(h:I64 x):IntKind.i64.wrap x=x:=by
 obtain ⟨h1,h2⟩:=h;rw[IntKind.wrap_i64];omega
def A1u(op:BinOp)(k:IntKind)(a b:Int)(K:SV->Prop)(stop:Prop):Prop :=
 match op with
 | .add=>(match k with| .i64=>I64 (a+b)/\K (.val (.int .i64 (a+b)))|k=>K (.val (.int k (k.wrap (a+b)))))
 | .sub=>(match k with| .i64=>I64 (a-b)/\K (.val (.int .i64 (a-b)))|k=>K (.val (.int k (k.wrap (a-b)))))
 | .mul=>(match k with| .i64=>I64 (a*b)/\K (.val (.int .i64 (a*b)))|k=>K (.val (.int k (k.wrap (a*b)))))
 | .quo=>b≠0/\K (.val (.int k (k.wrap (a.tdiv b))))
 | .rem=>b≠0/\K (.val (.int k (a.tmod b)))
 | .and=>K (.val (.int k (bits .and k a b)))
 | .or=>K (.val (.int k (bits .or k a b)))
 | .xor=>K (.val (.int k (bits .xor k a b)))
 | .andNot=>K (.val (.int k (bits .andNot k a b)))
 | .lss=>K (.val (.bool (decide (a<b))))
 | .leq=>K (.val (.bool (decide (a<=b))))
 | .gtr=>K (.val (.bool (decide (a>b))))
 | .geq=>K (.val (.bool (decide (a>=b))))
 | .eql=>K (.val (.bool (a==b)))
 | .neq=>K (.val (.bool (a != b)))
 |_=>stop
def Ah1(op:BinOp)(k:IntKind)(a b:Int)(K:SV->Prop)(stop:Prop):Prop :=
 match op with
 | .shl=>0<=b/\K (.val (.int k (k.wrap (a*2^(min b.toNat k.bits)))))
 | .shr=>0<=b/\K (.val (.int k (a.fdiv (2^(min b.toNat k.bits)))))
 |_=>stop
def A41:BinOp->Bool| .shl=>true| .shr=>true|_=>false
def Aze(op:BinOp)(a b:ByteArray)(K:SV->Prop)(stop:Prop):Prop :=
 match op with
 | .add=>a.size+b.size<=9223372036854775807/\K (.val (.string (a++b)))
 | .eql=>K (.val (.bool (a==b)))
 | .neq=>K (.val (.bool (!(a==b))))
 | .lss=>K (.val (.bool (Op.bytesLess a.toList b.toList)))
 | .gtr=>K (.val (.bool (!(Op.bytesLess a.toList b.toList||a==b))))
 |_=>stop
structure TyE(P:Program) extends Ty P where
 eqs:TypeId->Option (List EK)
 eqok:∀t ks,eqs t=some ks->EqOK P t ks
def bnd(s:SS)(x:Option Operand)(d:Int)(K:Int->Prop)(stop:Prop):Prop :=
 match x with
 |none=>K d
 | some y=>(match ev s y with
  | .val (.int _ n)=>K n
  | _=>stop)
def Bw(b:ByteArray)(i:Nat):UInt8:=b.data.toList.getD i 0
def opW{P:Program}(Γ:TyE P)(o:Oper)(s:SS)(K:Up->Prop)(stop:Prop):Prop :=
 match o.op with
 | .move x=>fv (ev s x) λv=>K ⟨v,[],[]⟩
 | .assign x=>fv (ev s x) λv=>K ⟨v,[],[]⟩
 | .pick c a b=>(match ev s c with
  | .val (.bool c)=>(match c with
   |true=>fv (ev s a) λv=>K ⟨v,[],[]⟩
   | false=>fv (ev s b) λ v=>K ⟨v,[],[]⟩)
  | _=>stop)
 | .alloc t=>(match o.dst with
  | some d=>(match s.h d with
   | .fresh=>(match Γ.get t with
    | some i=>(match nC i.zero with
     |true=>fl (i.zero.map .val) λl=>K ⟨.ptr d 0,[],[(d,.box l)]⟩
     | false=>stop)
    | none=>stop)
   | _=>stop)
  | none=>stop)
 | .box _ x=>(match o.dst with
  | some d=>(match s.h d with
   | .fresh=>(match (ev s x).boxed with
    |true=>fl (cellsOf (ev s x)) λl=>K ⟨.ptr d 0,[],[(d,.box l)]⟩
    | false=>stop)
   | _=>stop)
  | none=>stop)
 | .load t x=>(match Γ.get t with
  | some i=>(match ev s x with
   | .ptr k off=>(match s.h k with
    | .box l=>(match O9 i l off with
     |some y=>fa y λy=>K ⟨y,[k],[]⟩
     | none=>stop)
    | _=>stop)
   | .ref _ z off=>(match z.boxed with
    | true=>(match O9 i (cellsOf z) off with
     |some y=>fa y λy=>K ⟨y,[],[]⟩
     | none=>stop)
    | false=>stop)
   | .rpt k sz n off=>(match s.h k with
    | .row d7 e l=>d7=sz/\∃ h:n<l.length,(match (e l[n]).boxed with
     | true=>(match O9 i (cellsOf (e l[n])) off with
      |some y=>fa y λy=>K ⟨y,[k],[]⟩
      | none=>False)
     | false=>False)
    | .lit d7 svs=>d7=sz/\(match Iu svs n with
     | some z=>(match z.boxed with
      | true=>(match O9 i (cellsOf z) off with
       |some y=>fa y λy=>K ⟨y,[k],[]⟩
       | none=>False)
      | false=>False)
     | none=>False)
    | _=>stop)
   | _=>stop)
  | none=>stop)
 | .store t x y=>(match Γ.get t with
  | some i=>(match ev s x with
   | .ptr k off=>(match s.h k with
    | .box l=>(match (ev s y).boxed && Nat.beq (cellsOf (ev s y)).length i.size && Nat.ble (off+i.size) l.length with
     |true=>fl (setAt l off (cellsOf (ev s y))) λl=>K ⟨.val undef,[],[(k,.box l)]⟩
     | false=>stop)
    | _=>stop)
   | .rpt k sz n off=>(match s.h k with
    | .row (α:=g) d7 e l=>d7=sz/\∃(h:n<l.length) (z:g),cellsOf (e z)=setAt (cellsOf (e l[n])) off (cellsOf (ev s y)) /\
      (((ev s y).boxed&&Nat.beq (cellsOf (ev s y)).length i.size&&Nat.ble (off+i.size) sz&&(e l[n]).boxed&&(e z).boxed&&(e z).data)=true)/\K ⟨.val undef,[],[(k,.row d7 e (l.set n z))]⟩
    | _=>stop)
   | _=>stop)
  | none=>stop)
 | .fieldAddr t x f=>(match Γ.get t with
  | some i=>(match i.k with
   | .struct fs=>(match fs[f]? with
    | some (fo,fn)=>(match fn with
     |0=>stop
     | _+1=>(match ev s x with
      | .ptr k off=>(match s.h k with
       | .box _=>K ⟨.ptr k (off+fo),[k],[]⟩
       | _=>stop)
      | .ref sz z off=>K ⟨.ref sz z (off+fo),[],[]⟩
      | .rpt k sz n off=>(match s.h k with
       | .row (α:=g) d7 e l=>l≠[]/\K ⟨.rpt k sz n (off+fo),[k],[]⟩
       | .lit _ _=>K ⟨.rpt k sz n (off+fo),[k],[]⟩
       | _=>stop)
      | _=>stop))
    | none=>stop)
   | _=>stop)
  | none=>stop)
 | .nilCheck x=>(match ev s x with
  | .ptr k off=>(match s.h k with
   | .box _=>K ⟨.ptr k off,[k],[]⟩
   | _=>stop)
  | .ref sz z off=>K ⟨.ref sz z off,[],[]⟩
  | .clo fn first cap=>(match fn with
   | .func f=>K ⟨.clo (.func f) first cap,[],[]⟩
   | _=>stop)
  | _=>stop)
 | .indexAddr t x y=>(match Γ.get t with
  | some i=>(match i.k with
   | .slice _ esz _ _=>(match ev s y with
    | .val (.int _ n)=>(match ev s x with
     | .sl sz e l=>esz=sz/\∃(_:0<=n) (h:n.toNat<l.length),K ⟨.ref sz (e l[n.toNat]) 0,[],[]⟩
     | .osl k=>(match (s.h k).len with
      |some len=>0<=n/\n.toNat<len/\K ⟨.rpt k esz n.toNat 0,[k],[]⟩
      | none=>stop)
     | _=>stop)
    | _=>stop)
   | .array _ len esz=>(match ev s y with
    | .val (.int _ n)=>(match ev s x with
     | .ptr k off=>(match s.h k with
      | .box _=>0<=n/\n.toNat<len/\K ⟨.ptr k (off+n.toNat*esz),[k],[]⟩
      | _=>stop)
     | .ref sz z off=>0<=n/\n.toNat<len/\K ⟨.ref sz z (off+n.toNat*esz),[],[]⟩
     | _=>stop)
    | _=>stop)
   | _=>stop)
  | none=>stop)
 | .binOp op t x y _=>(match ev s x,ev s y with
  | .val (.int k a),.val (.int k' b)=>(match A41 op with
   |true=>Ah1 op k a b (λv=>K ⟨v,[],[]⟩) stop
   | false=>if k=k' then A1u op k a b (λ v=>K ⟨v,[],[]⟩) stop else stop)
  | .val (.string a),.val (.string b)=>Aze op a b (λv=>K ⟨v,[],[]⟩) stop
  | .val (.bool p),.val (.bool q)=>(match Γ.get t with
   | some i=>(match i.k with
    | .bool=>(match op with
     | .eql=>K ⟨.val (.bool (p==q)),[],[]⟩
     | .neq=>K ⟨.val (.bool (p != q)),[],[]⟩
     | _=>stop)
    | _=>stop)
   | none=>stop)
  | .agg l,.agg m=>(match Γ.eqs t with
   | some ks=>(match eqS ks l m with
    | some r=>(match op with
     | .eql=>K ⟨.val (.bool r),[],[]⟩
     | .neq=>K ⟨.val (.bool (!r)),[],[]⟩
     | _=>stop)
    | none=>stop)
   | none=>stop)
  | .ptr k _,.val (.pointer none)=>(match s.h k with
   | .box _=>(match Γ.get t with
    | some i=>(match i.k with
     | .ptr=>(match op with
      | .eql=>K ⟨.val (.bool false),[k],[]⟩
      | .neq=>K ⟨.val (.bool true),[k],[]⟩
      | _=>stop)
     | _=>stop)
    | none=>stop)
   | _=>stop)
  | _,_=>stop)
 | .unOp op _ x=>(match op,ev s x with
  | .not,.val (.bool b)=>K ⟨.val (.bool (!b)),[],[]⟩
  | .neg,.val (.int k n)=>K ⟨.val (.int k (k.wrap (0-n))),[],[]⟩
  | _,_=>stop)
 | .extract x i=>(match ev s x with
  | .tup l=>(match Iu l i with
   |some y=>fa y λy=>K ⟨y,[],[]⟩
   | none=>stop)
  | _=>stop)
 | .convert src dst x=>(match Γ.get src,Γ.get dst with
  | some si,some di=>(match di.k,ev s x with
   | .int k',.val (.int _ n)=>K ⟨.val (.int k' (k'.wrap n)),[],[]⟩
   | .string,.val (.string b)=>(match si.k with
    | .string=>K ⟨.val (.string b),[],[]⟩
    | _=>stop)
   | _,_=>stop)
  | _,_=>stop)
 | .makeInterface t x=>(match Γ.get t with
  | some i=>(match i.k with
   | .iface=>stop
   | .other=>stop
   | .array _ _ _=>stop
   | _=>fv (ev s x) λ v=>K ⟨.ifc t v,[],[]⟩)
  | none=>stop)
 | .build t ps=>(match Γ.get t with
  | some i=>(match i.k with
   | .struct fs=>(match nC i.zero with
    | true=>(match Adb fs (i.zero.map .val) (ps.toList.map λ p=>(p.1,ev s p.2)) with
     |some out=>fl out λout=>K ⟨.agg out,[],[]⟩
     | none=>stop)
    | false=>stop)
   | _=>stop)
  | none=>stop)
 | .buildSlice t len ps=>(match o.dst with
  | some d=>(match s.h d with
   | .fresh=>(match Γ.get t with
    | some i=>(match i.k with
     | .slice _ sz _ _=>(match Ot 0 ps.toList with
      | some xs=>(match Nat.beq xs.length len && Nat.ble (len * sz) 16777216 && Af7 sz (xs.map (ev s)) with
       |true=>fl (xs.map (ev s)) λsvs=>K ⟨.osl d,[],[(d,.lit sz svs)]⟩
       | false=>stop)
      | none=>stop)
     | _=>stop)
    | none=>stop)
   | _=>stop)
  | none=>stop)
 | .index t x y=>(match Γ.get t with
  | some i=>(match i.k with
   | .string=>(match ev s x with
    | .val (.string b)=>(match ev s y with
     | .val (.int _ n)=>0<=n/\n.toNat<b.size/\K ⟨.val (.int .u8 (Bw b n.toNat).toNat),[],[]⟩
     | _=>stop)
    | _=>stop)
   | _=>stop)
  | none=>stop)
 | .slice t x lo hi mx=>(match mx with
  | none=>(match Γ.get t with
   | some i=>(match i.k with
    | .string=>(match ev s x with
     | .val (.string b)=>bnd s lo 0 (λl=>bnd s hi b.size (λh=>(0<=l/\l<=h/\h<=b.size)/\K ⟨.val (.string (b.extract l.toNat h.toNat)),[],[]⟩) stop) stop
     | _=>stop)
    | _=>stop)
   | none=>stop)
  | some _=>stop)
 | .makeFunc fn first cap=>fl (first.toList.map (ev s)) λf=>fl (cap.toList.map (ev s)) λl=>K ⟨.clo fn f l,[],[]⟩
 | .call c=>(match c.callee with
  | .builtin .len=>(match c.args.toList,c.argTypes.toList with
   | [x],t::_=>(match Γ.get t with
    | some i=>(match i.k with
     | .slice _ _ _ _=>(match ev s x with
      | .sl _ _ l=>K ⟨.val (.int .i64 l.length),[],[]⟩
      | .osl k=>(match (s.h k).len with
       |some n=>K ⟨.val (.int .i64 n),[k],[]⟩
       | none=>stop)
      | .val (.slice _ n _)=>K ⟨.val (.int .i64 n),[],[]⟩
      | _=>stop)
     | .string=>(match ev s x with
      | .val (.string b)=>K ⟨.val (.int .i64 b.size),[],[]⟩
      | _=>stop)
     | _=>stop)
    | none=>stop)
   | _,_=>stop)
  | _=>stop)
 |_=>stop
theorem A1t{P:Program}{o:Oper}{s:SS}{op:BinOp}{t yt:TypeId}{x y:Operand}{k:IntKind}{m n:Int}{K:Up->Prop}{stop:Prop}(h:o.op=.binOp op t x y yt)(hx:ev s x=.val (.int k m))(hy:ev s y=.val (.int k n))(hw:A1u op k m n (λv=>K ⟨v,[],[]⟩) stop):(∃U,Good P o s U/\K U)\/stop:=by
 have mk:∀u:Value,(∀w,(binOp op t (.int k m) (.int k n)).run P w=.ok u w)->K ⟨.val u,[],[]⟩->(∃U,Good P o s U/\K U)\/stop:=λu hu hk=>.inl ⟨_,A2c h hx hy hu,hk⟩
 unfold A1u at hw;split at hw
 .split at hw
  .exact mk _ (λw=>by simp[binOp_add,Op.intArith,hw.1.wrap]) hw.2
  .exact mk _ (λw=>by simp[binOp_add,Op.intArith]) hw
 .split at hw
  .exact mk _ (λw=>by simp[binOp_sub,Op.intArith,hw.1.wrap]) hw.2
  .exact mk _ (λw=>by simp[binOp_sub,Op.intArith]) hw
 .split at hw
  .exact mk _ (λw=>by simp[binOp_mul,Op.intArith,hw.1.wrap]) hw.2
  .exact mk _ (λw=>by simp[binOp_mul,Op.intArith]) hw
 .exact mk _ (λw=>by simp[binOp_quo,Op.intDiv,hw.1]) hw.2
 .exact mk _ (λw=>by simp[binOp_rem,Op.intDiv,hw.1]) hw.2
 .exact mk _ (λw=>by simp[binOp_and,intBits_and]) hw
 .exact mk _ (λw=>by simp[binOp_or,intBits_or]) hw
 .exact mk _ (λw=>by simp[binOp_xor,intBits_xor]) hw
 .exact mk _ (λw=>by simp[binOp_andNot,intBits_andNot]) hw
 .exact mk _ (λw=>by simp[binOp_lss]) hw
 .exact mk _ (λw=>by simp[binOp_leq]) hw
 .exact mk _ (λw=>by simp[binOp_gtr]) hw
 .exact mk _ (λw=>by simp[binOp_geq]) hw
 .exact mk _ (λw=>by simp[binOp_eql]) hw
 .exact mk _ (λw=>by simp[binOp_neq]) hw
 .exact .inr hw
theorem Ac0{P:Program}{o:Oper}{s:SS}{op:BinOp}{t yt:TypeId}{x y:Operand}{k k':IntKind}{m n:Int}{u:Value}(h:o.op=.binOp op t x y yt)(hx:ev s x=.val (.int k m))(hy:ev s y=.val (.int k' n))(hr:∀w,(binOp op t (.int k m) (.int k' n)).run P w=.ok u w):Good P o s ⟨.val u,[],[]⟩ :=
 Good.pure λb a w _ jg _=>by
  have h1:=jg x (by simp[h,Op.operands]);have h2:=jg y (by simp[h,Op.operands]);rw[hx]at h1;rw[hy]at h2;refine⟨u,?_,by simp[Rd]⟩;simp[execOp,h,h1.val,h2.val,eqGuard_at_int,hr]
theorem Apu{P:Program}{o:Oper}{s:SS}{op:BinOp}{t yt:TypeId}{x y:Operand}{k k':IntKind}{m n:Int}{K:Up->Prop}{stop:Prop}(h:o.op=.binOp op t x y yt)(hx:ev s x=.val (.int k m))(hy:ev s y=.val (.int k' n))(hw:Ah1 op k m n (λv=>K ⟨v,[],[]⟩) stop):(∃U,Good P o s U/\K U)\/stop:=by
 unfold Ah1 at hw;split at hw
 .have hn:¬n<0:=by omega
  exact .inl ⟨_,Ac0 (u:=.int k (k.wrap (m*2^(min n.toNat k.bits)))) h hx hy (λw=>by simp[binOp_shl,Op.shift,hn]),hw.2⟩
 .have hn:¬n<0:=by omega
  exact .inl ⟨_,Ac0 (u:=.int k (m.fdiv (2^(min n.toNat k.bits)))) h hx hy (λw=>by simp[binOp_shr,Op.shift,hn]),hw.2⟩
 .exact .inr hw
theorem Azd{P:Program}{o:Oper}{s:SS}{op:BinOp}{t yt:TypeId}{x y:Operand}{m n:ByteArray}{K:Up->Prop}{stop:Prop}(h:o.op=.binOp op t x y yt)(hx:ev s x=.val (.string m))(hy:ev s y=.val (.string n))(hw:Aze op m n (λv=>K ⟨v,[],[]⟩) stop):(∃U,Good P o s U/\K U)\/stop:=by
 unfold Aze at hw;split at hw
 .have hn:¬(9223372036854775807<((m.size+n.size:Nat):Int)):=by omega
  refine .inl ⟨_,Ml (u:=.string (m++n)) h y_ hx hy (λw=>?_),hw.2⟩;simp only[Op.stringOp,IntKind.max_i64];rw[zD hn];rfl
 .exact .inl ⟨_,Ml (u:=.bool (m==n)) h y_ hx hy (λw=>by simp[Op.stringOp,beq_toListBytes]),hw⟩
 .exact .inl ⟨_,Ml (u:=.bool (!(m==n))) h y_ hx hy (λw=>by simp[Op.stringOp,beq_toListBytes]),hw⟩
 .exact .inl ⟨_,Ml (u:=.bool (Op.bytesLess m.toList n.toList)) h y_ hx hy (λw=>by simp[Op.stringOp]),hw⟩
 .exact .inl ⟨_,Ml (u:=.bool (!(Op.bytesLess m.toList n.toList||m==n))) h y_ hx hy (λw=>by simp[Op.stringOp,beq_toListBytes]),hw⟩
 .exact .inr hw
theorem dZ{P:Program}(Γ:Ty P){t:TypeId}{ti:TI}{e:TypeId}{len esz:Nat}(ht:Γ.get t=some ti)(hk:ti.k=.array e len esz):P.underlying t=some (.array len e)/\∃i,P.info? e=some i/\i.size=esz:=by
 obtain ⟨d,info,z,k1,k2,k3,k4,k5,k6⟩:=Γ.ok t ti ht;rw[hk]at k2;simp only[TK.ok]at k2;obtain ⟨rfl,k2⟩:=k2;exact⟨k1,k2⟩
theorem bH{P:Program}{t et:TypeId}{len esz:Nat}{i:TypeInfo}{ik:IntKind}{n:Int}{b o:Nat}(w:World)(hu:P.underlying t=some (.array len et))(hq:P.info? et=some i)(hi:i.size=esz)(h0:0<=n)(hn:n.toNat<len):(Instr.indexAt t (.pointer (some ⟨b,o,none⟩)) (.int ik n)).run P w=.ok (.pointer (some ⟨b,o+n.toNat*esz,none⟩)) w:=by
 have ab:n<len:=by omega
 simp[Instr.indexAt,asIntOf,run_underlying hu,Instr.sureAddr,h0,ab,sizeOf,typeInfo,hq,hi,Addr.add_lit]
theorem Jn{P:Program}(Γ:Ty P){o:Oper}{s:SS}{t:TypeId}{ti:TI}{et:TypeId}{len esz k off:Nat}{x y:Operand}{ik:IntKind}{n:Int}{l:List SV}(h:o.op=.indexAddr t x y)(ht:Γ.get t=some ti)(hk:ti.k=.array et len esz)(hx:ev s x=.ptr k off)(hb:s.h k=.box l)(hy:ev s y=.val (.int ik n))(h0:0<=n)(hn:n.toNat<len):Good P o s ⟨.ptr k (off+n.toNat*esz),[k],[]⟩ :=
 Good.pure λr a w _ hr ho=>by
  have h1:=hr x (by simp[h,Op.operands]);have h2:=hr y (by simp[h,Op.operands]);have h3:=ho k y_;rw[hb]at h3;obtain ⟨b,cs,T,fr,e1,_⟩:=h3;rw[hx]at h1;rw[hy]at h2;simp only[Rd,e1]at h1;obtain ⟨hu,i,q1,q2⟩:=dZ Γ ht hk;refine⟨.pointer (some ⟨b,off+n.toNat*esz,none⟩),?_,by simp only[Rd,e1]⟩;simp only[execOp,h,h1,h2.val];simp[bH w hu q1 q2 h0 hn]
theorem Jm{P:Program}(Γ:Ty P){o:Oper}{s:SS}{t:TypeId}{ti:TI}{et:TypeId}{len esz sz off:Nat}{x y:Operand}{ik:IntKind}{n:Int}{z:SV}(h:o.op=.indexAddr t x y)(ht:Γ.get t=some ti)(hk:ti.k=.array et len esz)(hx:ev s x=.ref sz z off)(hy:ev s y=.val (.int ik n))(h0:0<=n)(hn:n.toNat<len):Good P o s ⟨.ref sz z (off+n.toNat*esz),[],[]⟩ :=
 Good.pure λr a w _ hr _=>by
  have h1:=hr x (by simp[h,Op.operands]);have h2:=hr y (by simp[h,Op.operands]);rw[hx]at h1;rw[hy]at h2;simp only[Rd,RdD]at h1;obtain ⟨b,oo,u,e1,e2,e3,e4,e5⟩:=h1;obtain ⟨hu,i,q1,q2⟩:=dZ Γ ht hk;refine⟨.pointer (some ⟨b,oo+off+n.toNat*esz,none⟩),?_,?_⟩
  .simp only[execOp,h,e1,h2.val];simp[bH w hu q1 q2 h0 hn]
  .simp only[Rd,RdD];exact⟨b,oo,u,by rw[uG],e2,e3,e4,e5⟩
theorem cV{P:Program}(Γ:Ty P){o:Oper}{s:SS}{t:TypeId}{ti:TI}{x y:Operand}{ik:IntKind}{n:Int}{b:ByteArray}(h:o.op=.index t x y)(ht:Γ.get t=some ti)(hk:ti.k=.string)(hx:ev s x=.val (.string b))(hy:ev s y=.val (.int ik n))(h0:0<=n)(hn:n.toNat<b.size):Good P o s ⟨.val (.int .u8 (Bw b n.toNat).toNat),[],[]⟩ :=
 Good.pure λr a w _ hr _=>by
  have h1:=hr x (by simp[h,Op.operands]);have h2:=hr y (by simp[h,Op.operands]);rw[hx]at h1;rw[hy]at h2;obtain ⟨d,info,z,k1,k2,k3,k4,k5,k6⟩:=Γ.ok t ti ht;rw[hk]at k2;simp only[TK.ok]at k2;subst k2;have hg:b[n.toNat]? = some (Bw b n.toNat):=by
   have mg:n.toNat<b.data.toList.length:=hn;rw[getElem?_pos b n.toNat hn];simp only[Bw,wJ,zR mg,Option.getD_some,Option.some.injEq];rfl
  refine⟨.int .u8 (Bw b n.toNat).toNat,?_,by simp only[Rd]⟩;simp[execOp,h,h1.val,h2.val,Instr.index,run_underlying k1,asIntOf,h0,hg]
def BndAt(s:SS)(x:Option Operand)(d n:Int):Prop:=(x=none/\n=d)\/∃y k,x=some y/\ev s y=.val (.int k n)
theorem A24{s:SS}{x:Option Operand}{d:Int}{K:Int->Prop}{stop:Prop}(h:bnd s x d K stop):(∃n,BndAt s x d n/\K n)\/stop:=by
 unfold bnd at h;split at h
 .exact .inl ⟨d,.inl ⟨E,E⟩,h⟩
 .split at h
  .rename_i y _ k n hy;exact .inl ⟨n,.inr ⟨y,k,E,hy⟩,h⟩
  .exact .inr h
theorem BndAt.is{s:SS}{x:Option Operand}{d n:Int}{m:Nat}(h:BndAt s x d n)(h0:0<=n)(hd:d.toNat=m):BoundIs s x m n.toNat:=by
 rcases h with ⟨rfl,rfl⟩|⟨y,k,rfl,hy⟩
 .exact .inl ⟨E,hd⟩
 .exact .inr ⟨y,k,E,by rw[hy,yR h0]⟩
theorem A0l{P:Program}{Γ:TyE P}{o:Oper}{s:SS}{K:Up->Prop}{stop:Prop}(h:opW Γ o s K stop):(∃U,Good P o s U/\K U)\/stop:=by
 cases hop:o.op with
 |move x=>
  simp only[opW,hop,fY]at h;exact .inl ⟨_,Ago (.inl hop),h⟩
 |assign x=>
  simp only[opW,hop,fY]at h;exact .inl ⟨_,Ago (.inr hop),h⟩
 |pick c a b=>
  simp only[opW,hop,fY]at h;split at h
  .rename_i cc hc;cases cc
   .exact .inl ⟨_,Agn hop hc,h⟩
   .exact .inl ⟨_,Agn hop hc,h⟩
  .exact .inr h
 |alloc t=>
  simp only[opW,hop,So]at h;split at h
  .rename_i d hd;split at h
   .rename_i hf;split at h
    .rename_i i hi;split at h
     .rename_i h1;exact .inl ⟨_,Arp Γ.toTy hop hf hi h1,h⟩
     .exact .inr h
    .exact .inr h
   .exact .inr h
  .exact .inr h
 |box t x=>
  simp only[opW,hop,So]at h;split at h
  .rename_i d hd;split at h
   .rename_i hf;split at h
    .rename_i h1;exact .inl ⟨_,cY hop hf h1,h⟩
    .exact .inr h
   .exact .inr h
  .exact .inr h
 |load t x=>
  simp only[opW,hop,A2k]at h;split at h
  .rename_i i hi;split at h
   .rename_i k off hx;split at h
    .rename_i l hk;split at h
     .rename_i y hy;exact .inl ⟨_,Ae7 Γ.toTy hop hx hi hk hy,h⟩
     .exact .inr h
    .exact .inr h
   .rename_i sz z off hx;split at h
    .rename_i hz;split at h
     .rename_i y hy;exact .inl ⟨_,Ae6 Γ.toTy hop hx hi hz hy,h⟩
     .exact .inr h
    .exact .inr h
   .rename_i k sz n off hx;split at h
    .rename_i d7 j e l hk;obtain ⟨rfl,hn,h⟩:=h;split at h
     .rename_i hz;split at h
      .rename_i y hy;have af:l≠[]:=by intro he;subst he;simp at hn
       refine .inl ⟨_,Y9 (n:=l.length) (f:=rowF e l) Γ.toTy hop hx hi (λg w ho=>?_) ⟨hn,E⟩ hz hy,h⟩;rw[hk]at ho;exact ho.rowAt af
      .exact h.elim
     .exact h.elim
    .rename_i d7 svs hk;obtain ⟨rfl,h⟩:=h;split at h
     .rename_i z bw;split at h
      .rename_i hz;split at h
       .rename_i y hy;refine .inl ⟨_,Y9 (n:=svs.length) (f:=Aex svs) Γ.toTy hop hx hi (λg w ho=>?_) bw hz hy,h⟩;rw[hk]at ho;exact ho
       .exact h.elim
      .exact h.elim
     .exact h.elim
    .exact .inr h
   .exact .inr h
  .exact .inr h
 |store t x y=>
  simp only[opW,hop,So]at h;split at h
  .rename_i i hi;split at h
   .rename_i k off hx;split at h
    .rename_i l hk;split at h
     .rename_i hc;simp only[zG]at hc;exact .inl ⟨_,Ws Γ.toTy hop hx hi hk hc.1.1 (yK hc.1.2) (wC hc.2),h⟩
     .exact .inr h
    .exact .inr h
   .rename_i k sz n off hx;split at h
    .rename_i d7 j e l hk;obtain ⟨rfl,hn,z,hz,hc,h⟩:=h;simp only[zG]at hc;obtain ⟨⟨⟨⟨⟨c1,c2⟩,c3⟩,c4⟩,c5⟩,c6⟩:=hc;exact .inl ⟨_,Wr Γ.toTy hop hx hi hk c1 (yK c2) (wC c3) hn hz c4 c5 c6,h⟩
    .exact .inr h
   .exact .inr h
  .exact .inr h
 |fieldAddr t x f=>
  simp only[opW,hop]at h;split at h
  .rename_i i hi;split at h
   .rename_i fs hk;split at h
    .rename_i fo fn hf;split at h
     .exact .inr h
     .rename_i fn';split at h
      .rename_i k off hx;split at h
       .rename_i l hb;exact .inl ⟨_,Lj Γ.toTy hop hi hk hf q_ (.inl ⟨k,off,l,hx,hb,E,E⟩),h⟩
       .exact .inr h
      .rename_i sz z off hx;exact .inl ⟨_,Lj Γ.toTy hop hi hk hf q_ (.inr (.inl ⟨sz,z,off,hx,E,E⟩)),h⟩
      .rename_i k sz n off hx;split at h
       .rename_i d7 j e l hb;obtain ⟨af,h⟩:=h;refine .inl ⟨_,Lj Γ.toTy hop hi hk hf q_ (.inr (.inr ⟨k,sz,n,off,hx,λg w ho=>?_,E,E⟩)),h⟩;rw[hb]at ho;obtain ⟨b,cap,_,_,_,e1,_⟩:=ho.rowAt af;exact⟨b,_,cap,e1⟩
       .rename_i d7 svs hb;refine .inl ⟨_,Lj Γ.toTy hop hi hk hf q_ (.inr (.inr ⟨k,sz,n,off,hx,λg w ho=>?_,E,E⟩)),h⟩;rw[hb]at ho;obtain ⟨b,cap,_,_,_,e1,_⟩:=ho;exact⟨b,_,cap,e1⟩
       .exact .inr h
      .exact .inr h
    .exact .inr h
   .exact .inr h
  .exact .inr h
 |nilCheck x=>
  simp only[opW,hop]at h;split at h
  .rename_i k off hx;split at h
   .rename_i l hb;have:=Hd (P:=P) (rd:=[k]) hop (.inl ⟨k,off,l,hx,hb,rfl⟩);rw[hx]at this;exact .inl ⟨_,this,h⟩
   .exact .inr h
  .rename_i sz z off hx;have:=Hd (P:=P) (rd:=[]) hop (.inr (.inl ⟨sz,z,off,hx,rfl⟩));rw[hx]at this;exact .inl ⟨_,this,h⟩
  .rename_i fn first cap hx
   split at h
   .rename_i f;have:=Hd (P:=P) (rd:=[]) hop (.inr (.inr (.inl ⟨f,first,cap,hx,rfl⟩)));rw[hx]at this;exact .inl ⟨_,this,h⟩
   .exact .inr h
  .exact .inr h
 |indexAddr t x y=>
  simp only[opW,hop]at h;split at h
  .rename_i i hi;split at h
   .rename_i et esz eb ez hk;split at h
    .rename_i ik n hy;split at h
     .rename_i sz j e l hx;obtain ⟨rfl,h0,hn,h⟩:=h;exact .inl ⟨_,Li Γ.toTy hop hi hk hx hy h0 hn,h⟩
     .rename_i k hx;split at h
      .rename_i len hl;exact .inl ⟨_,Ke Γ.toTy hop hi hk hx hl hy h.1 h.2.1,h.2.2⟩
      .exact .inr h
     .exact .inr h
    .exact .inr h
   .rename_i et len esz hk;split at h
    .rename_i ik n hy;split at h
     .rename_i k off hx;split at h
      .rename_i l hl;exact .inl ⟨_,Jn Γ.toTy hop hi hk hx hl hy h.1 h.2.1,h.2.2⟩
      .exact .inr h
     .rename_i sz z off hx;exact .inl ⟨_,Jm Γ.toTy hop hi hk hx hy h.1 h.2.1,h.2.2⟩
     .exact .inr h
    .exact .inr h
   .exact .inr h
  .exact .inr h
 |binOp op t x y yt=>
  simp only[opW,hop]at h;split at h
  .rename_i k a k' b hx hy;split at h
   .exact Apu hop hx hy h
   .split at h
    .rename_i pc;subst pc;exact A1t hop hx hy h
    .exact .inr h
  .rename_i a b hx hy;exact Azd hop hx hy h
  .rename_i p q hx hy;split at h
   .rename_i i hi;split at h
    .rename_i hk;split at h
     .exact .inl ⟨_,cW Γ.toTy hop (.inl E) hi hk hx hy,h⟩
     .exact .inl ⟨_,cW Γ.toTy hop (.inr E) hi hk hx hy,h⟩
     .exact .inr h
    .exact .inr h
   .exact .inr h
  .rename_i l m hx hy;split at h
   .rename_i ks hks;split at h
    .rename_i r hr;split at h
     .exact .inl ⟨_,nQ hop (.inl E) (Γ.eqok t ks hks) hx hy hr,h⟩
     .exact .inl ⟨_,nQ hop (.inr E) (Γ.eqok t ks hks) hx hy hr,h⟩
     .exact .inr h
    .exact .inr h
   .exact .inr h
  .rename_i k off hx hy;split at h
   .rename_i l hb;split at h
    .rename_i i hi;split at h
     .rename_i hk;split at h
      .exact .inl ⟨_,nP Γ.toTy hop (.inl E) hi hk hy (.inl ⟨k,off,l,hx,hb,E,E⟩),h⟩
      .exact .inl ⟨_,nP Γ.toTy hop (.inr E) hi hk hy (.inl ⟨k,off,l,hx,hb,E,E⟩),h⟩
      .exact .inr h
     .exact .inr h
    .exact .inr h
   .exact .inr h
  .exact .inr h
 |unOp op t x=>
  simp only[opW,hop]at h;split at h
  .rename_i b hx;exact .inl ⟨_,A19 hop hx,h⟩
  .rename_i k n hx;exact .inl ⟨_,A2a hop hx,h⟩
  .exact .inr h
 |extract x i=>
  simp only[opW,hop,A2k]at h;split at h
  .rename_i l hx;split at h
   .rename_i y hy;exact .inl ⟨_,Ai2 hop hx hy,h⟩
   .exact .inr h
  .exact .inr h
 |convert src dst x=>
  simp only[opW,hop]at h;split at h
  .rename_i si di hs hd;split at h
   .rename_i k' k n hk hx;exact .inl ⟨_,fV Γ.toTy hop hs hd hk hx,h⟩
   .rename_i b hk hx;split at h
    .rename_i kr;exact .inl ⟨_,Yl Γ.toTy hop hs hd kr hk hx,h⟩
    .exact .inr h
   .exact .inr h
  .exact .inr h
 |makeInterface t x=>
  simp only[opW,hop,fY]at h;split at h
  .rename_i i hi;split at h
   .exact .inr h
   .exact .inr h
   .exact .inr h
   .rename_i h1 h2 h3;refine .inl ⟨_,Z8 Γ.toTy hop hi ?_,h⟩;cases hk:i.k<;>first|rfl|(exact yA hk h1)|(exact yA hk h2)|(exact yA hk (h3 _ _ _))
  .exact .inr h
 |build t ps=>
  simp only[opW,hop,So]at h;split at h
  .rename_i i hi;split at h
   .rename_i fs hk;split at h
    .rename_i h1;split at h
     .rename_i out lh;exact .inl ⟨_,Aro (ps:=ps.toList) Γ.toTy (by rw[hop]) hi hk h1 lh,h⟩
     .exact .inr h
    .exact .inr h
   .exact .inr h
  .exact .inr h
 |buildSlice t len ps=>
  simp only[opW,hop,So]at h;split at h
  .rename_i d hd;split at h
   .rename_i hf;split at h
    .rename_i i hi;split at h
     .rename_i et sz eb ez hk;split at h
      .rename_i xs rp;split at h
       .rename_i hc;simp only[zG]at hc;exact .inl ⟨_,oX (ps:=ps.toList) Γ.toTy (by rw[hop]) hf hi hk rp (yK hc.1.1) (wC hc.1.2) hc.2,h⟩
       .exact .inr h
      .exact .inr h
     .exact .inr h
    .exact .inr h
   .exact .inr h
  .exact .inr h
 |index t x y=>
  simp only[opW,hop]at h;split at h
  .rename_i i hi;split at h
   .rename_i hk;split at h
    .rename_i b hx;split at h
     .rename_i ik n hy;exact .inl ⟨_,cV Γ.toTy hop hi hk hx hy h.1 h.2.1,h.2.2⟩
     .exact .inr h
    .exact .inr h
   .exact .inr h
  .exact .inr h
 |slice t x lo hi mx=>
  simp only[opW,hop]at h;split at h
  .split at h
   .rename_i i hi';split at h
    .rename_i hk;split at h
     .rename_i b hx;rcases A24 h with ⟨l,hl,h⟩|h
      .rcases A24 h with ⟨r,hr,h⟩|h
       .obtain ⟨⟨a1,a2,a3⟩,h⟩:=h;exact .inl ⟨_,cR (lo:=l.toNat) (hi:=r.toNat) Γ.toTy hop hi' hk hx (hl.is a1 E) (hr.is q_ y_) q_ q_,h⟩
       .exact .inr h
      .exact .inr h
     .exact .inr h
    .exact .inr h
   .exact .inr h
  .exact .inr h
 |makeFunc fn first cap=>
  simp only[opW,hop,So]at h;exact .inl ⟨_,Ae5 (ys:=first.toList) (xs:=cap.toList) (by rw[hop]),h⟩
 |call c=>
  simp only[opW,hop]at h;split at h
  .rename_i zy;split at h
   .rename_i x t r vh hats;have hc:c=⟨.builtin .len,#[x],c.argTypes⟩:=by
     obtain ⟨a,b,d⟩:=c;simp only at zy vh|-;have:b=#[x]:=by
      apply Array.ext';simpa using vh
     rw[zy,this]
    rw[hc]at hop;have gy:c.argTypes[0]? = some t:=by
     rw[<-vY,hats];rfl
    split at h
    .rename_i i hi;split at h
     .rename_i et sz eb ez hk;split at h
      .rename_i z j e l hx;exact .inl ⟨_,Ac1 Γ.toTy hop gy hi hk (.inl ⟨z,j,e,l,hx,E,E⟩),h⟩
      .rename_i k hx;split at h
       .rename_i n hn;exact .inl ⟨_,Ac1 Γ.toTy hop gy hi hk (.inr (.inl ⟨k,hx,hn,E⟩)),h⟩
       .exact .inr h
      .rename_i a n cap hx;exact .inl ⟨_,Ac1 Γ.toTy hop gy hi hk (.inr (.inr ⟨a,cap,hx,E⟩)),h⟩
      .exact .inr h
     .rename_i hk;split at h
      .rename_i b hx;exact .inl ⟨_,oW Γ.toTy hop gy hi hk hx,h⟩
      .exact .inr h
     .exact .inr h
    .exact .inr h
   .exact .inr h
  .exact .inr h
 |_=>simp only[opW,hop]at h;exact .inr h
theorem A4m{P:Program}{Γ:TyE P}{o:Oper}{s:SS}{K:Up->Prop}{stop:Prop}(h:opW Γ o s K stop):(∃U,GoodX P o s U/\K U)\/stop:=by
 have hgen:(Km o||Tf o)=false->(∃U,GoodX P o s U/\K U)\/stop:=λhn=>by
  rcases A0l h with ⟨U,hU,hk⟩|h
  .exact .inl ⟨U,.of hU hn,hk⟩
  .exact .inr h
 cases hop:o.op with
 |indexAddr t x y=>
  have br:Tf o=false:=by simp[Tf,hop]
  have hops:x∈o.op.operands/\y∈o.op.operands:=by simp[hop,Op.operands]
  simp only[opW,hop]at h;split at h
  .rename_i i hi;split at h
   .rename_i et esz eb ez hk;split at h
    .rename_i ik n hy;split at h
     .rename_i sz a e l hx;obtain ⟨rfl,h0,hn,h⟩:=h;exact .inl ⟨_,⟨(Li Γ.toTy hop hi hk hx hy h0 hn).two,λ_=>⟨rfl,λs' h1 h2=>Li Γ.toTy hop hi hk ((h1 x hops.1).trans hx) ((h1 y hops.2).trans hy) h0 hn⟩,λhc=>(by rw[br]at hc;cases hc)⟩,h⟩
     .rename_i k hx;split at h
      .rename_i len hl;exact .inl ⟨_,⟨(Ke Γ.toTy hop hi hk hx hl hy h.1 h.2.1).two,λ_=>⟨rfl,λs' h1 h2=>Ke Γ.toTy hop hi hk ((h1 x hops.1).trans hx) (Ob.shp_len (h2 k y_) hl) ((h1 y hops.2).trans hy) h.1 h.2.1⟩,λhc=>(by rw[br]at hc;cases hc)⟩,h.2.2⟩
      .exact .inr h
     .exact .inr h
    .exact .inr h
   .rename_i et len esz hk;split at h
    .rename_i ik n hy;split at h
     .rename_i k off hx;split at h
      .rename_i l hl;exact .inl ⟨_,⟨(Jn Γ.toTy hop hi hk hx hl hy h.1 h.2.1).two,λ_=>⟨rfl,λs' h1 h2=>(Ob.shp_box ((h2 k y_).trans (zH Ob.shp hl))).elim λm hm=>Jn Γ.toTy hop hi hk ((h1 x hops.1).trans hx) hm ((h1 y hops.2).trans hy) h.1 h.2.1⟩,λhc=>(by rw[br]at hc;cases hc)⟩,h.2.2⟩
      .exact .inr h
     .rename_i sz z off hx;exact .inl ⟨_,⟨(Jm Γ.toTy hop hi hk hx hy h.1 h.2.1).two,λ_=>⟨rfl,λs' h1 h2=>Jm Γ.toTy hop hi hk ((h1 x hops.1).trans hx) ((h1 y hops.2).trans hy) h.1 h.2.1⟩,λhc=>(by rw[br]at hc;cases hc)⟩,h.2.2⟩
     .exact .inr h
    .exact .inr h
   .exact .inr h
  .exact .inr h
 |store t x y=>
  have s9:Km o=false:=by simp[Km,hop]
  simp only[opW,hop,So]at h;split at h
  .rename_i i hi;split at h
   .rename_i k off hx;split at h
    .rename_i l hk;split at h
     .rename_i hc;simp only[zG]at hc;exact .inl ⟨_,⟨(Ws Γ.toTy hop hx hi hk hc.1.1 (yK hc.1.2) (wC hc.2)).two,λ hc=>(by rw[s9]at hc;cases hc),λ _ p hp=>by
       simp only[zX]at hp;subst hp;show (Ob.box _).shp=(s.h k).shp;rw[hk];rfl⟩,h⟩
     .exact .inr h
    .exact .inr h
   .rename_i k sz n off hx;split at h
    .rename_i d7 a e l hk;obtain ⟨rfl,hn,z,hz,hc,h⟩:=h;simp only[zG]at hc;obtain ⟨⟨⟨⟨⟨c1,c2⟩,c3⟩,c4⟩,c5⟩,c6⟩:=hc;exact .inl ⟨_,⟨(Wr Γ.toTy hop hx hi hk c1 (yK c2) (wC c3) hn hz c4 c5 c6).two,λ hc=>(by rw[s9]at hc;cases hc),λ _ p hp=>by
      simp only[zX]at hp;subst hp;show (Ob.row _ _ _).shp=(s.h k).shp;rw[hk];simp[Ob.shp]⟩,h⟩
    .exact .inr h
   .exact .inr h
  .exact .inr h
 |_=>exact hgen (by simp[Km,Tf,hop])
def Acy(idx:Nat):List Oper->Bool
 |[]=>false
 | o::r=>(match o.guard with
  |some (j,_)=>Nat.beq j idx
  | none=>false) || Acy idx r
def A48(isg:Bool)(U:Up)(K K':Up->Prop):Prop :=
 match isg with
 |false=>K U
 | true=>(match U.v with
  | .val (.bool b)=>(b=true->K' ⟨.val (.bool true),U.rd,U.objs⟩)/\(b=false->K' ⟨.val (.bool false),U.rd,U.objs⟩)
  | _=>K U)
theorem Aty{X:Up->Prop}{isg:Bool}{U:Up}{K K':Up->Prop}(hK:∀U,K U->K' U)(hg:X U)(h:A48 isg U K K'):∃U',X U'/\K' U':=by
 unfold A48 at h;split at h
 .exact⟨U,hg,hK _ h⟩
 .split at h
  .rename_i b hb;obtain ⟨v,rd,objs⟩:=U;simp only at hb;subst hb;cases b
   .exact⟨_,hg,h.2 E⟩
   .exact⟨_,hg,h.1 E⟩
  .exact⟨U,hg,hK _ h⟩
def E3(n:Nat)(all:Array Oper)(o:Oper)(s:SS):Option Bool :=
 match o.guard with
 |none=>some true
 | some (j,want)=>(match (all[j]?).bind (·.dst) with
  | some d=>(match Nat.blt d n with
   | true=>(match s.σ d with
    | .val (.bool c)=>(match c with
     |true=>some want
     | false=>(match want with | true=>some false | false=>some true))
    | .val (.tuple a)=>(match a.toList with|[]=>some false|_=>none)
    | _=>none)
   | false=>none)
  | none=>none)
theorem E4{n:Nat}{all:Array Oper}{o:Oper}{s:SS}{b:Bool}(h:E3 n all o s=some b):aS all s o.guard b/\∀j want,o.guard=some (j,want)->∀d,((all[j]?).bind (·.dst))=some d->d<n:=by
 unfold E3 at h;cases hg:o.guard with
 |none=>
  rw[hg]at h;simp only[Option.some.injEq]at h;exact⟨h.symm,λj want hh=>by cases hh⟩
 |some p=>
  obtain ⟨j,want⟩:=p;rw[hg]at h;simp only at h;split at h
  .rename_i d hd;split at h
   .rename_i ab;refine⟨⟨d,hd,?_⟩,λj' want' hh d' sy=>?_⟩
    .split at h
     .rename_i c hc;left;refine⟨c,hc,?_⟩;cases c
      .cases want<;>simp_all
      .simp_all
     .rename_i a ha;split at h
      .rename_i he;right;have:a=#[]:=kS he;subst this;simp only[Option.some.injEq]at h;exact⟨ha,h.symm⟩
      .cases h
     .cases h
    .simp only[Option.some.injEq,Prod.mk.injEq]at hh;obtain ⟨rfl,rfl⟩:=hh;rw[hd]at sy;simp only[Option.some.injEq]at sy;subst sy;exact wC ab
   .cases h
  .cases h
def W5(n:Nat)(o:Oper):Bool:=match o.dst with|some d=>Nat.blt d n|none=>true
mutual
def Qt(C:Cx)(Γ:TyE C.P):Nat->List KI->SS->Prop
 |0,k,s=>G C k s
 | n+1,k,s=>(match k with
  |[]=>G C [] s
  | .blk _::k=>Qt C Γ n k s
  | .inv I::k=>G C (.inv I::k) s
  | .scp::k=>Qt C Γ n k s
  | .ops _ []::k=>Qt C Γ n k s
  | .ops all (o::rest)::k=>(match W5 C.n o with
   | true=>(match E3 C.n all o s with
    |some true=>opW Γ o s (λU=>A48 (Acy (all.size-rest.length-1) rest) U (λU=>Qt C Γ n (.ops all rest::k) (s.upd o.dst U)) (λU=>G C (.ops all rest::k) (s.upd o.dst U))) (G C (.ops all (o::rest)::k) s)
    |some false=>Qt C Γ n (.ops all rest::k) (s.upd o.dst ⟨.val undef,[],[]⟩)
    | none=>G C (.ops all (o::rest)::k) s)
   | false=>G C (.ops all (o::rest)::k) s)
  | .code c::k=>(match c with
   | .skip=>Qt C Γ n k s
   | .seq x y=>Qt C Γ n (.code x::.code y::k) s
   | .block id c=>Qt C Γ n (.code c::.blk id::k) s
   | .scope c=>Qt C Γ n (.code c::.scp::k) s
   | .label _=>Qt C Γ n k s
   | .region id ops draw=>(match draw with
    |false=>Qt C Γ n (.ops ops ops.toList::k) s
    | true=>(match Ar7 C.n ops.toList with
     |true=>dG C Γ n k ops [] ops.toList s
     | false=>G C (.code (.region id ops true)::k) s))
   | .cond c x y=>(match ev s c with
    | .val (.bool b)=>(b=true->G C (.code x::k) s)/\(b=false->G C (.code y::k) s)
    | _=>G C (.code (.cond c x y)::k) s)
   | .exit id=>(match Zf id k with
    |some k'=>Qt C Γ n k' s
    | none=>G C (.code (.exit id)::k) s)
   | c=>G C (.code c::k) s))
def dG(C:Cx)(Γ:TyE C.P):Nat->List KI->Array Oper->List Stp->List Oper->SS->Prop
 |0,k,all,done,rest,s=>DR C k all done rest s
 | n+1,k,all,done,rest,s=>(match rest with
  |[]=>Ajc all done=true/\Qt C Γ n k s
  | o::rest=>(match E3 C.n all o s with
   |some true=>opW Γ o s (λU=>A48 (Acy (all.size-rest.length-1) rest) U (λU=>dG C Γ n k all (done++[⟨done.length,o,U,true⟩]) rest (s.upd o.dst U)) (λU=>DR C k all (done++[⟨done.length,o,U,true⟩]) rest (s.upd o.dst U))) (DR C k all done (o::rest) s)
   |some false=>dG C Γ n k all (done++[⟨done.length,o,⟨.val undef,[],[]⟩,false⟩]) rest (s.upd o.dst ⟨.val undef,[],[]⟩)
   | none=>DR C k all done (o::rest) s))
end
def Adk{n:Nat}{o:Oper}(h:W5 n o=true):∀d,o.dst=some d->d<n:=λd hd=>by
 unfold W5 at h;rw[hd]at h;exact wC h
def A28{all:Array Oper}{done:List Stp}{o:Oper}{rest:List Oper}(h:all.toList=done.map (·.o)++o::rest):all[done.length]? = some o:=by
 rw[<-vY,h,wH y_];simp
def Atz{C:Cx}{Γ:TyE C.P}(hm:C.P.follows .mixedOrders=true):∀n,(∀k s,Qt C Γ n k s->G C k s)/\(∀k all done rest s,all.toList=done.map (·.o)++rest->dG C Γ n k all done rest s->DR C k all done rest s):=by
 intro n
 induction n with
 |zero=>exact⟨λk s h=>(by simpa only [Qt] using h),λk all done rest s _ h=>(by simpa only [dG] using h)⟩
 |succ n ih=>
  obtain ⟨pl,uq⟩:=ih;constructor
  .intro k s h;simp only[Qt]at h;split at h
   .exact h
   .exact G_blk (pl _ _ h)
   .exact h
   .exact G_scp (pl _ _ h)
   .exact Ayi (pl _ _ h)
   .rename_i all o rest k';split at h
    .rename_i hd;have sy:=Adk hd;split at h
     .rename_i hg;obtain ⟨w1,w2⟩:=E4 hg;rcases A0l h with ⟨U,hU,hk⟩|h
      .obtain ⟨U',hU',kr⟩:=Aty (X:=Good C.P o s) (λU hu=>pl _ _ hu) hU hk;exact G_op hU' (λr a w hs=>Xm hs w2 w1) sy kr
      .exact h
     .rename_i hg;obtain ⟨w1,w2⟩:=E4 hg;exact Ayj (λr a w hs=>Xm hs w2 w1) sy (pl _ _ h)
     .exact h
    .exact h
   .rename_i c k';split at h
    .exact G_skip (pl _ _ h)
    .exact G_seq (pl _ _ h)
    .exact A5y (pl _ _ h)
    .exact A5v (pl _ _ h)
    .exact A5w (pl _ _ h)
    .split at h
     .exact A3l (pl _ _ h)
     .split at h
      .rename_i hd;exact G_draw hm hd (uq _ _ _ _ _ y_ h)
      .exact h
    .split at h
     .rename_i b hc;exact G_cond hc h.1 h.2
     .exact h
    .split at h
     .rename_i hx;exact G_exit hx (pl _ _ h)
     .exact h
    .exact h
  .intro k all done rest s jd h;simp only[dG]at h;split at h
   .exact DR_nil h.1 (pl _ _ h.2)
   .rename_i o rest;have hi:=A28 jd;split at h
    .rename_i hg;obtain ⟨w1,w2⟩:=E4 hg;rcases A4m h with ⟨U,hU,hk⟩|h
     .obtain ⟨U',hU',kr⟩:=Aty (X:=GoodX C.P o s) (λU hu=>uq _ _ _ _ _ (by simp[jd]) hu) hU hk;exact A3m U' hU' hi w1 kr
     .exact h
    .rename_i hg;obtain ⟨w1,w2⟩:=E4 hg;exact A5z hi w1 (uq _ _ _ _ _ (by simp[jd]) h)
    .exact h
def aF{p q:Prop}(h:q):(false=true->p)/\(false=false->q):=⟨λe=>(tS e).elim,λ_=>h⟩
def aT{p q:Prop}(h:p):(true=true->p)/\(true=false->q):=⟨λ_=>h,λe=>(tS e.symm).elim⟩
def run{C:Cx}{k:List KI}{s:SS}(Γ:TyE C.P)(hm:C.P.follows .mixedOrders=true)(n:Nat)(h:Qt C Γ n k s):G C k s:=(Atz hm n).1 k s h
theorem runD{C:Cx}{k:List KI}{s:SS}{all:Array Oper}{done:List Stp}{rest:List Oper}(Γ:TyE C.P)(hm:C.P.follows .mixedOrders=true)(n:Nat)(hs:all.toList=done.map (·.o)++rest)(h:dG C Γ n k all done rest s):DR C k all done rest s :=
 (Atz hm n).2 k all done rest s hs h
def rG{C:Cx}{k:List KI}{s:SS}(Γ:TyE C.P)(hm:C.P.follows .mixedOrders=true)(h:Qt C Γ 400 k s):G C k s:=run Γ hm 400 h
def rD{C:Cx}{k:List KI}{s:SS}{all:Array Oper}{done:List Stp}{rest:List Oper}(Γ:TyE C.P)(hm:C.P.follows .mixedOrders=true)(hs:all.toList=done.map (·.o)++rest)(h:dG C Γ 400 k all done rest s):DR C k all done rest s:=runD Γ hm 400 hs h
def Aj{C:Cx}{k:List KI}{s:SS}{all:Array Oper}{o:Oper}{rest:List Oper}{U:Up}(hg:Good C.P o s U)(hd:W5 C.n o=true)(hw:E3 C.n all o s=some true)(h:G C (.ops all rest::k) (s.upd o.dst U)):G C (.ops all (o::rest)::k) s :=
 G_op hg (λ_ _ _ hs=>Xm hs (E4 hw).2 (E4 hw).1) (Adk hd) h
def Ce{C:Cx}{k:List KI}{s:SS}{all:Array Oper}{done:List Stp}{o:Oper}{rest:List Oper}{U:Up}(hg:Good C.P o s U)(hi:all[done.length]? = some o)(hw:E3 C.n all o s=some true)(h:DR C k all (done++[⟨done.length,o,U,true⟩]) rest (s.upd o.dst U))(hn:(Km o||Tf o)=false:=by rfl):DR C k all done (o::rest) s:=A3m U (.of hg hn) hi (E4 hw).1 h
def done{P:Program}{fn:Func}{F:Fr}{R:SV}{H':Obs}{Γ:Ty P}{n:Nat}{bn:List Nat}{hbn:∀k,F.k0 k≠.new->k∈bn}{k:List KI}{s:SS}{rs:List ResultVar}(hf:fn.results=rs.toArray){xs:List SV}(hx:ResVs Γ.get s rs xs)(a:List (Nat×Nat))(L:Obs)(hL:∀p∈H',p∈L)(hR:R.ren (Bk a)=Afb xs)(ou:R.inn L.keys=true)(ar:Sub ⟨P,Γ,F,n,Yp P fn F R H',bn,hbn⟩ s a [] L):G ⟨P,Γ,F,n,Yp P fn F R H',bn,hbn⟩ (.code .ret::k) s :=
 A6b λ_ _ _ hs=>(Atf hf hx a L hL hR ou ar hs).1
def A6{P:Program}{fn:Func}{F:Fr}{R:SV}{H':Obs}{Γ:Ty P}{n:Nat}{bn:List Nat}{hbn:∀k,F.k0 k≠.new->k∈bn}{s:SS}{rs:List ResultVar}(hf:fn.results=rs.toArray){xs:List SV}(hx:ResVs Γ.get s rs xs)(a:List (Nat×Nat))(L:Obs)(hL:∀p∈H',p∈L)(hR:R.ren (Bk a)=Afb xs)(ou:R.inn L.keys=true)(ar:Sub ⟨P,Γ,F,n,Yp P fn F R H',bn,hbn⟩ s a [] L):G ⟨P,Γ,F,n,Yp P fn F R H',bn,hbn⟩ [] s :=
 G_nil λ_ _ _ hs=>(Atf hf hx a L hL hR ou ar hs).2
def Ar{P:Program}{fn:Func}{F:Fr}{R:SV}{Γ:Ty P}{n:Nat}{hbn:∀k,F.k0 k≠.new->k∈[]}{k:List KI}{s:SS}{rs:List ResultVar}(hf:fn.results=rs.toArray){xs:List SV}(hx:ResVs Γ.get s rs xs)(hR:R=Afb xs)(ou:R.inn []=true):G ⟨P,Γ,F,n,Yp P fn F R [],[],hbn⟩ (.code .ret::k) s:=by
 have hid:∀x:SV,x.ren (Bk [])=x:=λx=>Bh x
 exact done hf hx [] [] (λ_ h=>h) (by rw[hid];exact hR) ou kU
def fieldsOf(P:Program):List Field->Option (List (Nat×Nat))
 |[]=>some []
 |f::fs=>match P.info? f.type,fieldsOf P fs with
  |some i,some r=>some ((f.offset,i.size)::r)
  |_,_=>none
def nV{P:Program}:∀{fs:List Field} {r:List (Nat×Nat)},fieldsOf P fs=some r->Ij P fs r
 |[],r,h=>by simp only[fieldsOf,Option.some.injEq]at h;subst h;trivial
 |f::fs,r,h=>by
  simp only[fieldsOf]at h;split at h
  .rename_i i q hi hq;simp only[Option.some.injEq]at h;subst h;exact⟨E,by rw[hi];rfl,nV hq⟩
  .cases h
def tkOf(P:Program)(d:TypeDesc):Option TK :=
 match d with
 | .bool=>some .bool
 | .int k=>some (.int k)
 | .string=>some .string
 | .slice e=>(match P.info? e with
  | some i=>(match i.zero with
   |some z=>some (.slice e i.size i.bytes z.cells.toList)
   | none=>none)
  | none=>none)
 | .struct fs=>(match fieldsOf P fs.toList with
  |some r=>some (.struct r)
  | none=>none)
 | .array len e=>(match P.info? e with
  |some i=>some (.array e len i.size)
  | none=>none)
 | .pointer _=>some .ptr
 | .interface _=>some .iface
 | .func _ _ _=>some .func
 |_=>none
def A3y{P:Program}{d:TypeDesc}{k:TK}(h:tkOf P d=some k):TK.ok P d k:=by
 unfold tkOf at h;split at h
 .cases h;rfl
 .cases h;rfl
 .cases h;rfl
 .split at h
  .rename_i i hi;split at h
   .rename_i z hz;cases h;exact⟨E,i,z,hi,E,E,hz,E⟩
   .cases h
  .cases h
 .split at h
  .rename_i r hr;cases h;exact⟨_,E,nV hr⟩
  .cases h
 .split at h
  .rename_i i hi;cases h;exact⟨E,i,hi,E⟩
  .cases h
 .cases h;exact⟨_,rfl⟩
 .cases h;exact⟨_,rfl⟩
 .cases h;exact⟨_,_,_,rfl⟩
 .cases h
def tiOf(P:Program)(t:TypeId):Option TI :=
 match P.underlying t,P.info? t with
 | some d,some info=>(match tkOf P d,info.zero with
  |some k,some z=>some ⟨k,info.size,z.cells.toList⟩
  | _,_=>none)
 |_,_=>none
def A3z{P:Program}{t:TypeId}{i:TI}(h:tiOf P t=some i):i.ok P t:=by
 unfold tiOf at h;split at h
 .rename_i d info hd hi;split at h
  .rename_i k z hk hz;cases h;exact⟨d,info,z,hd,A3y hk,hi,E,hz,E⟩
  .cases h
 .cases h
inductive Tr(α:Type)|lf|nd (k:Nat) (v:α) (l r:Tr α)
def Tr.look{a:Type}(t:Nat):Tr a->Option a
 | .lf=>none
 | .nd k v l r=>bif Nat.beq t k then some v else bif Nat.blt t k then l.look t else r.look t
def Tr.all{a:Type}(p:Nat->a->Prop):Tr a->Prop
 | .lf=>True
 | .nd k v l r=>p k v/\l.all p/\r.all p
theorem Tr.look_ok{a:Type}{p:Nat->a->Prop}{t:Nat}{v:a}:∀{T:Tr a},T.all p->T.look t=some v->p t v
 | .lf,_,h=>by cases h
 | .nd k u l r,ha,h=>by
  simp only[Tr.look,uP]at h;split at h
  .rename_i hb;have:=yK hb;subst this;simp only[Option.some.injEq]at h;subst h;exact ha.1
  .split at h
   .exact Tr.look_ok ha.2.1 h
   .exact Tr.look_ok ha.2.2 h
def ekOf(P:Program)(t:TypeId):Option EK :=
 match P.underlying t with
 |some (.int k)=>some (.int k)
 |some .bool=>some .bool
 |some .string=>some .string
 |_=>none
def Ani(P:Program):Nat->List Field->Option (List EK)
 |_,[]=>some []
 |i,f::fs=>match ekOf P f.type,Ani P (i+1) fs with
  |some k, some r=> if f.name ≠ "_" /\ f.offset = i then some (k::r) else none
  |_,_=>none
def Anh{P:Program}:∀{fs:List Field} {i:Nat} {r:List EK},Ani P i fs=some r->Ar1 P i fs r
 |[],i,r,h=>by simp only[Ani,Option.some.injEq]at h;subst h;trivial
 |f::fs,i,r,h=>by
  simp only[Ani]at h;split at h
  .rename_i k q hk hq;split at h
   .rename_i hc;cases h;refine⟨hc.1,hc.2,?_,Anh hq⟩;unfold ekOf at hk;split at hk<;>first|(cases hk;assumption)|cases hk
   .cases h
  .cases h
def A2m(P:Program)(t:TypeId):Option (List EK) :=
 match P.underlying t with
 |some (.struct fs)=>if P.stoodInHeld t=false/\P.eqGuardType P.depth t=false then Ani P 0 fs.toList else none
 |_=>none
def A2l{P:Program}{t:TypeId}{r:List EK}(h:A2m P t=some r):EqOK P t r:=by
 unfold A2m at h;split at h
 .rename_i fs tl;split at h
  .rename_i hc;have hf:P.fieldsOf t=fs:=by simp[Program.fieldsOf,tl]
   exact⟨by rw[hf];exact tl,hc.1,hc.2,by rw[hf];exact Anh h⟩
  .cases h
 .cases h
def Ady(fn:Func):Code:=fn.body.getD .skip
def Amf{k:Type 1}:List k->Nat->Bool
 |[],_=>true
 |_::_,0=>false
 |_::l,n+1=>Amf l n
def Ace{k:Type 1}:∀{l:List k} {n:Nat},Amf l n=true->l.length<=n
 |[],_,_=>xN _
 |_::_,0,h=>by cases h
 |_::l,n+1,h=>Nat.succ_le_succ (Ace (l:=l) h)
def Qj{P:Program}(Γ:TyE P)(hm:P.follows .mixedOrders=true)(N:Nat){f:FuncId}{fn:Func}{c:Code}{A:List SV}{H:Obs}{R:SV}{H':Obs}(hF:Fun P f fn c){n:Nat}(mg:fn.ntmps=n)(hn:Amf A n=true)(h:∀(F:Fr) (hF:∀k,F.k0 k≠.new->k∈H.keys),Qt ⟨P,Γ.toTy,F,n,Yp P fn F R H',H.keys,hF⟩ Γ N [.code c] ⟨argσ A,mkh H⟩):Sy.Spec P f A H R H' :=
 Au8 Γ.toTy hF.1 hF.2 mg (Ace hn) λF hF=>run Γ hm N (h F hF)
variable {C:Cx} {k:List KI} {s:SS}
theorem M4{all:Array Oper}{o:Oper}{rest:List Oper}{f:FuncId}{fn:Func}{c:Code}{xs:List Operand}{ts:Array TypeId}{A:List SV}{R:SV}(hs:Sy.Spec C.P f A [] R [])(hf:Fun C.P f fn c)(h:o.op=.call ⟨.value (.func f),xs.toArray,ts⟩)(hA:A=xs.map (ev s))(aq:(B7 [] A&&R.inn [])=true)(hd:W5 C.n o=true)(hw:E3 C.n all o s=some true)(hg:G C (.ops all rest::k) (s.upd o.dst ⟨R,[],[]⟩)):G C (.ops all (o::rest)::k) s:=by
 have hid:∀x:SV,x.ren (Bk [])=x:=λx=>Bh x
 have m7:∀x:List SV,Ma (Bk []) x=x:=λx=>J5 x
 have:=Ad (s:=s) (o:=o) [] h hf hs (by rw[m7];exact hA) trivial (by simp_all[Qm,Yw,Ahu,Obs.keys]) trivial;rw[hid]at this;exact Aj this hd hw hg
theorem A23{all:Array Oper}{done:List Stp}{o:Oper}{rest:List Oper}{f:FuncId}{fn:Func}{c:Code}{xs:List Operand}{ts:Array TypeId}{A:List SV}{R:SV}(hs:Sy.Spec C.P f A [] R [])(hf:Fun C.P f fn c)(h:o.op=.call ⟨.value (.func f),xs.toArray,ts⟩)(hA:A=xs.map (ev s))(aq:(B7 [] A&&R.inn [])=true)(hi:all[done.length]? = some o)(hw:E3 C.n all o s=some true)(hg:DR C k all (done++[⟨done.length,o,⟨R,[],[]⟩,true⟩]) rest (s.upd o.dst ⟨R,[],[]⟩)):DR C k all done (o::rest) s:=by
 have hid:∀x:SV,x.ren (Bk [])=x:=λx=>Bh x
 have m7:∀x:List SV,Ma (Bk []) x=x:=λx=>J5 x
 have:=Ad (s:=s) (o:=o) [] h hf hs (by rw[m7];exact hA) trivial (by simp_all[Qm,Yw,Ahu,Obs.keys]) trivial;rw[hid]at this;exact Ce this hi hw hg (by simp[Km,Tf,h])
theorem Aua{all:Array Oper}{o:Oper}{rest:List Oper}(V:List Nat){f:FuncId}{fn:Func}{c:Code}{xs:List Operand}{ts:Array TypeId}{A:List SV}{R:SV}(hs:Sy.Spec C.P f A [] R [])(hf:Fun C.P f fn c)(h:o.op=.call ⟨.value (.func f),xs.toArray,ts⟩)(hA:VwL s V (xs.map (ev s)) A)(aq:(B7 [] A&&R.plain)=true)(hd:W5 C.n o=true)(hw:E3 C.n all o s=some true)(hg:G C (.ops all rest::k) (s.upd o.dst ⟨R,V,[]⟩)):G C (.ops all (o::rest)::k) s:=by
 simp only[zG]at aq;exact Aj (I9 V h hf hs hA aq.1 aq.2) hd hw hg
def Hg(P:Program)(f:FuncId)(A:List SV)(R:SV):Prop:=(∃fn c,Fun P f fn c)/\Sy.Spec P f A [] R []
theorem call0E{all:Array Oper}{o:Oper}{rest:List Oper}{f:FuncId}{B A:List SV}{R:SV}(hE:U7 C.P o s [] f B)(hs:Sy.Spec C.P f A [] R [])(hA:A=B)(aq:(B7 [] A&&R.inn [])=true)(hd:W5 C.n o=true)(hw:E3 C.n all o s=some true)(hg:G C (.ops all rest::k) (s.upd o.dst ⟨R,[],[]⟩)):G C (.ops all (o::rest)::k) s:=by
 have hid:∀x:SV,x.ren (Bk [])=x:=λx=>Bh x
 have m7:∀x:List SV,Ma (Bk []) x=x:=λx=>J5 x
 have:=Av (s:=s) (o:=o) [] hE hs (by rw[m7];exact hA) trivial (by simp_all[Qm,Yw,Ahu,Obs.keys]) trivial;rw[hid]at this;exact Aj this hd hw hg
theorem Ek{all:Array Oper}{o:Oper}{rest:List Oper}{f:FuncId}{x:Operand}{xs:List Operand}{ts:Array TypeId}{first cap A:List SV}{R:SV}(hs:Hg C.P f A R)(h:o.op=.call ⟨.value x,xs.toArray,ts⟩)(hx:ev s x=.clo (.func f) first cap)(hA:A=first++xs.map (ev s)++cap)(aq:(B7 [] A&&R.inn [])=true)(hd:W5 C.n o=true)(hw:E3 C.n all o s=some true)(hg:G C (.ops all rest::k) (s.upd o.dst ⟨R,[],[]⟩)):G C (.ops all (o::rest)::k) s:=by
 obtain ⟨⟨fn,c,hf⟩,hs⟩:=hs;exact call0E (Aw h hx hf) hs hA aq hd hw hg
theorem A5j{all:Array Oper}{done:List Stp}{o:Oper}{rest:List Oper}{f:FuncId}{B A:List SV}{R:SV}(hE:U7 C.P o s [] f B)(hn:(Km o||Tf o)=false)(hs:Sy.Spec C.P f A [] R [])(hA:A=B)(aq:(B7 [] A&&R.inn [])=true)(hi:all[done.length]? = some o)(hw:E3 C.n all o s=some true)(hg:DR C k all (done++[⟨done.length,o,⟨R,[],[]⟩,true⟩]) rest (s.upd o.dst ⟨R,[],[]⟩)):DR C k all done (o::rest) s:=by
 have hid:∀x:SV,x.ren (Bk [])=x:=λx=>Bh x
 have m7:∀x:List SV,Ma (Bk []) x=x:=λx=>J5 x
 have:=Av (s:=s) (o:=o) [] hE hs (by rw[m7];exact hA) trivial (by simp_all[Qm,Yw,Ahu,Obs.keys]) trivial;rw[hid]at this;exact Ce this hi hw hg hn
theorem Ask{all:Array Oper}{done:List Stp}{o:Oper}{rest:List Oper}{f:FuncId}{x:Operand}{xs:List Operand}{ts:Array TypeId}{first cap A:List SV}{R:SV}(hs:Hg C.P f A R)(h:o.op=.call ⟨.value x,xs.toArray,ts⟩)(hx:ev s x=.clo (.func f) first cap)(hA:A=first++xs.map (ev s)++cap)(aq:(B7 [] A&&R.inn [])=true)(hi:all[done.length]? = some o)(hw:E3 C.n all o s=some true)(hg:DR C k all (done++[⟨done.length,o,⟨R,[],[]⟩,true⟩]) rest (s.upd o.dst ⟨R,[],[]⟩)):DR C k all done (o::rest) s:=by
 obtain ⟨⟨fn,c,hf⟩,hs⟩:=hs;exact A5j (Aw h hx hf) (by simp[Km,Tf,h]) hs hA aq hi hw hg
theorem A22{all:Array Oper}{done:List Stp}{o:Oper}{rest:List Oper}(V:List Nat){f:FuncId}{fn:Func}{c:Code}{xs:List Operand}{ts:Array TypeId}{A:List SV}{R:SV}(hs:Sy.Spec C.P f A [] R [])(hf:Fun C.P f fn c)(h:o.op=.call ⟨.value (.func f),xs.toArray,ts⟩)(hA:VwL s V (xs.map (ev s)) A)(aq:(B7 [] A&&R.plain)=true)(hi:all[done.length]? = some o)(hw:E3 C.n all o s=some true)(hg:DR C k all (done++[⟨done.length,o,⟨R,V,[]⟩,true⟩]) rest (s.upd o.dst ⟨R,V,[]⟩)):DR C k all done (o::rest) s:=by
 simp only[zG]at aq;exact Ce (I9 V h hf hs hA aq.1 aq.2) hi hw hg (by simp[Km,Tf,h])
end Go.Sy
