/- Parts of a proof. -/
import Derived.Test.YticmobkdaneelaaGreatDoorYE3
set_option linter.all false
set_option linter.unusedVariables false
set_option linter.unusedSimpArgs false
set_option linter.deprecated false
namespace Go.Sy
theorem SS.ext'{s t:SS}(h1:∀i,s.σ i=t.σ i)(h2:∀k,s.h k=t.h k):s=t:=by
 obtain ⟨a,b⟩:=s;obtain ⟨c,d⟩:=t;have e1:a=c:=funext h1;have e2:b=d:=funext h2;rw[e1,e2]
structure Stp where
 i:Nat
 o:Oper
 U:Up
 want:Bool
def Ob.shp:Ob→Nat×Option Nat×Option (Nat×SV×Nat)
 | .box _=>(1,none,none)
 | .row _ _ l=>(0,some l.length,none)
 | .lit _ svs=>(0,some svs.length,none)
 | .glob sz x g=>(2,none,some (sz,x,g))
 | .rown _ _ l _ _=>(0,some l.length,none)
 |_=>(0,none,none)
theorem Ob.shp_len{x y:Ob}{n:Nat}(h:x.shp=y.shp)(hy:y.len=some n):x.len=some n:=by
 cases x<;>cases y<;>simp_all[Ob.shp,Ob.len]
theorem Ob.shp_box{x:Ob}{l:List SV}(h:x.shp=(Ob.box l).shp):∃m,x=.box m:=by
 cases x<;>simp_all[Ob.shp]
def Lq(o:Oper):Bool:=match o.op with| .indexAddr ..=>true|_=>false
def T1(o:Oper):Bool:=match o.op with| .store ..=>true|_=>false
def A4l(P:Program)(o:Oper)(s:SS)(U:Up):Prop :=
 ∀(κ:Ka) (a:Act) (w:World),Inv κ w→(∀x∈o.op.operands,Rd κ w (ev s x) (a.eval x))→(∀k,k∈U.rd∨k∈U.ws→ObOK κ w k (s.h k)) →
  ∀(N:Act→World→Prop) (Q:Exit→Act→World→Prop),
   (∀v κ' w',Step (λk=>k∈U.ws∨k∈U.rd) κ w κ' w'→Inv κ' w'→Rd κ' w' U.v v→(∀x∈U.objs,ObOK κ' w' x.1 x.2)→(∀k,k∈U.rd→k∉U.ws→ObOK κ' w' k (s.h k))→N (a.put o.dst v) w')→o.wp P a w N Q
theorem Good.two{P:Program}{o:Oper}{s:SS}{U:Up}(h:Good P o s U):A4l P o s U:=λκ a w hi hr ho N Q hN=>
 h κ a w hi hr ho N Q λv κ' w' st inv hv cj=>hN v κ' w' (st.weaken λ_ hk=>.inl hk) inv hv cj λk hk hw=>ObOK.step st hw _ (ho k (.inl hk))
theorem Good.keep{P:Program}{o:Oper}{s:SS}{U:Up}(h:Good P o s U)(hk:∀p∈U.objs,s.h p.1=p.2):A4l P o s ⟨U.v,U.rd++U.ws,[]⟩:=λκ a w hi hr ho N Q hN=>
 h κ a w hi hr (λk l6=>ho k (.inl (by simpa using l6))) N Q λv κ' w' st inv hv cj=>hN v κ' w' (st.weaken λk l6=>.inr (by simp[l6])) inv hv (λx hx=>by cases hx) λk fg _=>by
  by_cases hw:k∈U.ws
  ·obtain ⟨p,hp,rfl⟩:=yS.1 hw;rw[hk p hp];exact cj p hp
  ·exact ObOK.step st hw _ (ho k (.inl fg))
theorem St.put2{F:Fr}{n:Nat}{s:SS}{κ κ':Ka}{a:Act}{w w':World}(h:St F n s κ a w){dst:Option Nat}{U:Up}{v:Value}(hd:∀d,dst=some d→d<n)(st:Step (λk=>k∈U.ws∨k∈U.rd) κ w κ' w')(hi:Inv κ' w')(hv:Rd κ' w' U.v v)(ho:∀x∈U.objs,ObOK κ' w' x.1 x.2)(hr:∀k,k∈U.rd→k∉U.ws→ObOK κ' w' k (s.h k)):St F n (s.upd dst U) κ' (a.put dst v) w' where
 defers:=by cases dst<;>exact h.defers
 size:=by cases dst<;>simp[Act.put,h.size]
 inv:=hi
 ctx:=h.ctx.step hi st
 slot i:=by
  cases dst with
  |none=>exact Rd.step st _ _ (h.slot i)
  |some d=>
   have ab:=hd d rfl;by_cases hi':i=d
   ·subst hi';simp only[SS.upd,B1,Act.put];have hs:i<a.tmps.size:=by rw[h.size];exact ab
    simpa [hs] using hv
   ·simp only[SS.upd,Cp _ _ hi',Act.put];have:(a.tmps.setIfInBounds d v).getD i undef=a.tmps.getD i undef:=by
     simp[Array.getElem?_setIfInBounds_ne (Ne.symm hi')]
    rw[this];exact Rd.step st _ _ (h.slot i)
 obj k:=Akc _ _ _ ho (λ hk=>by
  by_cases h2:k∈U.rd
  ·exact hr k h2 hk
  ·exact ObOK.step st (λ h3=>h3.elim hk h2) _ (h.obj k))
structure GoodX(P:Program)(o:Oper)(s:SS)(U:Up):Prop where
 good:A4l P o s U
 idx:Lq o=true→U.objs=[]∧∀s':SS,(∀x∈o.op.operands,ev s' x=ev s x)→(∀k∈U.rd,(s'.h k).shp=(s.h k).shp)→Good P o s' U
 st:T1 o=true→∀p∈U.objs,p.2.shp=(s.h p.1).shp
theorem GoodX.of{P:Program}{o:Oper}{s:SS}{U:Up}(h:Good P o s U)(hn:(Lq o||T1 o)=false):GoodX P o s U:=by
 simp only[xY]at hn;exact⟨h.two,λh1=>by (rw[hn.1]at h1;cases h1),λh1=>by (rw[hn.2]at h1;cases h1)⟩
def Stp.ok(P:Program)(all:Array Oper)(s:SS)(t:Stp):Prop :=
 all[t.i]? = some t.o∧Yq all s t.o.guard t.want∧(t.want=true→GoodX P t.o s t.U)∧(t.want=false→t.U=⟨.val undef,[],[]⟩)
def A3u(K L:List Nat):Bool:=K.all λk=>!(Qs L k)
def Alv{K L:List Nat}(h:A3u K L=true):∀k∈K,k∉L:=λk hk hl=>by
 simp only[A3u,yZ]at h;have:=h k hk;rw[memN_iff.2 hl]at this;cases this
def Vn(all:Array Oper)(p t:Stp):Bool :=
 p.o.apart all t.o&&A3u p.U.ws t.U.ws&&(A3u p.U.ws t.U.rd||(T1 p.o&&Lq t.o))&&(A3u t.U.ws p.U.rd||(T1 t.o&&Lq p.o))
def A6k(all:Array Oper):Nat→Nat→Oper→Bool
 |0,_,_=>false
 |n+1,i,o=>o.after.toList.any λe=>Region.binds .any e&&(Nat.beq e.on i||(match all[e.on]? with|some u=>A6k all n i u|none=>false))
def aft(all:Array Oper)(p t:Stp):Bool:=A6k all 4 p.i t.o
def Cl(all:Array Oper)(listed:Array Bool):Prop:=∀i o,all[i]? = some o→listed.getD i true=true→∀e∈o.after,Region.binds .any e=true→listed.getD e.on false=true
def Avr{listed:Array Bool}{i:Nat}(h:listed.getD i false=true):listed.getD i true=true:=by
 simp only[vC]at h⊢;cases hh:listed[i]? with
 |none=>rw[hh]at h;cases h
 |some b=>rw[hh]at h;exact h
def Ac8{all:Array Oper}{listed:Array Bool}(hc:Cl all listed){i:Nat}:∀(n:Nat) (o:Oper),(∀e∈o.after,Region.binds .any e=true→listed.getD e.on false=true)→A6k all n i o=true→listed.getD i false=true
 |0,_,_,h=>by cases h
 |n+1,o,ho,h=>by
  simp only[A6k,wK,zE,yM]at h;obtain ⟨e,h1,h2,h3⟩:=h;have h4:=ho e (by simpa using h1) h2;rcases h3 with h3|h3
  ·rw[←yK h3];exact h4
  ·cases hu:all[e.on]? with
   |none=>rw[hu]at h3;cases h3
   |some u=>
    rw[hu]at h3;exact Ac8 hc n u (hc e.on u hu (Avr h4)) h3
def Aa1(all:Array Oper)(p:Stp):List Stp→Bool
 |[]=>true
 |t::r=>(Vn all p t||aft all p t)&&Aa1 all p r
def Mi(all:Array Oper):List Stp→Bool
 |[]=>true
 |p::r=>Aa1 all p r&&Mi all r
def Ad3(t:Stp):Bool:=t.o.after.toList.all λe=>!(Region.binds .any e)||Nat.blt e.on t.i
def fin(s:SS):List Stp→SS
 |[]=>s
 |t::r=>fin (s.upd t.o.dst t.U) r
def Chain(P:Program)(all:Array Oper):SS→List Stp→Prop
 |_,[]=>True
 |s,t::r=>t.ok P all s∧Chain P all (s.upd t.o.dst t.U) r
def Amj{β:Type 1}(f:Nat→β){d e:Nat}(u v:β)(h:d≠e):upd (upd f d u) e v=upd (upd f e v) d u:=by
 funext i;by_cases h1:i=d
 ·subst h1;rw[Cp _ _ h,B1,B1]
 ·by_cases h2:i=e
  ·subst h2;rw[B1,Cp _ _ h1,B1]
  ·rw[Cp _ _ h2,Cp _ _ h1,Cp _ _ h1,Cp _ _ h2]
def Amk(h:Nat→Ob)(k:Nat)(o:Ob):∀(l:List (Nat×Ob)),k∉l.map (·.1)→Tx (upd h k o) l=upd (Tx h l) k o
 |[],_=>rfl
 |(j,x)::r,hk=>by
  simp only[xV,yH,uC]at hk;rw[Tx,Tx,Amj _ _ _ hk.1,Amk _ k o r hk.2]
def Ah9:∀(l m:List (Nat×Ob)) (h:Nat→Ob),(∀k∈l.map (·.1),k∉m.map (·.1))→Tx (Tx h l) m=Tx (Tx h m) l
 |[],m,h,_=>rfl
 |(k,o)::r,m,h,hd=>by
  rw[Tx,Tx,Ah9 r m _ (λj hj=>hd j (by simp at hj⊢;exact .inr hj)),Amk h k o m (hd k y_)]
def Ac5{all:Array Oper}{p t:Stp}(h:Vn all p t=true):(∀d,p.o.dst=some d→d∉t.o.looksAt all)∧(∀d,p.o.dst=some d→t.o.dst≠some d)∧(∀d,t.o.dst=some d→d∉p.o.looksAt all)∧(∀k∈p.U.ws,k∉t.U.ws) ∧
   ((∀k∈p.U.ws,k∉t.U.rd)∨(T1 p.o=true∧Lq t.o=true))∧((∀k∈t.U.ws,k∉p.U.rd)∨(T1 t.o=true∧Lq p.o=true)):=by
 simp only[Vn,zE,yM]at h;obtain ⟨⟨⟨h1,h2⟩,h3⟩,h4⟩:=h;obtain ⟨a1,a2,a3⟩:=Oper.apart_spec h1;exact⟨a1,a2,a3,Alv h2,h3.imp Alv id,h4.imp Alv id⟩
def Ami{all:Array Oper}{p t:Stp}(h:Vn all p t=true)(s:SS):(s.upd p.o.dst p.U).upd t.o.dst t.U=(s.upd t.o.dst t.U).upd p.o.dst p.U:=by
 obtain ⟨_,h2,_,h4,_,_⟩:=Ac5 h;unfold SS.upd;congr 1
 ·cases hp:p.o.dst with
  |none=>rfl
  |some d=>
   cases ht:t.o.dst with
   |none=>rfl
   |some e=>exact Amj _ _ _ (λe'=>h2 d hp (by rw[ht,e']))
 ·exact Ah9 _ _ _ (λk hk=>h4 k hk)
def Abr{all:Array Oper}{s s':SS}{o:Oper}{b:Bool}(a2:Yq all s o.guard b)(h1:∀d,d∈o.looksAt all→s'.σ d=s.σ d):Yq all s' o.guard b:=by
 unfold Yq at a2⊢;cases hg:o.guard with
 |none=>rw[hg]at a2;exact a2
 |some q=>
  obtain ⟨j,want⟩:=q;rw[hg]at a2;obtain ⟨d,b1,b2⟩:=a2;have hd:s'.σ d=s.σ d:=h1 d (by simp[Oper.looksAt,hg,b1]);exact⟨d,b1,by rw[hd];exact b2⟩
def Apq{all:Array Oper}{s s':SS}{o:Oper}(h1:∀d,d∈o.looksAt all→s'.σ d=s.σ d):∀x∈o.op.operands,ev s' x=ev s x:=λx hx=>by
 cases x with
 |tmp d=>
  have hd:s'.σ d=s.σ d:=h1 d (by
   simp only[Oper.looksAt,yI,vE];exact .inl ⟨.tmp d,by simpa using hx,E⟩)
  simpa only [ev] using hd
 |const v=>rfl
 |global g=>rfl
 |func f=>rfl
theorem Stp.congr{P:Program}{all:Array Oper}{s s':SS}{t:Stp}(h:t.ok P all s)(h1:∀d,d∈t.o.looksAt all→s'.σ d=s.σ d)(h2:∀k,k∈t.U.rd∨k∈t.U.ws→s'.h k=s.h k):t.ok P all s':=by
 obtain ⟨a1,a2,a3,a4⟩:=h;have sj:=Apq h1;refine⟨a1,Abr a2 h1,λhw=>?_,a4⟩;obtain ⟨g1,g2,g3⟩:=a3 hw;refine⟨λκ a w hi hr ho N Q hN=>?_,λhi=>?_,λhi p hp=>?_⟩
 ·exact g1 κ a w hi (λx hx=>by rw[←sj x hx];exact hr x hx) (λk hk=>by rw[←h2 k hk];exact ho k hk) N Q (λv κ' w' st inv hv cj ie=>hN v κ' w' st inv hv cj λk hk hw=>by rw[h2 k (.inl hk)];exact ie k hk hw)
 ·obtain ⟨e1,e2⟩:=g2 hi;exact⟨e1,λs'' q1 q2=>e2 s'' (λx hx=>(q1 x hx).trans (sj x hx)) (λk hk=>by rw[q2 k hk,h2 k (.inl hk)])⟩
 ·rw[g3 hi p hp,h2 p.1 (.inr (yS.2 ⟨p,hp,rfl⟩))]
theorem Stp.congrI{P:Program}{all:Array Oper}{s s':SS}{t:Stp}(h:t.ok P all s)(hi:Lq t.o=true)(h1:∀d,d∈t.o.looksAt all→s'.σ d=s.σ d)(h2:∀k∈t.U.rd,(s'.h k).shp=(s.h k).shp):t.ok P all s':=by
 obtain ⟨a1,a2,a3,a4⟩:=h;have sj:=Apq h1;refine⟨a1,Abr a2 h1,λhw=>?_,a4⟩;obtain ⟨g1,g2,g3⟩:=a3 hw;obtain ⟨e1,e2⟩:=g2 hi;refine⟨(e2 s' sj h2).two,λ_=>⟨e1,λs'' q1 q2=>e2 s'' (λx hx=>(q1 x hx).trans (sj x hx)) (λk hk=>by rw[q2 k hk,h2 k hk])⟩,λ_ p hp=>?_⟩;rw[e1]at hp;cases hp
def Aml:∀(l:List (Nat×Ob)) (h:Nat→Ob) (k:Nat),(∀q∈l,q.2.shp=(h q.1).shp)→(Tx h l k).shp=(h k).shp
 |[],_,_,_=>rfl
 |(j,o)::r,h,k,hq=>by
  rw[Tx,Aml r (Sy.upd h j o) k (λq hqr=>?_)]
  ·by_cases hj:k=j
   ·subst hj;rw[B1];exact hq (k,o) y_
   ·rw[Cp _ _ hj]
  ·rw[hq q (by simp[hqr])];by_cases hj:q.1=j
   ·rw[hj,B1];exact(hq (j,o) y_).symm
   ·rw[Cp _ _ hj]
theorem Stp.lens{P:Program}{all:Array Oper}{s:SS}{t:Stp}(h:t.ok P all s)(hi:T1 t.o=true)(k:Nat):((s.upd t.o.dst t.U).h k).shp=(s.h k).shp:=by
 obtain ⟨_,_,a3,a4⟩:=h;cases hw:t.want with
 |false=>rw[a4 hw];rfl
 |true=>exact Aml _ _ _ ((a3 hw).st hi)
def upd_σ_ne{s:SS}{dst:Option Nat}{U:Up}{d:Nat}(h:dst≠some d):(s.upd dst U).σ d=s.σ d:=by
 cases dst with
 |none=>rfl
 |some e=>exact Cp _ _ (λe'=>h (by rw[e']))
theorem Chain.first{P:Program}{all:Array Oper}{t:Stp}{post:List Stp}:∀{pre:List Stp} {s:SS},Chain P all s (pre++t::post)→(∀p∈pre,Vn all p t=true) →
  t.ok P all s∧Chain P all (s.upd t.o.dst t.U) (pre++post)∧fin s (pre++t::post)=fin (s.upd t.o.dst t.U) (pre++post)
 |[],s,h,_=>⟨h.1,h.2,rfl⟩
 |p::pre,s,h,hp=>by
  obtain ⟨h1,h2⟩:=h;obtain ⟨i1,i2,i3⟩:=Chain.first h2 (λq hq=>hp q (by simp[hq]))
  have ha:=hp p y_;obtain ⟨b1,b2,b3,b4,b5,b6⟩:=Ac5 ha;have ht:t.ok P all s:=by
   rcases b5 with b5|⟨c1,c2⟩
   ·exact Stp.congr i1 (λ d hd=>(upd_σ_ne (λ e=>b1 d e hd)).symm) (λ k hk=>(Aeb (λ hm=>by
     rcases hk with hk|hk
     ·exact b5 k hm hk
     ·exact b4 k hm hk)).symm)
   ·exact Stp.congrI i1 c2 (λd hd=>(upd_σ_ne (λe=>b1 d e hd)).symm) (λk _=>(Stp.lens h1 c1 k).symm)
  have x8:p.ok P all (s.upd t.o.dst t.U):=by
   rcases b6 with b6|⟨c1,c2⟩
   ·exact Stp.congr h1 (λ d hd=>upd_σ_ne (λ e=>b3 d e hd)) (λ k hk=>Aeb (λ hm=>by
     rcases hk with hk|hk
     ·exact b6 k hm hk
     ·exact b4 k hk hm))
   ·exact Stp.congrI h1 c2 (λd hd=>upd_σ_ne (λe=>b3 d e hd)) (λk _=>Stp.lens ht c1 k)
  refine⟨ht,⟨x8,?_⟩,?_⟩
  ·rw[←Ami ha];exact i2
  ·show fin (s.upd p.o.dst p.U) (pre++t::post)=fin ((s.upd t.o.dst t.U).upd p.o.dst p.U) (pre++post);rw[i3,Ami ha]
def Acd{all:Array Oper}{t:Stp}{post:List Stp}:∀{pre:List Stp},Mi all (pre++t::post)=true→(∀p∈pre,Vn all p t=true∨aft all p t=true)∧Mi all (pre++post)=true
 |[],h=>by
  simp only[wC,Mi,zE]at h;exact⟨by simp,h.2⟩
 |p::pre,h=>by
  simp only[xS,Mi,zE]at h;obtain ⟨h1,h2⟩:=h;obtain ⟨i1,i2⟩:=Acd h2;have key:∀l:List Stp,Aa1 all p (l++t::post)=true→(Vn all p t=true∨aft all p t=true)∧Aa1 all p (l++post)=true:=by
   intro l
   induction l with
   |nil=>intro h;simp only[wC,Aa1,zE,yM]at h;exact h
   |cons q l ih=>
    intro h;simp only[xS,Aa1,zE]at h⊢;exact⟨(ih h.2).1,h.1,(ih h.2).2⟩
  obtain ⟨k1,k2⟩:=key pre h1;refine⟨λq hq=>?_,?_⟩
  ·rcases yH.1 hq with rfl|hq
   ·exact k1
   ·exact i1 q hq
  ·simp only[xS,Mi,zE];exact⟨k2,i2⟩
def Azh{P:Program}{F:Fr}{n:Nat}{all:Array Oper}{Q:Exit→Act→World→Prop}(ni:∀(i:Nat) (o:Oper),all[i]? = some o→∀d,o.dst=some d→d<n):∀(m:Nat) (rem:List Stp) (listed:Array Bool) (s:SS) (κ:Ka) (a:Act) (w:World),rem.length=m→St F n s κ a w→Chain P all s rem→Mi all rem=true→(∀t∈rem,Ad3 t=true) →
   (∀i,listed.getD i true=false↔∃t∈rem,t.i=i)→(rem.Pairwise λp t=>p.i<t.i)→(∀i,i<all.size→i<listed.size)→Cl all listed→(∀κ' a' w',St F n (fin s rem) κ' a' w'→Q .normal a' w')→wpAny P .any all Q m listed a w:=by
 intro m
 induction m with
 |zero=>
  intro rem listed s κ a w hm hs _ _ _ hl _ _ _ hQ;have:rem=[]:=zZ hm;subst this;refine⟨?_,hQ κ a w hs⟩;apply List.eq_nil_iff_forall_not_mem.2;intro i hi;have h1:=(mem_ready.1 hi).1;rw[hl i]at h1;obtain ⟨t,ht,_⟩:=h1;cases ht
 |succ m ih=>
  intro rem listed s κ a w hm hs hc hp he hl ab bg j5 hQ;have uq:∀t post,rem=t::post→t.i∈Region.ready .any all listed:=λt post h0=>by
   subst h0;refine mem_ready.2 ⟨(hl t.i).2 ⟨t,by simp,E⟩,t.o,hc.1.1,λe x9 hb=>?_⟩;have h1:=he t y_;simp only[Ad3,yZ,yM,yU]at h1;have h2:e.on<t.i:=by
    rcases h1 e (by simpa using x9) with h2|h2
    ·rw[hb]at h2;cases h2
    ·exact xZ h2
   have az:e.on<listed.size:=by
    refine bg _ ?_;have:t.i<all.size:=by
     have:=hc.1.1;rcases vM t.i all.size with h|h
     ·exact h
     ·rw[uO h]at this;cases this
    omega
   have h3:listed.getD e.on true≠false:=λh4=>by
    obtain ⟨q,hq,hqi⟩:=(hl e.on).1 h4;rcases yH.1 hq with rfl|hq
    ·omega
    ·have:=(vO.1 ab).1 q hq;omega
   simp only[vC,vY az,Option.getD_some]at h3⊢;cases hh:listed[e.on] with
   |true=>rfl
   |false=>exact zY hh h3
  refine⟨λh0=>?_,λi hi=>?_⟩
  ·cases rem with
   |nil=>simp at hm
   |cons t post=>
    have:=uq t post rfl;rw[h0]at this;cases this
  ·obtain ⟨h1,oi,h2,h3⟩:=mem_ready.1 hi;obtain ⟨t,ht,rfl⟩:=(hl i).1 h1;obtain ⟨pre,post,rfl⟩:=List.append_of_mem ht;obtain ⟨p1,p2⟩:=Acd hp;have hap:∀p∈pre,Vn all p t=true:=λp j0=>by
    rcases p1 p j0 with h4|h4
    ·exact h4
    ·exfalso;have eh:oi=t.o:=by
      have ar:all[t.i]? = some t.o:=by
       have:∀(l:List Stp) (s:SS),Chain P all s (l++t::post)→all[t.i]? = some t.o:=by
        intro l
        induction l with
        |nil=>intro s h;exact h.1.1
        |cons q l ih=>intro s h;exact ih _ h.2
       exact this pre s hc
      rw[ar]at h2;exact(Option.some.inj h2).symm
     rw[eh]at h3;have h5:=Avr (Ac8 j5 4 t.o h3 h4);have h6:=(hl p.i).2 ⟨p,by simp[j0],rfl⟩;rw[h5]at h6;cases h6
   obtain ⟨c1,c2,c3⟩:=hc.first hap
   have jx:(pre++post).Pairwise λp t=>p.i<t.i:=by
    rw[tX]at ab⊢;obtain ⟨q1,q2,q3⟩:=ab;exact⟨q1,(vO.1 q2).2,λx hx y hy=>q3 x hx y (by simp[hy])⟩
   have ag:∀q∈pre++post,q.i≠t.i:=λq hq=>by
    rw[tX]at ab;obtain ⟨q1,q2,q3⟩:=ab;rcases yI.1 hq with hq|hq
    ·have:=q3 q hq t y_;omega
    ·have:=(vO.1 q2).1 q hq;omega
   have ny:∀i,(listed.setIfInBounds t.i true).getD i true=false↔∃q∈pre++post,q.i=i:=λi=>by
    by_cases ed:t.i=i
    ·subst ed;constructor
     ·intro h4;exfalso;rcases vM t.i listed.size with h5|h5
      ·simp[h5]at h4
      ·rw[vC,uO (by simpa using h5)]at h4;cases h4
     ·rintro ⟨q,hq,hqi⟩;exact zY hqi (ag q hq)
    ·rw[getD_set_ne true ed,hl i];constructor
     ·rintro ⟨q,hq,rfl⟩;refine⟨q,?_,E⟩;simp only[yI,yH]at hq⊢;rcases hq with hq|rfl|hq
      ·exact .inl hq
      ·exact zY E ed
      ·exact .inr hq
     ·rintro ⟨q,hq,rfl⟩;refine⟨q,?_,E⟩;simp only[yI,yH]at hq⊢;rcases hq with hq|hq
      ·exact .inl hq
      ·exact .inr (.inr hq)
   have ya:∀i,listed.getD i false=true→(listed.setIfInBounds t.i true).getD i false=true:=λi h=>by
    by_cases ed:t.i=i
    ·subst ed;rcases vM t.i listed.size with h5|h5
     ·simp[h5]
     ·rw[vC,uO h5]at h;cases h
    ·rw[getD_set_ne false ed];exact h
   have hcl':Cl all (listed.setIfInBounds t.i true):=λi o wa nq e ey dr=>by
    refine ya _ ?_;by_cases ed:t.i=i
    ·subst ed;rw[h2]at wa;cases wa;exact h3 e ey dr
    ·rw[getD_set_ne true ed]at nq;exact j5 i o wa nq e ey dr
   have next:∀(κ':Ka) (a':Act) (w':World),St F n (s.upd t.o.dst t.U) κ' a' w'→wpAny P .any all Q m (listed.setIfInBounds t.i true) a' w':=λκ' a' w' v8=>
    ih (pre++post) _ (s.upd t.o.dst t.U) κ' a' w' (by simp at hm⊢;omega) v8 c2 p2 (λq hq=>he q (by simp only[yI,yH]at hq⊢;exact hq.imp id .inr)) ny jx (by simpa using bg) hcl' (by rw[←c3];exact hQ)
   have eh:all[t.i]? = some t.o:=c1.1;have hdt:=ni t.i t.o eh;unfold wpOp;rw[eh];obtain ⟨_,d2,d3,d4⟩:=c1;have yb:=Vu (o:=t.o) hs (λ j want hg d hd=>by
    cases hj:all[j]? with
    |none=>rw[hj]at hd;cases hd
    | some oj=>rw[hj]at hd;exact ni j oj hj d (by simpa using hd)) d2
   simp only[yb];cases hw:t.want with
   |true=>
    simp only[if_true];exact .inl ((d3 hw).good κ a w hs.inv (λx _=>hs.ev x) (λj _=>hs.obj j) _ _ (λv κ' w' st inv hv ho ie=>next κ' _ w' (hs.put2 hdt st inv hv ho ie)))
   |false=>
    simp only[Bool.false_eq_true,if_false];refine next κ _ w ?_;rw[d4 hw];exact hs.put (U:=⟨.val undef,[],[]⟩) hdt (Step.refl _ κ w) hs.inv (by simp[Rd]) (λp hp=>by cases hp)
variable {C:Cx} {k:List KI} {s:SS}
def DR(C:Cx)(k:List KI)(all:Array Oper)(done:List Stp)(rest:List Oper)(s:SS):Prop :=
 ∃ts:List Stp,ts.map (·.o)=rest∧(∀j t,ts[j]? = some t→t.i=done.length+j)∧Chain C.P all s ts∧Mi all (done++ts)=true∧(done++ts).all Ad3=true∧G C k (fin s ts)
def Alr(all:Array Oper)(done:List Stp):Bool:=Mi all done&&done.all Ad3
theorem DR_nil{all:Array Oper}{done:List Stp}(hp:Alr all done=true)(h:G C k s):DR C k all done [] s:=by
 simp only[Alr,zE]at hp;exact⟨[],E,by simp,Y,by simpa using hp.1,by rw[xC];exact hp.2,h⟩
theorem A63{all:Array Oper}{done:List Stp}{o:Oper}{rest:List Oper}(U:Up)(hg:GoodX C.P o s U)(hi:all[done.length]? = some o)(hw:Yq all s o.guard true)(h:DR C k all (done++[⟨done.length,o,U,true⟩]) rest (s.upd o.dst U)):DR C k all done (o::rest) s:=by
 obtain ⟨ts,h1,h2,h3,h4,h5,h6⟩:=h;refine⟨⟨done.length,o,U,true⟩::ts,by simp[h1],λj t hj=>?_,⟨⟨hi,hw,λ_=>hg,λhf=>by cases hf⟩,h3⟩,by simpa using h4,by simpa using h5,h6⟩;cases j with
 |zero=>simp only[tG,Option.some.injEq]at hj;subst hj;rfl
 |succ j=>have:=h2 j t (by simpa using hj);simp at this;omega
theorem A6q{all:Array Oper}{done:List Stp}{o:Oper}{rest:List Oper}(hi:all[done.length]? = some o)(hw:Yq all s o.guard false)(h:DR C k all (done++[⟨done.length,o,⟨.val undef,[],[]⟩,false⟩]) rest (s.upd o.dst ⟨.val undef,[],[]⟩)):DR C k all done (o::rest) s:=by
 obtain ⟨ts,h1,h2,h3,h4,h5,h6⟩:=h;refine⟨⟨done.length,o,⟨.val undef,[],[]⟩,false⟩::ts,by simp[h1],λj t hj=>?_,⟨⟨hi,hw,λhf=>(by cases hf),λ_=>rfl⟩,h3⟩,by simpa using h4,by simpa using h5,h6⟩;cases j with
 |zero=>simp only[tG,Option.some.injEq]at hj;subst hj;rfl
 |succ j=>have:=h2 j t (by simpa using hj);simp at this;omega
def At1(n:Nat)(ops:List Oper):Bool:=ops.all λo=>match o.dst with|some d=>Nat.blt d n|none=>true
theorem G_draw{id:Nat}{ops:Array Oper}(hm:C.P.follows .mixedOrders=true)(hd:At1 C.n ops.toList=true)(h:DR C k ops [] ops.toList s):G C (.code (.region id ops true)::k) s:=λκ a w hs=>by
 obtain ⟨ts,h1,h2,h3,h4,h5,h6⟩:=h;have ni:∀(i:Nat) (o:Oper),ops[i]? = some o→∀d,o.dst=some d→d<C.n:=λi o hi d hod=>by
  simp only[At1,yZ]at hd;have gx:o∈ops.toList:=by
   rw[←vK]at hi;exact List.mem_of_getElem? hi
  have:=hd o gx;rw[hod]at this;exact xZ this
 have hlen:ts.length=ops.size:=by
  have:=zH List.length h1;simpa using this
 have v8:St C.F C.n s κ a {w with drawn:=w.drawn+1}:=by
  have g:=Grew.drew w;have st:Step (λ_=>False) κ w κ w.drew:=⟨g.size,g.os,g.tape,g.output,rfl,λb _=>rfl,λb _ _=>rfl,λ_ _ _ _=>rfl,λ_ _=>rfl,λ_ h=>h.elim,λ_ h=>.inl h⟩
  have inv:Inv κ w.drew:=⟨hs.inv.inj,hs.inv.bnd,hs.inv.apart,hs.inv.mbnd⟩
  exact⟨hs.defers,hs.size,inv,hs.ctx.step inv st,λi=>Rd.step st _ _ (hs.slot i),λj=>ObOK.step st (λh=>h) _ (hs.obj j)⟩
 refine wp_region_any hm (Azh ni ops.size ts (Array.replicate ops.size false) s κ a _ hlen v8 h3 (by simpa using h4) (by simpa using h5) ?_ ?_ y_ ?_ (λκ' a' w' hs''=>h6 κ' a' w' hs''))
 ·intro i;simp only[vC,Array.getElem?_replicate];constructor
  ·intro h7;split at h7
   ·rename_i hi;have:i<ts.length:=by omega
    exact⟨ts[i],zI this,by simpa using h2 i ts[i] (zT this)⟩
   ·cases h7
  ·rintro ⟨t,ht,rfl⟩;obtain ⟨j,hj,rfl⟩:=yY.1 ht;have:=h2 j ts[j] (zT hj);simp only[xM,wE]at this;rw[this,zG q_];rfl
 ·rw[vH];intro i j hi hj br;have e1:=h2 i ts[i] (zT hi);have e2:=h2 j ts[j] (zT hj);omega
 ·intro i o wa nq;exfalso;have:i<ops.size:=by
   rcases vM i ops.size with h|h
   ·exact h
   ·rw[uO h]at wa;cases wa
  simp only[vC,Array.getElem?_replicate,zG this]at nq;cases nq
def Al(b:UInt8):SV:=.val (.int .u8 b.toNat)
def Aa(n:Int):SV:=.val (.int .i64 n)
def Ab(b:Bool):SV:=.val (.bool b)
def A2(n:Int):SV:=.val (.int .u64 n)
def Bb(n:Int):SV:=.val (.int .u32 n)
def Aw(s:ByteArray):SV:=.val (.string s)
theorem Ayp{P:Program}(Γ:Ty P){t:TypeId}{ti:TI}{k:IntKind}(ht:Γ.get t=some ti)(hk:ti.k=.int k):P.underlying t=some (.int k):=by
 obtain ⟨d,info,z,k1,k2,_⟩:=Γ.ok t ti ht;rw[hk]at k2;simp only[TK.ok]at k2;subst k2;exact k1
theorem Awq{P:Program}(Γ:Ty P){t:TypeId}{ti:TI}(ht:Γ.get t=some ti)(hk:ti.k=.string):P.underlying t=some .string:=by
 obtain ⟨d,info,z,k1,k2,_⟩:=Γ.ok t ti ht;rw[hk]at k2;simp only[TK.ok]at k2;subst k2;exact k1
theorem Zv{P:Program}(Γ:Ty P){o:Oper}{s:SS}{src dst:TypeId}{si di ei:TI}{x:Operand}{et:TypeId}{eb n:Nat}{ez:List Value}{ks:List Nat}{f:Nat→SV→Prop}(bs:List UInt8)(h:o.op=.convert src dst x)(hs:Γ.get src=some si)(hsk:si.k=.slice et 1 eb ez)(he:Γ.get et=some ei)(hek:ei.k=.int .u8)(hd:Γ.get dst=some di)(yc:di.k=.string)(hx:AppSrc s 1 (ev s x) ks n f)(hn:n=bs.length)(hf:∀i (h:i<bs.length),f i (Al bs[i])):Good P o s ⟨.val (.string ⟨bs.toArray⟩),ks,[]⟩ :=
 Good.pure λκ a w hi hr ho=>by
  have r1:=hr x (by simp[h,Op.operands]);have jr:=hx.src r1 ho;obtain ⟨hu,_⟩:=Cq Γ hs hsk;have he':=Ayp Γ he hek;have p9:=Awq Γ hd yc;refine⟨.string ⟨bs.toArray⟩,?_,by simp[Rd]⟩;rcases jr with ⟨h0,cu,ad,cap,e1⟩|⟨b,off,cap,news,e1,e2,e3,e4,e5⟩
  ·have hb:bs=[]:=zZ q_;subst hb;cases ad with
   |none=>simp[execOp,h,e1,run_convert_bytes_nil w src et hu he' 0 cap dst p9];rfl
   |some ad=>
    have:=run_convert_bytes_back (P:=P) w src dst et ad cap [] hu he' p9 (λj hj=>by simp at hj);simp only[xM]at this;simp[execOp,h,e1,this]
  ·have:=run_convert_bytes_back (P:=P) w src dst et ⟨b,off,none⟩ cap bs hu he' p9 (λ j hj=>by
    obtain ⟨q0,u,q1,q2,q3,q4⟩:=e5 j _ (hf j hj);have rj:u=.int .u8 bs[j].toNat:=by simpa [Al,RdD] using q1
    have q5:=q4 0 q_;rw[rj]at q5;simp only[Nat.mul_one,Nat.add_zero,Value.cells]at q5;rw[Addr.add_lit];exact e4 j _ (by simpa using q5))
   rw[←hn]at this;simp[execOp,h,e1,this]
inductive EK|int (k:IntKind)|bool|string
def EK.desc:EK→TypeDesc| .int k=>.int k| .bool=>.bool| .string=>.string
def Atw(P:Program):Nat→List Field→List EK→Prop
 |_,[],[]=>True
 |i, f::fs, k::ks=> f.name ≠ "_" ∧ f.offset = i ∧ P.underlying f.type = some k.desc ∧ Atw P (i + 1) fs ks
 |_,_,_=>False
structure EqOK(P:Program)(t:TypeId)(ks:List EK):Prop where
 under:P.underlying t=some (.struct (P.fieldsOf t))
 stood:P.stoodInHeld t=false
 guard:P.eqGuardType P.depth t=false
 fields:Atw P 0 (P.fieldsOf t).toList ks
def eq1(k:EK)(x y:SV):Option Bool :=
 match k,x,y with
 | .int _,.val (.int k1 a),.val (.int k2 b)=>if k1=k2 then some (a==b) else none
 | .bool,.val (.bool a),.val (.bool b)=>some (a==b)
 | .string,.val (.string a),.val (.string b)=>some (a==b)
 |_,_,_=>none
theorem A56{P:Program}{κ:Ka}{w:World}(d:Nat){t:TypeId}{k:EK}(ht:P.underlying t=some k.desc){x y:SV}{u v:Value}{b:Bool}(h:eq1 k x y=some b)(hx:Rd κ w x u)(hy:Rd κ w y v):(Op.equalIn (d+1) t u v).run P w=.ok b w:=by
 unfold eq1 at h;split at h
 ·split at h
  ·rename_i hk;subst hk;simp only[Option.some.injEq]at h;rw[hx.val,hy.val,←h];exact run_equalIn_int w d t _ _ _ _ ht
  ·cases h
 ·simp only[Option.some.injEq]at h;rw[hx.val,hy.val,←h];exact run_equalIn_bool' w d t _ _ ht
 ·simp only[Option.some.injEq]at h;rw[hx.val,hy.val,←h,beq_toListBytes];exact run_equalIn_string w d t _ _ ht
 ·cases h
def eqS:List EK→List SV→List SV→Option Bool
 |[],[],[]=>some true
 |k::ks,x::l,y::m=>match eq1 k x y,eqS ks l m with
  |some a,some b=>some (a&&b)
  |_,_=>none
 |_,_,_=>none
theorem Aep{P:Program}(w:World){t:TypeId}{k:EK}(h:P.underlying t=some k.desc)(cs:Array Value){i:Nat}{v:Value}(hv:cs[i]? = some v):(part t cs i).run P w=.ok v w:=by
 cases k<;>simp only[EK.desc]at h<;>simp[part,isAgg,run_underlying h,hv]
theorem A3m{P:Program}{κ:Ka}{w:World}{xs ys:Array Value}(d:Nat):∀(ks:List EK) (fs:List Field) (i:Nat) (l m:List SV) (r:Bool),Atw P i fs ks→RdL κ w l (xs.toList.drop i)→RdL κ w m (ys.toList.drop i)→eqS ks l m=some r →
  (Op.eqFields (d+1) xs ys fs).run P w=.ok r w
 |[],[],i,l,m,r,_,_,_,he=>by
  cases l<;>cases m<;>simp[eqS]at he
  subst he;simp[Op.eqFields]
 |[],_::_,i,l,m,r,h,_,_,_=>by simp[Atw]at h
 |_::_,[],i,l,m,r,h,_,_,_=>by simp[Atw]at h
 |k::ks,f::fs,i,[],m,r,h,hl,hm,he=>by simp[eqS]at he
 |k::ks,f::fs,i,x::l,[],r,h,hl,hm,he=>by simp[eqS]at he
 |k::ks,f::fs,i,x::l,y::m,r,h,hl,hm,he=>by
  simp only[Atw]at h;obtain ⟨h1,h2,h3,h4⟩:=h;simp only[RdL]at hl hm;obtain ⟨v,q,e1,e2,e3⟩:=hl;obtain ⟨u,p,f1,f2,f3⟩:=hm;have g1:xs[i]? = some v:=by
   have:=zH (λl=>l[0]?) e1;simpa using this
  have g2:ys[i]? = some u:=by
   have:=zH (λl=>l[0]?) f1;simpa using this
  have e4:xs.toList.drop (i+1)=q:=by
   have:=zH (List.drop 1) e1;simpa [tJ] using this
  have f4:ys.toList.drop (i+1)=p:=by
   have:=zH (List.drop 1) f1;simpa [tJ] using this
  have p1:=Aep (P:=P) w h3 xs g1;have p2:=Aep (P:=P) w h3 ys g2;simp only[eqS]at he;cases hb:eq1 k x y with
  |none=>rw[hb]at he;cases he
  |some b=>
   cases hq:eqS ks l m with
   |none=>rw[hb,hq]at he;cases he
   |some r'=>
    rw[hb,hq]at he;simp only[Option.some.injEq]at he;have au:=A56 (P:=P) (κ:=κ) (w:=w) d h3 hb e2 f2;have ih:=A3m d ks fs (i+1) l m r' h4 (by rw[e4];exact e3) (by rw[f4];exact f3) hq;simp only[Op.eqFields,zG h1,Sem.run_bind,h2,p1,p2,Result.andThen_ok,au];subst he;cases b
    ·simp
    ·simp[ih]
theorem Aco{P:Program}{o:Oper}{s:SS}{op:BinOp}{t yt:TypeId}{x y:Operand}{l m:List SV}{ks:List EK}{r:Bool}(h:o.op=.binOp op t x y yt)(hop:op=.eql∨op=.neq)(hq:EqOK P t ks)(hx:ev s x=.agg l)(hy:ev s y=.agg m)(hr:eqS ks l m=some r):Good P o s ⟨.val (.bool (if op=.eql then r else !r)),[],[]⟩ :=
 Good.pure λκ a w _ ie _=>by
  have h1:=ie x (by simp[h,Op.operands]);have h2:=ie y (by simp[h,Op.operands]);rw[hx]at h1;rw[hy]at h2;simp only[Rd]at h1 h2;obtain ⟨cs,e1,_,e3⟩:=h1;obtain ⟨ds,f1,_,f3⟩:=h2;have au:(Op.equal t (.agg cs.toArray) (.agg ds.toArray)).run P w=.ok r w:=by
   show (Op.equalIn (9999+1) t (.agg cs.toArray) (.agg ds.toArray)).run P w=.ok r w;rw[run_equalIn_struct w 9999 t _ _ hq.under hq.stood];exact A3m (κ:=κ) 9998 ks _ 0 l m r hq.fields (by simpa using e3) (by simpa using f3) hr
  have hg:(eqGuard op t x y (.agg cs.toArray) (.agg ds.toArray)).run P w=.ok () w:=by
   rcases hop with rfl|rfl<;>simp[eqGuard,hq.guard]
  refine⟨.bool (if op=.eql then r else !r),?_,by simp[Rd]⟩;rcases hop with rfl|rfl<;>simp[execOp,h,e1,f1,hg,binOp,au]
theorem Zu{P:Program}(Γ:Ty P){o:Oper}{s:SS}{op:BinOp}{t yt:TypeId}{ti:TI}{x y:Operand}{p q:Bool}(h:o.op=.binOp op t x y yt)(hop:op=.eql∨op=.neq)(ht:Γ.get t=some ti)(hk:ti.k=.bool)(hx:ev s x=.val (.bool p))(hy:ev s y=.val (.bool q)):Good P o s ⟨.val (.bool (if op=.eql then p==q else p != q)),[],[]⟩ :=
 Good.pure λκ a w _ ie _=>by
  have h1:=ie x (by simp[h,Op.operands]);have h2:=ie y (by simp[h,Op.operands]);rw[hx]at h1;rw[hy]at h2;obtain ⟨d,info,z,k1,k2,_⟩:=Γ.ok t ti ht;rw[hk]at k2;simp only[TK.ok]at k2;subst k2;have au:=run_equal_bool (P:=P) w t p q k1;refine⟨.bool (if op=.eql then p==q else p != q),?_,by simp[Rd]⟩;rcases hop with rfl|rfl<;>simp[execOp,h,h1.val,h2.val,eqGuard_at_bool,binOp,au,bne]
theorem Wh{P:Program}(w:World)(d:Nat){t e:TypeId}(h:P.underlying t=some (.pointer e))(p:Option Addr):(Op.equalIn (d+1) t (.pointer p) (.pointer none)).run P w=.ok p.isNone w:=by
 cases p<;>simp[Op.equalIn,run_underlying h]
theorem Acn{P:Program}(Γ:Ty P){o:Oper}{s:SS}{op:BinOp}{t yt:TypeId}{ti:TI}{x y:Operand}(h:o.op=.binOp op t x y yt)(hop:op=.eql∨op=.neq)(ht:Γ.get t=some ti)(hk:ti.k=.ptr)(hy:ev s y=.val (.pointer none)){b:Bool}{rd:List Nat}(hx:(∃k off l,ev s x=.ptr k off∧s.h k=.box l∧rd=[k]∧b=false)∨(ev s x=.val (.pointer none)∧rd=[]∧b=true)):Good P o s ⟨.val (.bool (if op=.eql then b else !b)),rd,[]⟩ :=
 Good.pure λκ a w _ ie ho=>by
  have h1:=ie x (by simp[h,Op.operands]);have h2:=ie y (by simp[h,Op.operands]);rw[hy]at h2;obtain ⟨d,info,z,k1,k2,_⟩:=Γ.ok t ti ht;rw[hk]at k2;simp only[TK.ok]at k2;obtain ⟨e,rfl⟩:=k2;have key:∃p:Option Addr,a.eval x=.pointer p∧p.isNone=b:=by
   rcases hx with ⟨k,off,l,hx,hl,rfl,rfl⟩|⟨hx,rfl,rfl⟩
   ·have h3:=ho k y_;rw[hl]at h3;obtain ⟨bb,cs,T,fr,e1,_⟩:=h3;rw[hx]at h1;simp only[Rd,e1]at h1;exact⟨_,h1,E⟩
   ·rw[hx]at h1;exact⟨none,h1.val,E⟩
  obtain ⟨p,e1,e2⟩:=key;have au:(Op.equal t (.pointer p) (.pointer none)).run P w=.ok b w:=by
   show (Op.equalIn (9999+1) t (.pointer p) (.pointer none)).run P w=.ok b w;rw[Wh w 9999 k1,e2]
  refine⟨.bool (if op=.eql then b else !b),?_,by simp[Rd]⟩;rcases hop with rfl|rfl<;>simp[execOp,h,e1,h2.val,eqGuard_at_pointer,binOp,au]
def fv(x:SV)(K:SV→Prop):Prop :=
 match x with
 | .val v=>(match v with
  | .int k n=>K (.val (.int k n))
  | .bool b=>K (.val (.bool b))
  | .string b=>K (.val (.string b))
  | v=>K (.val v))
 | .agg l=>K (.agg l)
 | .tup l=>K (.tup l)
 | .sl sz e l=>K (.sl sz e l)
 | .ref sz x o=>K (.ref sz x o)
 | .ptr k o=>K (.ptr k o)
 | .rpt k sz i o=>K (.rpt k sz i o)
 | .osl k=>K (.osl k)
 | .ifc t x=>K (.ifc t x)
 | .clo f g l=>K (.clo f g l)
 | .top=>K .top
theorem Abc(x:SV)(K:SV→Prop):fv x K↔K x:=by
 unfold fv;split<;>first|rfl|(split<;>rfl)
def fl(l:List SV)(K:List SV→Prop):Prop :=
 match l with
 |[]=>K []
 |x::r=>fv x λx'=>fl r λr'=>K (x'::r')
theorem Qg:∀(l:List SV) (K:List SV→Prop),fl l K↔K l
 |[],K=>Iff.rfl
 |x::r,K=>by unfold fl;rw[Abc,Qg r]
def fa(x:SV)(K:SV→Prop):Prop :=
 match x with
 | .agg l=>fl l λl=>K (.agg l)
 | .tup l=>fl l λl=>K (.tup l)
 |x=>fv x K
theorem A3i(x:SV)(K:SV→Prop):fa x K↔K x:=by
 unfold fa;split
 ·exact Qg _ _
 ·exact Qg _ _
 ·exact Abc _ _
def I64(x:Int):Prop:=-9223372036854775808≤x∧x≤9223372036854775807
theorem I64.wrap{x:Int}(h:I64 x):IntKind.i64.wrap x=x:=by
 obtain ⟨h1,h2⟩:=h;rw[IntKind.wrap_i64];omega
def A2v(op:BinOp)(k:IntKind)(a b:Int)(K:SV→Prop)(stop:Prop):Prop :=
 match op with
 | .add=>(match k with| .i64=>I64 (a+b)∧K (.val (.int .i64 (a+b)))|k=>K (.val (.int k (k.wrap (a+b)))))
 | .sub=>(match k with| .i64=>I64 (a-b)∧K (.val (.int .i64 (a-b)))|k=>K (.val (.int k (k.wrap (a-b)))))
 | .mul=>(match k with| .i64=>I64 (a*b)∧K (.val (.int .i64 (a*b)))|k=>K (.val (.int k (k.wrap (a*b)))))
 | .quo=>b≠0∧K (.val (.int k (k.wrap (a.tdiv b))))
 | .rem=>b≠0∧K (.val (.int k (a.tmod b)))
 | .and=>K (.val (.int k (bits .and k a b)))
 | .or=>K (.val (.int k (bits .or k a b)))
 | .xor=>K (.val (.int k (bits .xor k a b)))
 | .andNot=>K (.val (.int k (bits .andNot k a b)))
 | .lss=>K (.val (.bool (decide (a<b))))
 | .leq=>K (.val (.bool (decide (a≤b))))
 | .gtr=>K (.val (.bool (decide (a>b))))
 | .geq=>K (.val (.bool (decide (a≥b))))
 | .eql=>K (.val (.bool (a==b)))
 | .neq=>K (.val (.bool (a != b)))
 |_=>stop
def Akm(op:BinOp)(k:IntKind)(a b:Int)(K:SV→Prop)(stop:Prop):Prop :=
 match op with
 | .shl=>0≤b∧K (.val (.int k (k.wrap (a*2^(min b.toNat k.bits)))))
 | .shr=>0≤b∧K (.val (.int k (a.fdiv (2^(min b.toNat k.bits)))))
 |_=>stop
def A5u:BinOp→Bool| .shl=>true| .shr=>true|_=>false
def A0k(op:BinOp)(a b:ByteArray)(K:SV→Prop)(stop:Prop):Prop :=
 match op with
 | .add=>a.size+b.size≤9223372036854775807∧K (.val (.string (a++b)))
 | .eql=>K (.val (.bool (a==b)))
 | .neq=>K (.val (.bool (!(a==b))))
 | .lss=>K (.val (.bool (Op.bytesLess a.toList b.toList)))
 | .gtr=>K (.val (.bool (!(Op.bytesLess a.toList b.toList||a==b))))
 |_=>stop
structure TyE(P:Program) extends Ty P where
 eqs:TypeId→Option (List EK)
 eqok:∀t ks,eqs t=some ks→EqOK P t ks
def bnd(s:SS)(x:Option Operand)(d:Int)(K:Int→Prop)(stop:Prop):Prop :=
 match x with
 |none=>K d
 | some y=>(match ev s y with
  | .val (.int _ n)=>K n
  | _=>stop)
def Bu(b:ByteArray)(i:Nat):UInt8:=b.data.toList.getD i 0
def opW{P:Program}(Γ:TyE P)(o:Oper)(s:SS)(K:Up→Prop)(stop:Prop):Prop :=
 match o.op with
 | .move x=>fv (ev s x) λv=>K ⟨v,[],[]⟩
 | .assign x=>fv (ev s x) λv=>K ⟨v,[],[]⟩
 | .pick c a b=>(match ev s c with
  | .val (.bool c)=>(match c with
   |true=>fv (ev s a) λv=>K ⟨v,[],[]⟩
   | false=>fv (ev s b) λ v=>K ⟨v,[],[]⟩)
  | _=>stop)
 | .alloc t=>(match o.dst with
  | some d=>(match s.h d with
   | .fresh=>(match Γ.get t with
    | some i=>(match Ace i.zero with
     |true=>fl (i.zero.map .val) λl=>K ⟨.ptr d 0,[],[(d,.box l)]⟩
     | false=>stop)
    | none=>stop)
   | _=>stop)
  | none=>stop)
 | .box _ x=>(match o.dst with
  | some d=>(match s.h d with
   | .fresh=>(match (ev s x).boxed with
    |true=>fl (cellsOf (ev s x)) λl=>K ⟨.ptr d 0,[],[(d,.box l)]⟩
    | false=>stop)
   | _=>stop)
  | none=>stop)
 | .load t x=>(match Γ.get t with
  | some i=>(match ev s x with
   | .ptr k off=>(match s.h k with
    | .box l=>(match M0 i l off with
     |some y=>fa y λy=>K ⟨y,[k],[]⟩
     | none=>stop)
    | _=>stop)
   | .ref _ z off=>(match z.boxed with
    | true=>(match M0 i (cellsOf z) off with
     |some y=>fa y λy=>K ⟨y,[],[]⟩
     | none=>stop)
    | false=>stop)
   | .rpt k sz n off=>(match s.h k with
    | .row dz e l=>dz=sz∧∃ h:n<l.length,(match (e l[n]).boxed with
     | true=>(match M0 i (cellsOf (e l[n])) off with
      |some y=>fa y λy=>K ⟨y,[k],[]⟩
      | none=>False)
     | false=>False)
    | .lit dz svs=>dz=sz∧(match If svs n with
     | some z=>(match z.boxed with
      | true=>(match M0 i (cellsOf z) off with
       |some y=>fa y λy=>K ⟨y,[k],[]⟩
       | none=>False)
      | false=>False)
     | none=>False)
    | _=>stop)
   | _=>stop)
  | none=>stop)
 | .store t x y=>(match Γ.get t with
  | some i=>(match ev s x with
   | .ptr k off=>(match s.h k with
    | .box l=>(match (ev s y).boxed && Nat.beq (cellsOf (ev s y)).length i.size && Nat.ble (off+i.size) l.length with
     |true=>fl (setAt l off (cellsOf (ev s y))) λl=>K ⟨.val undef,[],[(k,.box l)]⟩
     | false=>stop)
    | _=>stop)
   | .rpt k sz n off=>(match s.h k with
    | .row (α:=α) dz e l=>dz=sz∧∃(h:n<l.length) (z:α),cellsOf (e z)=setAt (cellsOf (e l[n])) off (cellsOf (ev s y)) ∧
      (((ev s y).boxed&&Nat.beq (cellsOf (ev s y)).length i.size&&Nat.ble (off+i.size) sz&&(e l[n]).boxed&&(e z).boxed&&(e z).data)=true)∧K ⟨.val undef,[],[(k,.row dz e (l.set n z))]⟩
    | _=>stop)
   | _=>stop)
  | none=>stop)
 | .fieldAddr t x f=>(match Γ.get t with
  | some i=>(match i.k with
   | .struct fs=>(match fs[f]? with
    | some (fo,fn)=>(match fn with
     |0=>stop
     | _+1=>(match ev s x with
      | .ptr k off=>(match s.h k with
       | .box _=>K ⟨.ptr k (off+fo),[k],[]⟩
       | _=>stop)
      | .ref sz z off=>K ⟨.ref sz z (off+fo),[],[]⟩
      | .rpt k sz n off=>(match s.h k with
       | .row (α:=α) dz e l=>l≠[]∧K ⟨.rpt k sz n (off+fo),[k],[]⟩
       | .lit _ _=>K ⟨.rpt k sz n (off+fo),[k],[]⟩
       | _=>stop)
      | _=>stop))
    | none=>stop)
   | _=>stop)
  | none=>stop)
 | .nilCheck x=>(match ev s x with
  | .ptr k off=>(match s.h k with
   | .box _=>K ⟨.ptr k off,[k],[]⟩
   | _=>stop)
  | .ref sz z off=>K ⟨.ref sz z off,[],[]⟩
  | .clo fn first cap=>(match fn with
   | .func f=>K ⟨.clo (.func f) first cap,[],[]⟩
   | _=>stop)
  | _=>stop)
 | .indexAddr t x y=>(match Γ.get t with
  | some i=>(match i.k with
   | .slice _ esz _ _=>(match ev s y with
    | .val (.int _ n)=>(match ev s x with
     | .sl sz e l=>esz=sz∧∃(_:0≤n) (h:n.toNat<l.length),K ⟨.ref sz (e l[n.toNat]) 0,[],[]⟩
     | .osl k=>(match (s.h k).len with
      |some len=>0≤n∧n.toNat<len∧K ⟨.rpt k esz n.toNat 0,[k],[]⟩
      | none=>stop)
     | _=>stop)
    | _=>stop)
   | .array _ len esz=>(match ev s y with
    | .val (.int _ n)=>(match ev s x with
     | .ptr k off=>(match s.h k with
      | .box _=>0≤n∧n.toNat<len∧K ⟨.ptr k (off+n.toNat*esz),[k],[]⟩
      | _=>stop)
     | .ref sz z off=>0≤n∧n.toNat<len∧K ⟨.ref sz z (off+n.toNat*esz),[],[]⟩
     | _=>stop)
    | _=>stop)
   | _=>stop)
  | none=>stop)
 | .binOp op t x y _=>(match ev s x,ev s y with
  | .val (.int k a),.val (.int k' b)=>(match A5u op with
   |true=>Akm op k a b (λv=>K ⟨v,[],[]⟩) stop
   | false=>if k=k' then A2v op k a b (λ v=>K ⟨v,[],[]⟩) stop else stop)
  | .val (.string a),.val (.string b)=>A0k op a b (λv=>K ⟨v,[],[]⟩) stop
  | .val (.bool p),.val (.bool q)=>(match Γ.get t with
   | some i=>(match i.k with
    | .bool=>(match op with
     | .eql=>K ⟨.val (.bool (p==q)),[],[]⟩
     | .neq=>K ⟨.val (.bool (p != q)),[],[]⟩
     | _=>stop)
    | _=>stop)
   | none=>stop)
  | .agg l,.agg m=>(match Γ.eqs t with
   | some ks=>(match eqS ks l m with
    | some r=>(match op with
     | .eql=>K ⟨.val (.bool r),[],[]⟩
     | .neq=>K ⟨.val (.bool (!r)),[],[]⟩
     | _=>stop)
    | none=>stop)
   | none=>stop)
  | .ptr k _,.val (.pointer none)=>(match s.h k with
   | .box _=>(match Γ.get t with
    | some i=>(match i.k with
     | .ptr=>(match op with
      | .eql=>K ⟨.val (.bool false),[k],[]⟩
      | .neq=>K ⟨.val (.bool true),[k],[]⟩
      | _=>stop)
     | _=>stop)
    | none=>stop)
   | _=>stop)
  | _,_=>stop)
 | .unOp op _ x=>(match op,ev s x with
  | .not,.val (.bool b)=>K ⟨.val (.bool (!b)),[],[]⟩
  | .neg,.val (.int k n)=>K ⟨.val (.int k (k.wrap (0-n))),[],[]⟩
  | _,_=>stop)
 | .extract x i=>(match ev s x with
  | .tup l=>(match If l i with
   |some y=>fa y λy=>K ⟨y,[],[]⟩
   | none=>stop)
  | _=>stop)
 | .convert src dst x=>(match Γ.get src,Γ.get dst with
  | some si,some di=>(match di.k,ev s x with
   | .int k',.val (.int _ n)=>K ⟨.val (.int k' (k'.wrap n)),[],[]⟩
   | .string,.val (.string b)=>(match si.k with
    | .string=>K ⟨.val (.string b),[],[]⟩
    | _=>stop)
   | _,_=>stop)
  | _,_=>stop)
 | .makeInterface t x=>(match Γ.get t with
  | some i=>(match i.k with
   | .iface=>stop
   | .other=>stop
   | .array _ _ _=>stop
   | _=>fv (ev s x) λ v=>K ⟨.ifc t v,[],[]⟩)
  | none=>stop)
 | .build t ps=>(match Γ.get t with
  | some i=>(match i.k with
   | .struct fs=>(match Ace i.zero with
    | true=>(match Af9 fs (i.zero.map .val) (ps.toList.map λ p=>(p.1,ev s p.2)) with
     |some out=>fl out λout=>K ⟨.agg out,[],[]⟩
     | none=>stop)
    | false=>stop)
   | _=>stop)
  | none=>stop)
 | .buildSlice t len ps=>(match o.dst with
  | some d=>(match s.h d with
   | .fresh=>(match Γ.get t with
    | some i=>(match i.k with
     | .slice _ sz _ _=>(match Mq 0 ps.toList with
      | some xs=>(match Nat.beq xs.length len && Nat.ble (len * sz) 16777216 && Aiy sz (xs.map (ev s)) with
       |true=>fl (xs.map (ev s)) λsvs=>K ⟨.osl d,[],[(d,.lit sz svs)]⟩
       | false=>stop)
      | none=>stop)
     | _=>stop)
    | none=>stop)
   | _=>stop)
  | none=>stop)
 | .index t x y=>(match Γ.get t with
  | some i=>(match i.k with
   | .string=>(match ev s x with
    | .val (.string b)=>(match ev s y with
     | .val (.int _ n)=>0≤n∧n.toNat<b.size∧K ⟨.val (.int .u8 (Bu b n.toNat).toNat),[],[]⟩
     | _=>stop)
    | _=>stop)
   | _=>stop)
  | none=>stop)
 | .slice t x lo hi mx=>(match mx with
  | none=>(match Γ.get t with
   | some i=>(match i.k with
    | .string=>(match ev s x with
     | .val (.string b)=>bnd s lo 0 (λl=>bnd s hi b.size (λh=>(0≤l∧l≤h∧h≤b.size)∧K ⟨.val (.string (b.extract l.toNat h.toNat)),[],[]⟩) stop) stop
     | _=>stop)
    | _=>stop)
   | none=>stop)
  | some _=>stop)
 | .makeFunc fn first cap=>fl (first.toList.map (ev s)) λf=>fl (cap.toList.map (ev s)) λl=>K ⟨.clo fn f l,[],[]⟩
 | .call c=>(match c.callee with
  | .builtin .len=>(match c.args.toList,c.argTypes.toList with
   | [x],t::_=>(match Γ.get t with
    | some i=>(match i.k with
     | .slice _ _ _ _=>(match ev s x with
      | .sl _ _ l=>K ⟨.val (.int .i64 l.length),[],[]⟩
      | .osl k=>(match (s.h k).len with
       |some n=>K ⟨.val (.int .i64 n),[k],[]⟩
       | none=>stop)
      | .val (.slice _ n _)=>K ⟨.val (.int .i64 n),[],[]⟩
      | _=>stop)
     | .string=>(match ev s x with
      | .val (.string b)=>K ⟨.val (.int .i64 b.size),[],[]⟩
      | _=>stop)
     | _=>stop)
    | none=>stop)
   | _,_=>stop)
  | _=>stop)
 |_=>stop
end Go.Sy
