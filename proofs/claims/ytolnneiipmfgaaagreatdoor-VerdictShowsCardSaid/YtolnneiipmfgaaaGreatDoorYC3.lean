/- Parts of a proof. -/
import Derived.Test.YtolnneiipmfgaaaGreatDoorYC2
set_option linter.all false
set_option linter.unusedVariables false
set_option linter.unusedSimpArgs false
set_option linter.deprecated false
namespace Go.Sy
theorem SS.ext'{s t:SS}(h1:∀i,s.σ i=t.σ i)(h2:∀k,s.h k=t.h k):s=t:=by
 obtain ⟨a,b⟩:=s;obtain ⟨c,d⟩:=t;have e1:a=c:=funext h1;have e2:b=d:=funext h2;rw[e1,e2]
structure Stp where
 i:Nat
 o:Oper
 U:Up
 want:Bool
def Ob.shp:Ob→Nat×Option Nat×Option (Nat×SV×Nat)
 | .box _=>(1,none,none)
 | .row _ _ l=>(0,some l.length,none)
 | .lit _ svs=>(0,some svs.length,none)
 | .glob sz x g=>(2,none,some (sz,x,g))
 | .rown _ _ l _ _=>(0,some l.length,none)
 |_=>(0,none,none)
theorem Ob.shp_len{x y:Ob}{n:Nat}(h:x.shp=y.shp)(hy:y.len=some n):x.len=some n:=by
 cases x<;>cases y<;>simp_all[Ob.shp,Ob.len]
theorem Ob.shp_box{x:Ob}{l:List SV}(h:x.shp=(Ob.box l).shp):∃m,x=.box m:=by
 cases x<;>simp_all[Ob.shp]
def Kb(o:Oper):Bool:=match o.op with| .indexAddr ..=>true|_=>false
def Qx(o:Oper):Bool:=match o.op with| .store ..=>true|_=>false
def Axp(P:Program)(o:Oper)(s:SS)(U:Up):Prop :=
 ∀(κ:Ka) (a:Act) (w:World),Inv κ w→(∀x∈o.op.operands,Rd κ w (ev s x) (a.eval x))→(∀k,k∈U.rd∨k∈U.ws→ObOK κ w k (s.h k)) →
  ∀(N:Act→World→Prop) (Q:Exit→Act→World→Prop),
   (∀v κ' w',Step (λk=>k∈U.ws∨k∈U.rd) κ w κ' w'→Inv κ' w'→Rd κ' w' U.v v→(∀x∈U.objs,ObOK κ' w' x.1 x.2)→(∀k,k∈U.rd→k∉U.ws→ObOK κ' w' k (s.h k))→N (a.put o.dst v) w')→o.wp P a w N Q
theorem Good.two{P:Program}{o:Oper}{s:SS}{U:Up}(h:Good P o s U):Axp P o s U:=λκ a w hi hr ho N Q hN=>
 h κ a w hi hr ho N Q λv κ' w' st inv hv cn=>hN v κ' w' (st.weaken λ_ hk=>.inl hk) inv hv cn λk hk hw=>ObOK.step st hw _ (ho k (.inl hk))
theorem Good.keep{P:Program}{o:Oper}{s:SS}{U:Up}(h:Good P o s U)(hk:∀p∈U.objs,s.h p.1=p.2):Axp P o s ⟨U.v,U.rd++U.ws,[]⟩:=λκ a w hi hr ho N Q hN=>
 h κ a w hi hr (λk j9=>ho k (.inl (by simpa using j9))) N Q λv κ' w' st inv hv cn=>hN v κ' w' (st.weaken λk j9=>.inr (by simp[j9])) inv hv (λx hx=>by cases hx) λk cw _=>by
  by_cases hw:k∈U.ws
  ·obtain ⟨p,hp,rfl⟩:=yS.1 hw;rw[hk p hp];exact cn p hp
  ·exact ObOK.step st hw _ (ho k (.inl cw))
theorem St.put2{F:Fr}{n:Nat}{s:SS}{κ κ':Ka}{a:Act}{w w':World}(h:St F n s κ a w){dst:Option Nat}{U:Up}{v:Value}(hd:∀d,dst=some d→d<n)(st:Step (λk=>k∈U.ws∨k∈U.rd) κ w κ' w')(hi:Inv κ' w')(hv:Rd κ' w' U.v v)(ho:∀x∈U.objs,ObOK κ' w' x.1 x.2)(hr:∀k,k∈U.rd→k∉U.ws→ObOK κ' w' k (s.h k)):St F n (s.upd dst U) κ' (a.put dst v) w' where
 defers:=by cases dst<;>exact h.defers
 size:=by cases dst<;>simp[Act.put,h.size]
 inv:=hi
 ctx:=h.ctx.step hi st
 slot i:=by
  cases dst with
  |none=>exact Rd.step st _ _ (h.slot i)
  |some d=>
   have ab:=hd d rfl;by_cases hi':i=d
   ·subst hi';simp only[SS.upd,B1,Act.put];have hs:i<a.tmps.size:=by rw[h.size];exact ab
    simpa [hs] using hv
   ·simp only[SS.upd,Cy _ _ hi',Act.put];have:(a.tmps.setIfInBounds d v).getD i undef=a.tmps.getD i undef:=by
     simp[Array.getElem?_setIfInBounds_ne (Ne.symm hi')]
    rw[this];exact Rd.step st _ _ (h.slot i)
 obj k:=Alk _ _ _ ho (λ hk=>by
  by_cases h2:k∈U.rd
  ·exact hr k h2 hk
  ·exact ObOK.step st (λ h3=>h3.elim hk h2) _ (h.obj k))
structure GoodX(P:Program)(o:Oper)(s:SS)(U:Up):Prop where
 good:Axp P o s U
 idx:Kb o=true→U.objs=[]∧∀s':SS,(∀x∈o.op.operands,ev s' x=ev s x)→(∀k∈U.rd,(s'.h k).shp=(s.h k).shp)→Good P o s' U
 st:Qx o=true→∀p∈U.objs,p.2.shp=(s.h p.1).shp
theorem GoodX.of{P:Program}{o:Oper}{s:SS}{U:Up}(h:Good P o s U)(hn:(Kb o||Qx o)=false):GoodX P o s U:=by
 simp only[wJ]at hn;exact⟨h.two,λh1=>by (rw[hn.1]at h1;cases h1),λh1=>by (rw[hn.2]at h1;cases h1)⟩
theorem GoodX.of2{P:Program}{o:Oper}{s:SS}{U:Up}(h:Axp P o s U)(hn:(Kb o||Qx o)=false):GoodX P o s U:=by
 simp only[wJ]at hn;exact⟨h,λh1=>by (rw[hn.1]at h1;cases h1),λh1=>by (rw[hn.2]at h1;cases h1)⟩
def Stp.ok(P:Program)(all:Array Oper)(s:SS)(t:Stp):Prop :=
 all[t.i]? = some t.o∧Zg all s t.o.guard t.want∧(t.want=true→GoodX P t.o s t.U)∧(t.want=false→t.U=⟨.val undef,[],[]⟩)
def A48(K L:List Nat):Bool:=K.all λk=>!(Se L k)
def Ane{K L:List Nat}(h:A48 K L=true):∀k∈K,k∉L:=λk hk hl=>by
 simp only[A48,yV]at h;have:=h k hk;rw[memN_iff.2 hl]at this;cases this
def Wg(all:Array Oper)(p t:Stp):Bool :=
 p.o.apart all t.o&&A48 p.U.ws t.U.ws&&(A48 p.U.ws t.U.rd||(Qx p.o&&Kb t.o))&&(A48 t.U.ws p.U.rd||(Qx t.o&&Kb p.o))
def A72(all:Array Oper):Nat→Nat→Oper→Bool
 |0,_,_=>false
 |n+1,i,o=>o.after.toList.any λe=>Region.binds .any e&&(Nat.beq e.on i||(match all[e.on]? with|some u=>A72 all n i u|none=>false))
def aft(all:Array Oper)(p t:Stp):Bool:=A72 all 4 p.i t.o
def Cl(all:Array Oper)(listed:Array Bool):Prop:=∀i o,all[i]? = some o→listed.getD i true=true→∀e∈o.after,Region.binds .any e=true→listed.getD e.on false=true
def Aw5{listed:Array Bool}{i:Nat}(h:listed.getD i false=true):listed.getD i true=true:=by
 simp only[vC]at h⊢;cases hh:listed[i]? with
 |none=>rw[hh]at h;cases h
 |some b=>rw[hh]at h;exact h
def Aeb{all:Array Oper}{listed:Array Bool}(hc:Cl all listed){i:Nat}:∀(n:Nat) (o:Oper),(∀e∈o.after,Region.binds .any e=true→listed.getD e.on false=true)→A72 all n i o=true→listed.getD i false=true
 |0,_,_,h=>by cases h
 |n+1,o,ho,h=>by
  simp only[A72,wV,zG,yO]at h;obtain ⟨e,h1,h2,h3⟩:=h;have h4:=ho e (by simpa using h1) h2;rcases h3 with h3|h3
  ·rw[←yJ h3];exact h4
  ·cases hu:all[e.on]? with
   |none=>rw[hu]at h3;cases h3
   |some u=>
    rw[hu]at h3;exact Aeb hc n u (hc e.on u hu (Aw5 h4)) h3
def Ab8(all:Array Oper)(p:Stp):List Stp→Bool
 |[]=>true
 |t::r=>(Wg all p t||aft all p t)&&Ab8 all p r
def Mw(all:Array Oper):List Stp→Bool
 |[]=>true
 |p::r=>Ab8 all p r&&Mw all r
def Aez(t:Stp):Bool:=t.o.after.toList.all λe=>!(Region.binds .any e)||Nat.blt e.on t.i
def fin(s:SS):List Stp→SS
 |[]=>s
 |t::r=>fin (s.upd t.o.dst t.U) r
def Chain(P:Program)(all:Array Oper):SS→List Stp→Prop
 |_,[]=>True
 |s,t::r=>t.ok P all s∧Chain P all (s.upd t.o.dst t.U) r
def An3{β:Type 1}(f:Nat→β){d e:Nat}(u v:β)(h:d≠e):upd (upd f d u) e v=upd (upd f e v) d u:=by
 funext i;by_cases h1:i=d
 ·subst h1;rw[Cy _ _ h,B1,B1]
 ·by_cases h2:i=e
  ·subst h2;rw[B1,Cy _ _ h1,B1]
  ·rw[Cy _ _ h2,Cy _ _ h1,Cy _ _ h1,Cy _ _ h2]
def An4(h:Nat→Ob)(k:Nat)(o:Ob):∀(l:List (Nat×Ob)),k∉l.map (·.1)→Ul (upd h k o) l=upd (Ul h l) k o
 |[],_=>rfl
 |(j,x)::r,hk=>by
  simp only[xW,yH,uL]at hk;rw[Ul,Ul,An3 _ _ _ hk.1,An4 _ k o r hk.2]
def Ajg:∀(l m:List (Nat×Ob)) (h:Nat→Ob),(∀k∈l.map (·.1),k∉m.map (·.1))→Ul (Ul h l) m=Ul (Ul h m) l
 |[],m,h,_=>rfl
 |(k,o)::r,m,h,hd=>by
  rw[Ul,Ul,Ajg r m _ (λj hj=>hd j (by simp at hj⊢;exact .inr hj)),An4 h k o m (hd k y_)]
def Ad8{all:Array Oper}{p t:Stp}(h:Wg all p t=true):(∀d,p.o.dst=some d→d∉t.o.looksAt all)∧(∀d,p.o.dst=some d→t.o.dst≠some d)∧(∀d,t.o.dst=some d→d∉p.o.looksAt all)∧(∀k∈p.U.ws,k∉t.U.ws) ∧
   ((∀k∈p.U.ws,k∉t.U.rd)∨(Qx p.o=true∧Kb t.o=true))∧((∀k∈t.U.ws,k∉p.U.rd)∨(Qx t.o=true∧Kb p.o=true)):=by
 simp only[Wg,zG,yO]at h;obtain ⟨⟨⟨h1,h2⟩,h3⟩,h4⟩:=h;obtain ⟨a1,a2,a3⟩:=Oper.apart_spec h1;exact⟨a1,a2,a3,Ane h2,h3.imp Ane id,h4.imp Ane id⟩
def An2{all:Array Oper}{p t:Stp}(h:Wg all p t=true)(s:SS):(s.upd p.o.dst p.U).upd t.o.dst t.U=(s.upd t.o.dst t.U).upd p.o.dst p.U:=by
 obtain ⟨_,h2,_,h4,_,_⟩:=Ad8 h;unfold SS.upd;congr 1
 ·cases hp:p.o.dst with
  |none=>rfl
  |some d=>
   cases ht:t.o.dst with
   |none=>rfl
   |some e=>exact An3 _ _ _ (λe'=>h2 d hp (by rw[ht,e']))
 ·exact Ajg _ _ _ (λk hk=>h4 k hk)
def Acu{all:Array Oper}{s s':SS}{o:Oper}{b:Bool}(a2:Zg all s o.guard b)(h1:∀d,d∈o.looksAt all→s'.σ d=s.σ d):Zg all s' o.guard b:=by
 unfold Zg at a2⊢;cases hg:o.guard with
 |none=>rw[hg]at a2;exact a2
 |some q=>
  obtain ⟨j,want⟩:=q;rw[hg]at a2;obtain ⟨d,b1,b2⟩:=a2;have hd:s'.σ d=s.σ d:=h1 d (by simp[Oper.looksAt,hg,b1]);exact⟨d,b1,by rw[hd];exact b2⟩
def Aqw{all:Array Oper}{s s':SS}{o:Oper}(h1:∀d,d∈o.looksAt all→s'.σ d=s.σ d):∀x∈o.op.operands,ev s' x=ev s x:=λx hx=>by
 cases x with
 |tmp d=>
  have hd:s'.σ d=s.σ d:=h1 d (by
   simp only[Oper.looksAt,yL,wE];exact .inl ⟨.tmp d,by simpa using hx,E⟩)
  simpa only [ev] using hd
 |const v=>rfl
 |global g=>rfl
 |func f=>rfl
theorem Stp.congr{P:Program}{all:Array Oper}{s s':SS}{t:Stp}(h:t.ok P all s)(h1:∀d,d∈t.o.looksAt all→s'.σ d=s.σ d)(h2:∀k,k∈t.U.rd∨k∈t.U.ws→s'.h k=s.h k):t.ok P all s':=by
 obtain ⟨a1,a2,a3,a4⟩:=h;have s8:=Aqw h1;refine⟨a1,Acu a2 h1,λhw=>?_,a4⟩;obtain ⟨g1,g2,g3⟩:=a3 hw;refine⟨λκ a w hi hr ho N Q hN=>?_,λhi=>?_,λhi p hp=>?_⟩
 ·exact g1 κ a w hi (λx hx=>by rw[←s8 x hx];exact hr x hx) (λk hk=>by rw[←h2 k hk];exact ho k hk) N Q (λv κ' w' st inv hv cn iw=>hN v κ' w' st inv hv cn λk hk hw=>by rw[h2 k (.inl hk)];exact iw k hk hw)
 ·obtain ⟨e1,e2⟩:=g2 hi;exact⟨e1,λs'' q1 q2=>e2 s'' (λx hx=>(q1 x hx).trans (s8 x hx)) (λk hk=>by rw[q2 k hk,h2 k (.inl hk)])⟩
 ·rw[g3 hi p hp,h2 p.1 (.inr (yS.2 ⟨p,hp,rfl⟩))]
theorem Stp.congrI{P:Program}{all:Array Oper}{s s':SS}{t:Stp}(h:t.ok P all s)(hi:Kb t.o=true)(h1:∀d,d∈t.o.looksAt all→s'.σ d=s.σ d)(h2:∀k∈t.U.rd,(s'.h k).shp=(s.h k).shp):t.ok P all s':=by
 obtain ⟨a1,a2,a3,a4⟩:=h;have s8:=Aqw h1;refine⟨a1,Acu a2 h1,λhw=>?_,a4⟩;obtain ⟨g1,g2,g3⟩:=a3 hw;obtain ⟨e1,e2⟩:=g2 hi;refine⟨(e2 s' s8 h2).two,λ_=>⟨e1,λs'' q1 q2=>e2 s'' (λx hx=>(q1 x hx).trans (s8 x hx)) (λk hk=>by rw[q2 k hk,h2 k hk])⟩,λ_ p hp=>?_⟩;rw[e1]at hp;cases hp
def An5:∀(l:List (Nat×Ob)) (h:Nat→Ob) (k:Nat),(∀q∈l,q.2.shp=(h q.1).shp)→(Ul h l k).shp=(h k).shp
 |[],_,_,_=>rfl
 |(j,o)::r,h,k,hq=>by
  rw[Ul,An5 r (Sy.upd h j o) k (λq hqr=>?_)]
  ·by_cases hj:k=j
   ·subst hj;rw[B1];exact hq (k,o) y_
   ·rw[Cy _ _ hj]
  ·rw[hq q (by simp[hqr])];by_cases hj:q.1=j
   ·rw[hj,B1];exact(hq (j,o) y_).symm
   ·rw[Cy _ _ hj]
theorem Stp.lens{P:Program}{all:Array Oper}{s:SS}{t:Stp}(h:t.ok P all s)(hi:Qx t.o=true)(k:Nat):((s.upd t.o.dst t.U).h k).shp=(s.h k).shp:=by
 obtain ⟨_,_,a3,a4⟩:=h;cases hw:t.want with
 |false=>rw[a4 hw];rfl
 |true=>exact An5 _ _ _ ((a3 hw).st hi)
def upd_σ_ne{s:SS}{dst:Option Nat}{U:Up}{d:Nat}(h:dst≠some d):(s.upd dst U).σ d=s.σ d:=by
 cases dst with
 |none=>rfl
 |some e=>exact Cy _ _ (λe'=>h (by rw[e']))
theorem Chain.first{P:Program}{all:Array Oper}{t:Stp}{post:List Stp}:∀{pre:List Stp} {s:SS},Chain P all s (pre++t::post)→(∀p∈pre,Wg all p t=true) →
  t.ok P all s∧Chain P all (s.upd t.o.dst t.U) (pre++post)∧fin s (pre++t::post)=fin (s.upd t.o.dst t.U) (pre++post)
 |[],s,h,_=>⟨h.1,h.2,rfl⟩
 |p::pre,s,h,hp=>by
  obtain ⟨h1,h2⟩:=h;obtain ⟨i1,i2,i3⟩:=Chain.first h2 (λq hq=>hp q (by simp[hq]))
  have ha:=hp p y_;obtain ⟨b1,b2,b3,b4,b5,b6⟩:=Ad8 ha;have ht:t.ok P all s:=by
   rcases b5 with b5|⟨c1,c2⟩
   ·exact Stp.congr i1 (λ d hd=>(upd_σ_ne (λ e=>b1 d e hd)).symm) (λ k hk=>(Ae9 (λ hm=>by
     rcases hk with hk|hk
     ·exact b5 k hm hk
     ·exact b4 k hm hk)).symm)
   ·exact Stp.congrI i1 c2 (λd hd=>(upd_σ_ne (λe=>b1 d e hd)).symm) (λk _=>(Stp.lens h1 c1 k).symm)
  have x6:p.ok P all (s.upd t.o.dst t.U):=by
   rcases b6 with b6|⟨c1,c2⟩
   ·exact Stp.congr h1 (λ d hd=>upd_σ_ne (λ e=>b3 d e hd)) (λ k hk=>Ae9 (λ hm=>by
     rcases hk with hk|hk
     ·exact b6 k hm hk
     ·exact b4 k hk hm))
   ·exact Stp.congrI h1 c2 (λd hd=>upd_σ_ne (λe=>b3 d e hd)) (λk _=>Stp.lens ht c1 k)
  refine⟨ht,⟨x6,?_⟩,?_⟩
  ·rw[←An2 ha];exact i2
  ·show fin (s.upd p.o.dst p.U) (pre++t::post)=fin ((s.upd t.o.dst t.U).upd p.o.dst p.U) (pre++post);rw[i3,An2 ha]
def Ade{all:Array Oper}{t:Stp}{post:List Stp}:∀{pre:List Stp},Mw all (pre++t::post)=true→(∀p∈pre,Wg all p t=true∨aft all p t=true)∧Mw all (pre++post)=true
 |[],h=>by
  simp only[wP,Mw,zG]at h;exact⟨by simp,h.2⟩
 |p::pre,h=>by
  simp only[xY,Mw,zG]at h;obtain ⟨h1,h2⟩:=h;obtain ⟨i1,i2⟩:=Ade h2;have key:∀l:List Stp,Ab8 all p (l++t::post)=true→(Wg all p t=true∨aft all p t=true)∧Ab8 all p (l++post)=true:=by
   intro l
   induction l with
   |nil=>intro h;simp only[wP,Ab8,zG,yO]at h;exact h
   |cons q l ih=>
    intro h;simp only[xY,Ab8,zG]at h⊢;exact⟨(ih h.2).1,h.1,(ih h.2).2⟩
  obtain ⟨k1,k2⟩:=key pre h1;refine⟨λq hq=>?_,?_⟩
  ·rcases yH.1 hq with rfl|hq
   ·exact k1
   ·exact i1 q hq
  ·simp only[xY,Mw,zG];exact⟨k2,i2⟩
def A06{P:Program}{F:Fr}{n:Nat}{all:Array Oper}{Q:Exit→Act→World→Prop}(s9:∀(i:Nat) (o:Oper),all[i]? = some o→∀d,o.dst=some d→d<n):∀(m:Nat) (rem:List Stp) (listed:Array Bool) (s:SS) (κ:Ka) (a:Act) (w:World),rem.length=m→St F n s κ a w→Chain P all s rem→Mw all rem=true→(∀t∈rem,Aez t=true) →
   (∀i,listed.getD i true=false↔∃t∈rem,t.i=i)→(rem.Pairwise λp t=>p.i<t.i)→(∀i,i<all.size→i<listed.size)→Cl all listed→(∀κ' a' w',St F n (fin s rem) κ' a' w'→Q .normal a' w')→wpAny P .any all Q m listed a w:=by
 intro m
 induction m with
 |zero=>
  intro rem listed s κ a w hm hs _ _ _ hl _ _ _ hQ;have:rem=[]:=zX hm;subst this;refine⟨?_,hQ κ a w hs⟩;apply List.eq_nil_iff_forall_not_mem.2;intro i hi;have h1:=(mem_ready.1 hi).1;rw[hl i]at h1;obtain ⟨t,ht,_⟩:=h1;cases ht
 |succ m ih=>
  intro rem listed s κ a w hm hs hc hp he hl ab bh gn hQ;have vv:∀t post,rem=t::post→t.i∈Region.ready .any all listed:=λt post h0=>by
   subst h0;refine mem_ready.2 ⟨(hl t.i).2 ⟨t,by simp,E⟩,t.o,hc.1.1,λe y4 hb=>?_⟩;have h1:=he t y_;simp only[Aez,yV,yO,yT]at h1;have h2:e.on<t.i:=by
    rcases h1 e (by simpa using y4) with h2|h2
    ·rw[hb]at h2;cases h2
    ·exact xX h2
   have ar:e.on<listed.size:=by
    refine bh _ ?_;have:t.i<all.size:=by
     have:=hc.1.1;rcases vT t.i all.size with h|h
     ·exact h
     ·rw[uP h]at this;cases this
    omega
   have h3:listed.getD e.on true≠false:=λh4=>by
    obtain ⟨q,hq,hqi⟩:=(hl e.on).1 h4;rcases yH.1 hq with rfl|hq
    ·omega
    ·have:=(vX.1 ab).1 q hq;omega
   simp only[vC,uG ar,Option.getD_some]at h3⊢;cases hh:listed[e.on] with
   |true=>rfl
   |false=>exact yB hh h3
  refine⟨λh0=>?_,λi hi=>?_⟩
  ·cases rem with
   |nil=>simp at hm
   |cons t post=>
    have:=vv t post rfl;rw[h0]at this;cases this
  ·obtain ⟨h1,oi,h2,h3⟩:=mem_ready.1 hi;obtain ⟨t,ht,rfl⟩:=(hl i).1 h1;obtain ⟨pre,post,rfl⟩:=List.append_of_mem ht;obtain ⟨p1,p2⟩:=Ade hp;have nu:∀p∈pre,Wg all p t=true:=λp jt=>by
    rcases p1 p jt with h4|h4
    ·exact h4
    ·exfalso;have dt:oi=t.o:=by
      have ax:all[t.i]? = some t.o:=by
       have:∀(l:List Stp) (s:SS),Chain P all s (l++t::post)→all[t.i]? = some t.o:=by
        intro l
        induction l with
        |nil=>intro s h;exact h.1.1
        |cons q l ih=>intro s h;exact ih _ h.2
       exact this pre s hc
      rw[ax]at h2;exact(Option.some.inj h2).symm
     rw[dt]at h3;have h5:=Aw5 (Aeb gn 4 t.o h3 h4);have h6:=(hl p.i).2 ⟨p,by simp[jt],rfl⟩;rw[h5]at h6;cases h6
   obtain ⟨c1,c2,c3⟩:=hc.first nu
   have kv:(pre++post).Pairwise λp t=>p.i<t.i:=by
    rw[tY]at ab⊢;obtain ⟨q1,q2,q3⟩:=ab;exact⟨q1,(vX.1 q2).2,λx hx y hy=>q3 x hx y (by simp[hy])⟩
   have af:∀q∈pre++post,q.i≠t.i:=λq hq=>by
    rw[tY]at ab;obtain ⟨q1,q2,q3⟩:=ab;rcases yL.1 hq with hq|hq
    ·have:=q3 q hq t y_;omega
    ·have:=(vX.1 q2).1 q hq;omega
   have uc:∀i,(listed.setIfInBounds t.i true).getD i true=false↔∃q∈pre++post,q.i=i:=λi=>by
    by_cases kl:t.i=i
    ·subst kl;constructor
     ·intro h4;exfalso;rcases vT t.i listed.size with h5|h5
      ·simp[h5]at h4
      ·rw[vC,uP (by simpa using h5)]at h4;cases h4
     ·rintro ⟨q,hq,hqi⟩;exact yB hqi (af q hq)
    ·rw[getD_set_ne true kl,hl i];constructor
     ·rintro ⟨q,hq,rfl⟩;refine⟨q,?_,E⟩;simp only[yL,yH]at hq⊢;rcases hq with hq|rfl|hq
      ·exact .inl hq
      ·exact yB E kl
      ·exact .inr hq
     ·rintro ⟨q,hq,rfl⟩;refine⟨q,?_,E⟩;simp only[yL,yH]at hq⊢;rcases hq with hq|hq
      ·exact .inl hq
      ·exact .inr (.inr hq)
   have y5:∀i,listed.getD i false=true→(listed.setIfInBounds t.i true).getD i false=true:=λi h=>by
    by_cases kl:t.i=i
    ·subst kl;rcases vT t.i listed.size with h5|h5
     ·simp[h5]
     ·rw[vC,uP h5]at h;cases h
    ·rw[getD_set_ne false kl];exact h
   have hcl':Cl all (listed.setIfInBounds t.i true):=λi o xb pc e fg dq=>by
    refine y5 _ ?_;by_cases kl:t.i=i
    ·subst kl;rw[h2]at xb;cases xb;exact h3 e fg dq
    ·rw[getD_set_ne true kl]at pc;exact gn i o xb pc e fg dq
   have next:∀(κ':Ka) (a':Act) (w':World),St F n (s.upd t.o.dst t.U) κ' a' w'→wpAny P .any all Q m (listed.setIfInBounds t.i true) a' w':=λκ' a' w' xa=>
    ih (pre++post) _ (s.upd t.o.dst t.U) κ' a' w' (by simp at hm⊢;omega) xa c2 p2 (λq hq=>he q (by simp only[yL,yH]at hq⊢;exact hq.imp id .inr)) uc kv (by simpa using bh) hcl' (by rw[←c3];exact hQ)
   have dt:all[t.i]? = some t.o:=c1.1;have y1:=s9 t.i t.o dt;unfold wpOp;rw[dt];obtain ⟨_,d2,d3,d4⟩:=c1;have y6:=Wn (o:=t.o) hs (λ j want hg d hd=>by
    cases hj:all[j]? with
    |none=>rw[hj]at hd;cases hd
    | some oj=>rw[hj]at hd;exact s9 j oj hj d (by simpa using hd)) d2
   simp only[y6];cases hw:t.want with
   |true=>
    simp only[if_true];exact .inl ((d3 hw).good κ a w hs.inv (λx _=>hs.ev x) (λj _=>hs.obj j) _ _ (λv κ' w' st inv hv ho iw=>next κ' _ w' (hs.put2 y1 st inv hv ho iw)))
   |false=>
    simp only[uM,if_false];refine next κ _ w ?_;rw[d4 hw];exact hs.put (U:=⟨.val undef,[],[]⟩) y1 (Step.refl _ κ w) hs.inv (by simp[Rd]) (λp hp=>by cases hp)
variable {C:Cx} {k:List KI} {s:SS}
def DR(C:Cx)(k:List KI)(all:Array Oper)(done:List Stp)(rest:List Oper)(s:SS):Prop :=
 ∃ts:List Stp,ts.map (·.o)=rest∧(∀j t,ts[j]? = some t→t.i=done.length+j)∧Chain C.P all s ts∧Mw all (done++ts)=true∧(done++ts).all Aez=true∧G C k (fin s ts)
def Am9(all:Array Oper)(done:List Stp):Bool:=Mw all done&&done.all Aez
theorem DR_nil{all:Array Oper}{done:List Stp}(hp:Am9 all done=true)(h:G C k s):DR C k all done [] s:=by
 simp only[Am9,zG]at hp;exact⟨[],E,by simp,Y,by simpa using hp.1,by rw[xM];exact hp.2,h⟩
theorem A5y{all:Array Oper}{done:List Stp}{o:Oper}{rest:List Oper}(U:Up)(hg:GoodX C.P o s U)(hi:all[done.length]? = some o)(hw:Zg all s o.guard true)(h:DR C k all (done++[⟨done.length,o,U,true⟩]) rest (s.upd o.dst U)):DR C k all done (o::rest) s:=by
 obtain ⟨ts,h1,h2,h3,h4,h5,h6⟩:=h;refine⟨⟨done.length,o,U,true⟩::ts,by simp[h1],λj t hj=>?_,⟨⟨hi,hw,λ_=>hg,λhf=>by cases hf⟩,h3⟩,by simpa using h4,by simpa using h5,h6⟩;cases j with
 |zero=>simp only[tG,Option.some.injEq]at hj;subst hj;rfl
 |succ j=>have:=h2 j t (by simpa using hj);simp at this;omega
theorem A78{all:Array Oper}{done:List Stp}{o:Oper}{rest:List Oper}(hi:all[done.length]? = some o)(hw:Zg all s o.guard false)(h:DR C k all (done++[⟨done.length,o,⟨.val undef,[],[]⟩,false⟩]) rest (s.upd o.dst ⟨.val undef,[],[]⟩)):DR C k all done (o::rest) s:=by
 obtain ⟨ts,h1,h2,h3,h4,h5,h6⟩:=h;refine⟨⟨done.length,o,⟨.val undef,[],[]⟩,false⟩::ts,by simp[h1],λj t hj=>?_,⟨⟨hi,hw,λhf=>(by cases hf),λ_=>rfl⟩,h3⟩,by simpa using h4,by simpa using h5,h6⟩;cases j with
 |zero=>simp only[tG,Option.some.injEq]at hj;subst hj;rfl
 |succ j=>have:=h2 j t (by simpa using hj);simp at this;omega
def Avd(n:Nat)(ops:List Oper):Bool:=ops.all λo=>match o.dst with|some d=>Nat.blt d n|none=>true
theorem G_draw{id:Nat}{ops:Array Oper}(hm:C.P.follows .mixedOrders=true)(hd:Avd C.n ops.toList=true)(h:DR C k ops [] ops.toList s):G C (.code (.region id ops true)::k) s:=λκ a w hs=>by
 obtain ⟨ts,h1,h2,h3,h4,h5,h6⟩:=h;have s9:∀(i:Nat) (o:Oper),ops[i]? = some o→∀d,o.dst=some d→d<C.n:=λi o hi d hod=>by
  simp only[Avd,yV]at hd;have em:o∈ops.toList:=by
   rw[←vS]at hi;exact List.mem_of_getElem? hi
  have:=hd o em;rw[hod]at this;exact xX this
 have hlen:ts.length=ops.size:=by
  have:=zH List.length h1;simpa using this
 have xa:St C.F C.n s κ a {w with drawn:=w.drawn+1}:=by
  have g:=Grew.drew w;have st:Step (λ_=>False) κ w κ w.drew:=⟨g.size,g.os,g.tape,g.output,rfl,λb _=>rfl,λb _ _=>rfl,λ_ _ _ _=>rfl,λ_ _=>rfl,λ_ h=>h.elim,λ_ h=>.inl h⟩
  have inv:Inv κ w.drew:=⟨hs.inv.inj,hs.inv.bnd,hs.inv.apart,hs.inv.mbnd⟩
  exact⟨hs.defers,hs.size,inv,hs.ctx.step inv st,λi=>Rd.step st _ _ (hs.slot i),λj=>ObOK.step st (λh=>h) _ (hs.obj j)⟩
 refine wp_region_any hm (A06 s9 ops.size ts (Array.replicate ops.size false) s κ a _ hlen xa h3 (by simpa using h4) (by simpa using h5) ?_ ?_ y_ ?_ (λκ' a' w' hs''=>h6 κ' a' w' hs''))
 ·intro i;simp only[vC,Array.getElem?_replicate];constructor
  ·intro h7;split at h7
   ·rename_i hi;have:i<ts.length:=by omega
    exact⟨ts[i],zJ this,by simpa using h2 i ts[i] (zU this)⟩
   ·cases h7
  ·rintro ⟨t,ht,rfl⟩;obtain ⟨j,hj,rfl⟩:=yZ.1 ht;have:=h2 j ts[j] (zU hj);simp only[xF,wH]at this;rw[this,zE q_];rfl
 ·rw[wG];intro i j hi hj bc;have e1:=h2 i ts[i] (zU hi);have e2:=h2 j ts[j] (zU hj);omega
 ·intro i o xb pc;exfalso;have:i<ops.size:=by
   rcases vT i ops.size with h|h
   ·exact h
   ·rw[uP h]at xb;cases xb
  simp only[vC,Array.getElem?_replicate,zE this]at pc;cases pc
def Ak(b:UInt8):SV:=.val (.int .u8 b.toNat)
def Aa(n:Int):SV:=.val (.int .i64 n)
def Ab(b:Bool):SV:=.val (.bool b)
def Bj(n:Int):SV:=.val (.int .u64 n)
def A9(n:Int):SV:=.val (.int .u32 n)
def Ap(s:ByteArray):SV:=.val (.string s)
theorem Akd{P:Program}(Γ:Ty P){t:TypeId}{ti:TI}{k:IntKind}(ht:Γ.get t=some ti)(hk:ti.k=.int k):P.underlying t=some (.int k):=by
 obtain ⟨d,info,z,k1,k2,_⟩:=Γ.ok t ti ht;rw[hk]at k2;simp only[TK.ok]at k2;subst k2;exact k1
theorem Ax7{P:Program}(Γ:Ty P){t:TypeId}{ti:TI}(ht:Γ.get t=some ti)(hk:ti.k=.string):P.underlying t=some .string:=by
 obtain ⟨d,info,z,k1,k2,_⟩:=Γ.ok t ti ht;rw[hk]at k2;simp only[TK.ok]at k2;subst k2;exact k1
theorem Aaq{P:Program}(Γ:Ty P){o:Oper}{s:SS}{src dst:TypeId}{si di ei:TI}{x:Operand}{et:TypeId}{eb n:Nat}{ez:List Value}{ks:List Nat}{f:Nat→SV→Prop}(bs:List UInt8)(h:o.op=.convert src dst x)(hs:Γ.get src=some si)(hsk:si.k=.slice et 1 eb ez)(he:Γ.get et=some ei)(y7:ei.k=.int .u8)(hd:Γ.get dst=some di)(ph:di.k=.string)(hx:AppSrc s 1 (ev s x) ks n f)(hn:n=bs.length)(hf:∀i (h:i<bs.length),f i (Ak bs[i])):Good P o s ⟨.val (.string ⟨bs.toArray⟩),ks,[]⟩ :=
 Good.pure λκ a w hi hr ho=>by
  have r1:=hr x (by simp[h,Op.operands]);have ia:=hx.src r1 ho;obtain ⟨hu,_⟩:=Ct Γ hs hsk;have y8:=Akd Γ he y7;have r7:=Ax7 Γ hd ph;refine⟨.string ⟨bs.toArray⟩,?_,by simp[Rd]⟩;rcases ia with ⟨h0,dp,ad,cap,e1⟩|⟨b,off,cap,news,e1,e2,e3,e4,e5⟩
  ·have hb:bs=[]:=zX q_;subst hb;cases ad with
   |none=>simp[execOp,h,e1,run_convert_bytes_nil w src et hu y8 0 cap dst r7];rfl
   |some ad=>
    have:=run_convert_bytes_back (P:=P) w src dst et ad cap [] hu y8 r7 (λj hj=>by simp at hj);simp only[xF]at this;simp[execOp,h,e1,this]
  ·have:=run_convert_bytes_back (P:=P) w src dst et ⟨b,off,none⟩ cap bs hu y8 r7 (λ j hj=>by
    obtain ⟨q0,u,q1,q2,q3,q4⟩:=e5 j _ (hf j hj);have su:u=.int .u8 bs[j].toNat:=by simpa [Ak,RdD] using q1
    have q5:=q4 0 q_;rw[su]at q5;simp only[Nat.mul_one,Nat.add_zero,Value.cells]at q5;rw[Addr.add_lit];exact e4 j _ (by simpa using q5))
   rw[←hn]at this;simp[execOp,h,e1,this]
inductive EK|int (k:IntKind)|bool|string
def EK.desc:EK→TypeDesc| .int k=>.int k| .bool=>.bool| .string=>.string
def Au8(P:Program):Nat→List Field→List EK→Prop
 |_,[],[]=>True
 |i, f::fs, k::ks=> f.name ≠ "_" ∧ f.offset = i ∧ P.underlying f.type = some k.desc ∧ Au8 P (i + 1) fs ks
 |_,_,_=>False
structure EqOK(P:Program)(t:TypeId)(ks:List EK):Prop where
 under:P.underlying t=some (.struct (P.fieldsOf t))
 stood:P.stoodInHeld t=false
 guard:P.eqGuardType P.depth t=false
 fields:Au8 P 0 (P.fieldsOf t).toList ks
def eq1(k:EK)(x y:SV):Option Bool :=
 match k,x,y with
 | .int _,.val (.int k1 a),.val (.int k2 b)=>if k1=k2 then some (a==b) else none
 | .bool,.val (.bool a),.val (.bool b)=>some (a==b)
 | .string,.val (.string a),.val (.string b)=>some (a==b)
 |_,_,_=>none
theorem A7l{P:Program}{κ:Ka}{w:World}(d:Nat){t:TypeId}{k:EK}(ht:P.underlying t=some k.desc){x y:SV}{u v:Value}{b:Bool}(h:eq1 k x y=some b)(hx:Rd κ w x u)(hy:Rd κ w y v):(Op.equalIn (d+1) t u v).run P w=.ok b w:=by
 unfold eq1 at h;split at h
 ·split at h
  ·rename_i hk;subst hk;simp only[Option.some.injEq]at h;rw[hx.val,hy.val,←h];exact run_equalIn_int w d t _ _ _ _ ht
  ·cases h
 ·simp only[Option.some.injEq]at h;rw[hx.val,hy.val,←h];exact run_equalIn_bool' w d t _ _ ht
 ·simp only[Option.some.injEq]at h;rw[hx.val,hy.val,←h,beq_toListBytes];exact run_equalIn_string w d t _ _ ht
 ·cases h
def eqS:List EK→List SV→List SV→Option Bool
 |[],[],[]=>some true
 |k::ks,x::l,y::m=>match eq1 k x y,eqS ks l m with
  |some a,some b=>some (a&&b)
  |_,_=>none
 |_,_,_=>none
theorem Afp{P:Program}(w:World){t:TypeId}{k:EK}(h:P.underlying t=some k.desc)(cs:Array Value){i:Nat}{v:Value}(hv:cs[i]? = some v):(part t cs i).run P w=.ok v w:=by
 cases k<;>simp only[EK.desc]at h<;>simp[part,isAgg,run_underlying h,hv]
theorem A42{P:Program}{κ:Ka}{w:World}{xs ys:Array Value}(d:Nat):∀(ks:List EK) (fs:List Field) (i:Nat) (l m:List SV) (r:Bool),Au8 P i fs ks→RdL κ w l (xs.toList.drop i)→RdL κ w m (ys.toList.drop i)→eqS ks l m=some r →
  (Op.eqFields (d+1) xs ys fs).run P w=.ok r w
 |[],[],i,l,m,r,_,_,_,he=>by
  cases l<;>cases m<;>simp[eqS]at he
  subst he;simp[Op.eqFields]
 |[],_::_,i,l,m,r,h,_,_,_=>by simp[Au8]at h
 |_::_,[],i,l,m,r,h,_,_,_=>by simp[Au8]at h
 |k::ks,f::fs,i,[],m,r,h,hl,hm,he=>by simp[eqS]at he
 |k::ks,f::fs,i,x::l,[],r,h,hl,hm,he=>by simp[eqS]at he
 |k::ks,f::fs,i,x::l,y::m,r,h,hl,hm,he=>by
  simp only[Au8]at h;obtain ⟨h1,h2,h3,h4⟩:=h;simp only[RdL]at hl hm;obtain ⟨v,q,e1,e2,e3⟩:=hl;obtain ⟨u,p,f1,f2,f3⟩:=hm;have g1:xs[i]? = some v:=by
   have:=zH (λl=>l[0]?) e1;simpa using this
  have g2:ys[i]? = some u:=by
   have:=zH (λl=>l[0]?) f1;simpa using this
  have e4:xs.toList.drop (i+1)=q:=by
   have:=zH (List.drop 1) e1;simpa [tK] using this
  have f4:ys.toList.drop (i+1)=p:=by
   have:=zH (List.drop 1) f1;simpa [tK] using this
  have p1:=Afp (P:=P) w h3 xs g1;have p2:=Afp (P:=P) w h3 ys g2;simp only[eqS]at he;cases hb:eq1 k x y with
  |none=>rw[hb]at he;cases he
  |some b=>
   cases hq:eqS ks l m with
   |none=>rw[hb,hq]at he;cases he
   |some r'=>
    rw[hb,hq]at he;simp only[Option.some.injEq]at he;have au:=A7l (P:=P) (κ:=κ) (w:=w) d h3 hb e2 f2;have ih:=A42 d ks fs (i+1) l m r' h4 (by rw[e4];exact e3) (by rw[f4];exact f3) hq;simp only[Op.eqFields,zE h1,Sem.run_bind,h2,p1,p2,Result.andThen_ok,au];subst he;cases b
    ·simp
    ·simp[ih]
theorem Adu{P:Program}{o:Oper}{s:SS}{op:BinOp}{t yt:TypeId}{x y:Operand}{l m:List SV}{ks:List EK}{r:Bool}(h:o.op=.binOp op t x y yt)(hop:op=.eql∨op=.neq)(hq:EqOK P t ks)(hx:ev s x=.agg l)(hy:ev s y=.agg m)(hr:eqS ks l m=some r):Good P o s ⟨.val (.bool (if op=.eql then r else !r)),[],[]⟩ :=
 Good.pure λκ a w _ iw _=>by
  have h1:=iw x (by simp[h,Op.operands]);have h2:=iw y (by simp[h,Op.operands]);rw[hx]at h1;rw[hy]at h2;simp only[Rd]at h1 h2;obtain ⟨cs,e1,_,e3⟩:=h1;obtain ⟨ds,f1,_,f3⟩:=h2;have au:(Op.equal t (.agg cs.toArray) (.agg ds.toArray)).run P w=.ok r w:=by
   show (Op.equalIn (9999+1) t (.agg cs.toArray) (.agg ds.toArray)).run P w=.ok r w;rw[run_equalIn_struct w 9999 t _ _ hq.under hq.stood];exact A42 (κ:=κ) 9998 ks _ 0 l m r hq.fields (by simpa using e3) (by simpa using f3) hr
  have hg:(eqGuard op t x y (.agg cs.toArray) (.agg ds.toArray)).run P w=.ok () w:=by
   rcases hop with rfl|rfl<;>simp[eqGuard,hq.guard]
  refine⟨.bool (if op=.eql then r else !r),?_,by simp[Rd]⟩;rcases hop with rfl|rfl<;>simp[execOp,h,e1,f1,hg,binOp,au]
theorem Aap{P:Program}(Γ:Ty P){o:Oper}{s:SS}{op:BinOp}{t yt:TypeId}{ti:TI}{x y:Operand}{p q:Bool}(h:o.op=.binOp op t x y yt)(hop:op=.eql∨op=.neq)(ht:Γ.get t=some ti)(hk:ti.k=.bool)(hx:ev s x=.val (.bool p))(hy:ev s y=.val (.bool q)):Good P o s ⟨.val (.bool (if op=.eql then p==q else p != q)),[],[]⟩ :=
 Good.pure λκ a w _ iw _=>by
  have h1:=iw x (by simp[h,Op.operands]);have h2:=iw y (by simp[h,Op.operands]);rw[hx]at h1;rw[hy]at h2;obtain ⟨d,info,z,k1,k2,_⟩:=Γ.ok t ti ht;rw[hk]at k2;simp only[TK.ok]at k2;subst k2;have au:=run_equal_bool (P:=P) w t p q k1;refine⟨.bool (if op=.eql then p==q else p != q),?_,by simp[Rd]⟩;rcases hop with rfl|rfl<;>simp[execOp,h,h1.val,h2.val,eqGuard_at_bool,binOp,au,bne]
theorem Xf{P:Program}(w:World)(d:Nat){t e:TypeId}(h:P.underlying t=some (.pointer e))(p:Option Addr):(Op.equalIn (d+1) t (.pointer p) (.pointer none)).run P w=.ok p.isNone w:=by
 cases p<;>simp[Op.equalIn,run_underlying h]
theorem Adt{P:Program}(Γ:Ty P){o:Oper}{s:SS}{op:BinOp}{t yt:TypeId}{ti:TI}{x y:Operand}(h:o.op=.binOp op t x y yt)(hop:op=.eql∨op=.neq)(ht:Γ.get t=some ti)(hk:ti.k=.ptr)(hy:ev s y=.val (.pointer none)){b:Bool}{rd:List Nat}(hx:(∃k off l,ev s x=.ptr k off∧s.h k=.box l∧rd=[k]∧b=false)∨(ev s x=.val (.pointer none)∧rd=[]∧b=true)):Good P o s ⟨.val (.bool (if op=.eql then b else !b)),rd,[]⟩ :=
 Good.pure λκ a w _ iw ho=>by
  have h1:=iw x (by simp[h,Op.operands]);have h2:=iw y (by simp[h,Op.operands]);rw[hy]at h2;obtain ⟨d,info,z,k1,k2,_⟩:=Γ.ok t ti ht;rw[hk]at k2;simp only[TK.ok]at k2;obtain ⟨e,rfl⟩:=k2;have key:∃p:Option Addr,a.eval x=.pointer p∧p.isNone=b:=by
   rcases hx with ⟨k,off,l,hx,hl,rfl,rfl⟩|⟨hx,rfl,rfl⟩
   ·have h3:=ho k y_;rw[hl]at h3;obtain ⟨bb,cs,T,fr,e1,_⟩:=h3;rw[hx]at h1;simp only[Rd,e1]at h1;exact⟨_,h1,E⟩
   ·rw[hx]at h1;exact⟨none,h1.val,E⟩
  obtain ⟨p,e1,e2⟩:=key;have au:(Op.equal t (.pointer p) (.pointer none)).run P w=.ok b w:=by
   show (Op.equalIn (9999+1) t (.pointer p) (.pointer none)).run P w=.ok b w;rw[Xf w 9999 k1,e2]
  refine⟨.bool (if op=.eql then b else !b),?_,by simp[Rd]⟩;rcases hop with rfl|rfl<;>simp[execOp,h,e1,h2.val,eqGuard_at_pointer,binOp,au]
def fv(x:SV)(K:SV→Prop):Prop :=
 match x with
 | .val v=>(match v with
  | .int k n=>K (.val (.int k n))
  | .bool b=>K (.val (.bool b))
  | .string b=>K (.val (.string b))
  | v=>K (.val v))
 | .agg l=>K (.agg l)
 | .tup l=>K (.tup l)
 | .sl sz e l=>K (.sl sz e l)
 | .ref sz x o=>K (.ref sz x o)
 | .ptr k o=>K (.ptr k o)
 | .rpt k sz i o=>K (.rpt k sz i o)
 | .osl k=>K (.osl k)
 | .ifc t x=>K (.ifc t x)
 | .clo f g l=>K (.clo f g l)
 | .top=>K .top
theorem Acl(x:SV)(K:SV→Prop):fv x K↔K x:=by
 unfold fv;split<;>first|rfl|(split<;>rfl)
def fl(l:List SV)(K:List SV→Prop):Prop :=
 match l with
 |[]=>K []
 |x::r=>fv x λx'=>fl r λr'=>K (x'::r')
theorem Qz:∀(l:List SV) (K:List SV→Prop),fl l K↔K l
 |[],K=>Iff.rfl
 |x::r,K=>by unfold fl;rw[Acl,Qz r]
def fa(x:SV)(K:SV→Prop):Prop :=
 match x with
 | .agg l=>fl l λl=>K (.agg l)
 | .tup l=>fl l λl=>K (.tup l)
 |x=>fv x K
theorem A4z(x:SV)(K:SV→Prop):fa x K↔K x:=by
 unfold fa;split
 ·exact Qz _ _
 ·exact Qz _ _
 ·exact Acl _ _
def I64(x:Int):Prop:=-9223372036854775808≤x∧x≤9223372036854775807
theorem I64.wrap{x:Int}(h:I64 x):IntKind.i64.wrap x=x:=by
 obtain ⟨h1,h2⟩:=h;rw[IntKind.wrap_i64];omega
def A4c(op:BinOp)(k:IntKind)(a b:Int)(K:SV→Prop)(stop:Prop):Prop :=
 match op with
 | .add=>(match k with| .i64=>I64 (a+b)∧K (.val (.int .i64 (a+b)))|k=>K (.val (.int k (k.wrap (a+b)))))
 | .sub=>(match k with| .i64=>I64 (a-b)∧K (.val (.int .i64 (a-b)))|k=>K (.val (.int k (k.wrap (a-b)))))
 | .mul=>(match k with| .i64=>I64 (a*b)∧K (.val (.int .i64 (a*b)))|k=>K (.val (.int k (k.wrap (a*b)))))
 | .quo=>b≠0∧K (.val (.int k (k.wrap (a.tdiv b))))
 | .rem=>b≠0∧K (.val (.int k (a.tmod b)))
 | .and=>K (.val (.int k (bits .and k a b)))
 | .or=>K (.val (.int k (bits .or k a b)))
 | .xor=>K (.val (.int k (bits .xor k a b)))
 | .andNot=>K (.val (.int k (bits .andNot k a b)))
 | .lss=>K (.val (.bool (decide (a<b))))
 | .leq=>K (.val (.bool (decide (a≤b))))
 | .gtr=>K (.val (.bool (decide (a>b))))
 | .geq=>K (.val (.bool (decide (a≥b))))
 | .eql=>K (.val (.bool (a==b)))
 | .neq=>K (.val (.bool (a != b)))
 |_=>stop
def Alw(op:BinOp)(k:IntKind)(a b:Int)(K:SV→Prop)(stop:Prop):Prop :=
 match op with
 | .shl=>0≤b∧K (.val (.int k (k.wrap (a*2^(min b.toNat k.bits)))))
 | .shr=>0≤b∧K (.val (.int k (a.fdiv (2^(min b.toNat k.bits)))))
 |_=>stop
def A69:BinOp→Bool| .shl=>true| .shr=>true|_=>false
def A2b(op:BinOp)(a b:ByteArray)(K:SV→Prop)(stop:Prop):Prop :=
 match op with
 | .add=>a.size+b.size≤9223372036854775807∧K (.val (.string (a++b)))
 | .eql=>K (.val (.bool (a==b)))
 | .neq=>K (.val (.bool (!(a==b))))
 | .lss=>K (.val (.bool (Op.bytesLess a.toList b.toList)))
 | .gtr=>K (.val (.bool (!(Op.bytesLess a.toList b.toList||a==b))))
 |_=>stop
structure TyE(P:Program) extends Ty P where
 eqs:TypeId→Option (List EK)
 eqok:∀t ks,eqs t=some ks→EqOK P t ks
def bnd(s:SS)(x:Option Operand)(d:Int)(K:Int→Prop)(stop:Prop):Prop :=
 match x with
 |none=>K d
 | some y=>(match ev s y with
  | .val (.int _ n)=>K n
  | _=>stop)
def Bu(b:ByteArray)(i:Nat):UInt8:=b.data.toList.getD i 0
def opW{P:Program}(Γ:TyE P)(o:Oper)(s:SS)(K:Up→Prop)(stop:Prop):Prop :=
 match o.op with
 | .move x=>fv (ev s x) λv=>K ⟨v,[],[]⟩
 | .assign x=>fv (ev s x) λv=>K ⟨v,[],[]⟩
 | .pick c a b=>(match ev s c with
  | .val (.bool c)=>(match c with
   |true=>fv (ev s a) λv=>K ⟨v,[],[]⟩
   | false=>fv (ev s b) λ v=>K ⟨v,[],[]⟩)
  | _=>stop)
 | .alloc t=>(match o.dst with
  | some d=>(match s.h d with
   | .fresh=>(match Γ.get t with
    | some i=>(match Adf i.zero with
     |true=>fl (i.zero.map .val) λl=>K ⟨.ptr d 0,[],[(d,.box l)]⟩
     | false=>stop)
    | none=>stop)
   | _=>stop)
  | none=>stop)
 | .box _ x=>(match o.dst with
  | some d=>(match s.h d with
   | .fresh=>(match (ev s x).boxed with
    |true=>fl (cellsOf (ev s x)) λl=>K ⟨.ptr d 0,[],[(d,.box l)]⟩
    | false=>stop)
   | _=>stop)
  | none=>stop)
 | .load t x=>(match Γ.get t with
  | some i=>(match ev s x with
   | .ptr k off=>(match s.h k with
    | .box l=>(match Oo i l off with
     |some y=>fa y λy=>K ⟨y,[k],[]⟩
     | none=>stop)
    | _=>stop)
   | .ref _ z off=>(match z.boxed with
    | true=>(match Oo i (cellsOf z) off with
     |some y=>fa y λy=>K ⟨y,[],[]⟩
     | none=>stop)
    | false=>stop)
   | .rpt k sz n off=>(match s.h k with
    | .row dy e l=>dy=sz∧∃ h:n<l.length,(match (e l[n]).boxed with
     | true=>(match Oo i (cellsOf (e l[n])) off with
      |some y=>fa y λy=>K ⟨y,[k],[]⟩
      | none=>False)
     | false=>False)
    | .lit dy svs=>dy=sz∧(match Ih svs n with
     | some z=>(match z.boxed with
      | true=>(match Oo i (cellsOf z) off with
       |some y=>fa y λy=>K ⟨y,[k],[]⟩
       | none=>False)
      | false=>False)
     | none=>False)
    | _=>stop)
   | _=>stop)
  | none=>stop)
 | .store t x y=>(match Γ.get t with
  | some i=>(match ev s x with
   | .ptr k off=>(match s.h k with
    | .box l=>(match (ev s y).boxed && Nat.beq (cellsOf (ev s y)).length i.size && Nat.ble (off+i.size) l.length with
     |true=>fl (setAt l off (cellsOf (ev s y))) λl=>K ⟨.val undef,[],[(k,.box l)]⟩
     | false=>stop)
    | _=>stop)
   | .rpt k sz n off=>(match s.h k with
    | .row (α:=α) dy e l=>dy=sz∧∃(h:n<l.length) (z:α),cellsOf (e z)=setAt (cellsOf (e l[n])) off (cellsOf (ev s y)) ∧
      (((ev s y).boxed&&Nat.beq (cellsOf (ev s y)).length i.size&&Nat.ble (off+i.size) sz&&(e l[n]).boxed&&(e z).boxed&&(e z).data)=true)∧K ⟨.val undef,[],[(k,.row dy e (l.set n z))]⟩
    | _=>stop)
   | _=>stop)
  | none=>stop)
 | .fieldAddr t x f=>(match Γ.get t with
  | some i=>(match i.k with
   | .struct fs=>(match fs[f]? with
    | some (fo,fn)=>(match fn with
     |0=>stop
     | _+1=>(match ev s x with
      | .ptr k off=>(match s.h k with
       | .box _=>K ⟨.ptr k (off+fo),[k],[]⟩
       | _=>stop)
      | .ref sz z off=>K ⟨.ref sz z (off+fo),[],[]⟩
      | .rpt k sz n off=>(match s.h k with
       | .row (α:=α) dy e l=>l≠[]∧K ⟨.rpt k sz n (off+fo),[k],[]⟩
       | .lit _ _=>K ⟨.rpt k sz n (off+fo),[k],[]⟩
       | _=>stop)
      | _=>stop))
    | none=>stop)
   | _=>stop)
  | none=>stop)
 | .nilCheck x=>(match ev s x with
  | .ptr k off=>(match s.h k with
   | .box _=>K ⟨.ptr k off,[k],[]⟩
   | _=>stop)
  | .ref sz z off=>K ⟨.ref sz z off,[],[]⟩
  | .clo fn first cap=>(match fn with
   | .func f=>K ⟨.clo (.func f) first cap,[],[]⟩
   | _=>stop)
  | _=>stop)
 | .indexAddr t x y=>(match Γ.get t with
  | some i=>(match i.k with
   | .slice _ esz _ _=>(match ev s y with
    | .val (.int _ n)=>(match ev s x with
     | .sl sz e l=>esz=sz∧∃(_:0≤n) (h:n.toNat<l.length),K ⟨.ref sz (e l[n.toNat]) 0,[],[]⟩
     | .osl k=>(match (s.h k).len with
      |some len=>0≤n∧n.toNat<len∧K ⟨.rpt k esz n.toNat 0,[k],[]⟩
      | none=>stop)
     | _=>stop)
    | _=>stop)
   | .array _ len esz=>(match ev s y with
    | .val (.int _ n)=>(match ev s x with
     | .ptr k off=>(match s.h k with
      | .box _=>0≤n∧n.toNat<len∧K ⟨.ptr k (off+n.toNat*esz),[k],[]⟩
      | _=>stop)
     | .ref sz z off=>0≤n∧n.toNat<len∧K ⟨.ref sz z (off+n.toNat*esz),[],[]⟩
     | _=>stop)
    | _=>stop)
   | _=>stop)
  | none=>stop)
 | .binOp op t x y _=>(match ev s x,ev s y with
  | .val (.int k a),.val (.int k' b)=>(match A69 op with
   |true=>Alw op k a b (λv=>K ⟨v,[],[]⟩) stop
   | false=>if k=k' then A4c op k a b (λ v=>K ⟨v,[],[]⟩) stop else stop)
  | .val (.string a),.val (.string b)=>A2b op a b (λv=>K ⟨v,[],[]⟩) stop
  | .val (.bool p),.val (.bool q)=>(match Γ.get t with
   | some i=>(match i.k with
    | .bool=>(match op with
     | .eql=>K ⟨.val (.bool (p==q)),[],[]⟩
     | .neq=>K ⟨.val (.bool (p != q)),[],[]⟩
     | _=>stop)
    | _=>stop)
   | none=>stop)
  | .agg l,.agg m=>(match Γ.eqs t with
   | some ks=>(match eqS ks l m with
    | some r=>(match op with
     | .eql=>K ⟨.val (.bool r),[],[]⟩
     | .neq=>K ⟨.val (.bool (!r)),[],[]⟩
     | _=>stop)
    | none=>stop)
   | none=>stop)
  | .ptr k _,.val (.pointer none)=>(match s.h k with
   | .box _=>(match Γ.get t with
    | some i=>(match i.k with
     | .ptr=>(match op with
      | .eql=>K ⟨.val (.bool false),[k],[]⟩
      | .neq=>K ⟨.val (.bool true),[k],[]⟩
      | _=>stop)
     | _=>stop)
    | none=>stop)
   | _=>stop)
  | _,_=>stop)
 | .unOp op _ x=>(match op,ev s x with
  | .not,.val (.bool b)=>K ⟨.val (.bool (!b)),[],[]⟩
  | .neg,.val (.int k n)=>K ⟨.val (.int k (k.wrap (0-n))),[],[]⟩
  | _,_=>stop)
 | .extract x i=>(match ev s x with
  | .tup l=>(match Ih l i with
   |some y=>fa y λy=>K ⟨y,[],[]⟩
   | none=>stop)
  | _=>stop)
 | .convert src dst x=>(match Γ.get src,Γ.get dst with
  | some si,some di=>(match di.k,ev s x with
   | .int k',.val (.int _ n)=>K ⟨.val (.int k' (k'.wrap n)),[],[]⟩
   | .string,.val (.string b)=>(match si.k with
    | .string=>K ⟨.val (.string b),[],[]⟩
    | _=>stop)
   | _,_=>stop)
  | _,_=>stop)
 | .makeInterface t x=>(match Γ.get t with
  | some i=>(match i.k with
   | .iface=>stop
   | .other=>stop
   | .array _ _ _=>stop
   | _=>fv (ev s x) λ v=>K ⟨.ifc t v,[],[]⟩)
  | none=>stop)
 | .build t ps=>(match Γ.get t with
  | some i=>(match i.k with
   | .struct fs=>(match Adf i.zero with
    | true=>(match Ahi fs (i.zero.map .val) (ps.toList.map λ p=>(p.1,ev s p.2)) with
     |some out=>fl out λout=>K ⟨.agg out,[],[]⟩
     | none=>stop)
    | false=>stop)
   | _=>stop)
  | none=>stop)
 | .buildSlice t len ps=>(match o.dst with
  | some d=>(match s.h d with
   | .fresh=>(match Γ.get t with
    | some i=>(match i.k with
     | .slice _ sz _ _=>(match M6 0 ps.toList with
      | some xs=>(match Nat.beq xs.length len && Nat.ble (len * sz) 16777216 && Aj5 sz (xs.map (ev s)) with
       |true=>fl (xs.map (ev s)) λsvs=>K ⟨.osl d,[],[(d,.lit sz svs)]⟩
       | false=>stop)
      | none=>stop)
     | _=>stop)
    | none=>stop)
   | _=>stop)
  | none=>stop)
 | .index t x y=>(match Γ.get t with
  | some i=>(match i.k with
   | .string=>(match ev s x with
    | .val (.string b)=>(match ev s y with
     | .val (.int _ n)=>0≤n∧n.toNat<b.size∧K ⟨.val (.int .u8 (Bu b n.toNat).toNat),[],[]⟩
     | _=>stop)
    | _=>stop)
   | _=>stop)
  | none=>stop)
 | .slice t x lo hi mx=>(match mx with
  | none=>(match Γ.get t with
   | some i=>(match i.k with
    | .string=>(match ev s x with
     | .val (.string b)=>bnd s lo 0 (λl=>bnd s hi b.size (λh=>(0≤l∧l≤h∧h≤b.size)∧K ⟨.val (.string (b.extract l.toNat h.toNat)),[],[]⟩) stop) stop
     | _=>stop)
    | _=>stop)
   | none=>stop)
  | some _=>stop)
 | .makeFunc fn first cap=>fl (first.toList.map (ev s)) λf=>fl (cap.toList.map (ev s)) λl=>K ⟨.clo fn f l,[],[]⟩
 | .call c=>(match c.callee with
  | .builtin .len=>(match c.args.toList,c.argTypes.toList with
   | [x],t::_=>(match Γ.get t with
    | some i=>(match i.k with
     | .slice _ _ _ _=>(match ev s x with
      | .sl _ _ l=>K ⟨.val (.int .i64 l.length),[],[]⟩
      | .osl k=>(match (s.h k).len with
       |some n=>K ⟨.val (.int .i64 n),[k],[]⟩
       | none=>stop)
      | .val (.slice _ n _)=>K ⟨.val (.int .i64 n),[],[]⟩
      | _=>stop)
     | .string=>(match ev s x with
      | .val (.string b)=>K ⟨.val (.int .i64 b.size),[],[]⟩
      | _=>stop)
     | _=>stop)
    | none=>stop)
   | _,_=>stop)
  | _=>stop)
 |_=>stop
theorem A4b{P:Program}{o:Oper}{s:SS}{op:BinOp}{t yt:TypeId}{x y:Operand}{k:IntKind}{m n:Int}{K:Up→Prop}{stop:Prop}(h:o.op=.binOp op t x y yt)(hx:ev s x=.val (.int k m))(hy:ev s y=.val (.int k n))(hw:A4c op k m n (λv=>K ⟨v,[],[]⟩) stop):(∃U,Good P o s U∧K U)∨stop:=by
 have mk:∀u:Value,(∀w,(binOp op t (.int k m) (.int k n)).run P w=.ok u w)→K ⟨.val u,[],[]⟩→(∃U,Good P o s U∧K U)∨stop:=λu hu hk=>.inl ⟨_,A4s h hx hy hu,hk⟩
 unfold A4c at hw;split at hw
 ·split at hw
  ·exact mk _ (λw=>by simp[binOp_add,Op.intArith,hw.1.wrap]) hw.2
  ·exact mk _ (λw=>by simp[binOp_add,Op.intArith]) hw
 ·split at hw
  ·exact mk _ (λw=>by simp[binOp_sub,Op.intArith,hw.1.wrap]) hw.2
  ·exact mk _ (λw=>by simp[binOp_sub,Op.intArith]) hw
 ·split at hw
  ·exact mk _ (λw=>by simp[binOp_mul,Op.intArith,hw.1.wrap]) hw.2
  ·exact mk _ (λw=>by simp[binOp_mul,Op.intArith]) hw
 ·exact mk _ (λw=>by simp[binOp_quo,Op.intDiv,hw.1]) hw.2
 ·exact mk _ (λw=>by simp[binOp_rem,Op.intDiv,hw.1]) hw.2
 ·exact mk _ (λw=>by simp[binOp_and,intBits_and]) hw
 ·exact mk _ (λw=>by simp[binOp_or,intBits_or]) hw
 ·exact mk _ (λw=>by simp[binOp_xor,intBits_xor]) hw
 ·exact mk _ (λw=>by simp[binOp_andNot,intBits_andNot]) hw
 ·exact mk _ (λw=>by simp[binOp_lss]) hw
 ·exact mk _ (λw=>by simp[binOp_leq]) hw
 ·exact mk _ (λw=>by simp[binOp_gtr]) hw
 ·exact mk _ (λw=>by simp[binOp_geq]) hw
 ·exact mk _ (λw=>by simp[binOp_eql]) hw
 ·exact mk _ (λw=>by simp[binOp_neq]) hw
 ·exact .inr hw
theorem Ag6{P:Program}{o:Oper}{s:SS}{op:BinOp}{t yt:TypeId}{x y:Operand}{k k':IntKind}{m n:Int}{u:Value}(h:o.op=.binOp op t x y yt)(hx:ev s x=.val (.int k m))(hy:ev s y=.val (.int k' n))(hr:∀w,(binOp op t (.int k m) (.int k' n)).run P w=.ok u w):Good P o s ⟨.val u,[],[]⟩ :=
 Good.pure λκ a w _ iw _=>by
  have h1:=iw x (by simp[h,Op.operands]);have h2:=iw y (by simp[h,Op.operands]);rw[hx]at h1;rw[hy]at h2;refine⟨u,?_,by simp[Rd]⟩;simp[execOp,h,h1.val,h2.val,eqGuard_at_int,hr]
theorem As5{P:Program}{o:Oper}{s:SS}{op:BinOp}{t yt:TypeId}{x y:Operand}{k k':IntKind}{m n:Int}{K:Up→Prop}{stop:Prop}(h:o.op=.binOp op t x y yt)(hx:ev s x=.val (.int k m))(hy:ev s y=.val (.int k' n))(hw:Alw op k m n (λv=>K ⟨v,[],[]⟩) stop):(∃U,Good P o s U∧K U)∨stop:=by
 unfold Alw at hw;split at hw
 ·have hn:¬n<0:=by omega
  exact .inl ⟨_,Ag6 (u:=.int k (k.wrap (m*2^(min n.toNat k.bits)))) h hx hy (λw=>by simp[binOp_shl,Op.shift,hn]),hw.2⟩
 ·have hn:¬n<0:=by omega
  exact .inl ⟨_,Ag6 (u:=.int k (m.fdiv (2^(min n.toNat k.bits)))) h hx hy (λw=>by simp[binOp_shr,Op.shift,hn]),hw.2⟩
 ·exact .inr hw
theorem A2a{P:Program}{o:Oper}{s:SS}{op:BinOp}{t yt:TypeId}{x y:Operand}{m n:ByteArray}{K:Up→Prop}{stop:Prop}(h:o.op=.binOp op t x y yt)(hx:ev s x=.val (.string m))(hy:ev s y=.val (.string n))(hw:A2b op m n (λv=>K ⟨v,[],[]⟩) stop):(∃U,Good P o s U∧K U)∨stop:=by
 unfold A2b at hw;split at hw
 ·have hn:¬(9223372036854775807<((m.size+n.size:Nat):Int)):=by omega
  refine .inl ⟨_,L2 (u:=.string (m++n)) h y_ hx hy (λw=>?_),hw.2⟩;simp only[Op.stringOp,IntKind.max_i64];rw[zD hn];rfl
 ·exact .inl ⟨_,L2 (u:=.bool (m==n)) h y_ hx hy (λw=>by simp[Op.stringOp,beq_toListBytes]),hw⟩
 ·exact .inl ⟨_,L2 (u:=.bool (!(m==n))) h y_ hx hy (λw=>by simp[Op.stringOp,beq_toListBytes]),hw⟩
 ·exact .inl ⟨_,L2 (u:=.bool (Op.bytesLess m.toList n.toList)) h y_ hx hy (λw=>by simp[Op.stringOp]),hw⟩
 ·exact .inl ⟨_,L2 (u:=.bool (!(Op.bytesLess m.toList n.toList||m==n))) h y_ hx hy (λw=>by simp[Op.stringOp,beq_toListBytes]),hw⟩
 ·exact .inr hw
theorem Wf{P:Program}(Γ:Ty P){t:TypeId}{ti:TI}{e:TypeId}{len esz:Nat}(ht:Γ.get t=some ti)(hk:ti.k=.array e len esz):P.underlying t=some (.array len e)∧∃i,P.info? e=some i∧i.size=esz:=by
 obtain ⟨d,info,z,k1,k2,k3,k4,k5,k6⟩:=Γ.ok t ti ht;rw[hk]at k2;simp only[TK.ok]at k2;obtain ⟨rfl,k2⟩:=k2;exact⟨k1,k2⟩
theorem S9{P:Program}{t et:TypeId}{len esz:Nat}{i:TypeInfo}{ik:IntKind}{n:Int}{b o:Nat}(w:World)(hu:P.underlying t=some (.array len et))(hq:P.info? et=some i)(hi:i.size=esz)(h0:0≤n)(hn:n.toNat<len):(Instr.indexAt t (.pointer (some ⟨b,o,none⟩)) (.int ik n)).run P w=.ok (.pointer (some ⟨b,o+n.toNat*esz,none⟩)) w:=by
 have ab:n<len:=by omega
 simp[Instr.indexAt,asIntOf,run_underlying hu,Instr.sureAddr,h0,ab,sizeOf,typeInfo,hq,hi,Addr.add_lit]
theorem Jb{P:Program}(Γ:Ty P){o:Oper}{s:SS}{t:TypeId}{ti:TI}{et:TypeId}{len esz k off:Nat}{x y:Operand}{ik:IntKind}{n:Int}{l:List SV}(h:o.op=.indexAddr t x y)(ht:Γ.get t=some ti)(hk:ti.k=.array et len esz)(hx:ev s x=.ptr k off)(hb:s.h k=.box l)(hy:ev s y=.val (.int ik n))(h0:0≤n)(hn:n.toNat<len):Good P o s ⟨.ptr k (off+n.toNat*esz),[k],[]⟩ :=
 Good.pure λκ a w _ hr ho=>by
  have h1:=hr x (by simp[h,Op.operands]);have h2:=hr y (by simp[h,Op.operands]);have h3:=ho k y_;rw[hb]at h3;obtain ⟨b,cs,T,fr,e1,_⟩:=h3;rw[hx]at h1;rw[hy]at h2;simp only[Rd,e1]at h1;obtain ⟨hu,i,q1,q2⟩:=Wf Γ ht hk;refine⟨.pointer (some ⟨b,off+n.toNat*esz,none⟩),?_,by simp only[Rd,e1]⟩;simp only[execOp,h,h1,h2.val];simp[S9 w hu q1 q2 h0 hn]
theorem Ja{P:Program}(Γ:Ty P){o:Oper}{s:SS}{t:TypeId}{ti:TI}{et:TypeId}{len esz sz off:Nat}{x y:Operand}{ik:IntKind}{n:Int}{z:SV}(h:o.op=.indexAddr t x y)(ht:Γ.get t=some ti)(hk:ti.k=.array et len esz)(hx:ev s x=.ref sz z off)(hy:ev s y=.val (.int ik n))(h0:0≤n)(hn:n.toNat<len):Good P o s ⟨.ref sz z (off+n.toNat*esz),[],[]⟩ :=
 Good.pure λκ a w _ hr _=>by
  have h1:=hr x (by simp[h,Op.operands]);have h2:=hr y (by simp[h,Op.operands]);rw[hx]at h1;rw[hy]at h2;simp only[Rd,RdD]at h1;obtain ⟨b,oo,u,e1,e2,e3,e4,e5⟩:=h1;obtain ⟨hu,i,q1,q2⟩:=Wf Γ ht hk;refine⟨.pointer (some ⟨b,oo+off+n.toNat*esz,none⟩),?_,?_⟩
  ·simp only[execOp,h,e1,h2.val];simp[S9 w hu q1 q2 h0 hn]
  ·simp only[Rd,RdD];exact⟨b,oo,u,by rw[vZ],e2,e3,e4,e5⟩
theorem Aao{P:Program}(Γ:Ty P){o:Oper}{s:SS}{t:TypeId}{ti:TI}{x y:Operand}{ik:IntKind}{n:Int}{b:ByteArray}(h:o.op=.index t x y)(ht:Γ.get t=some ti)(hk:ti.k=.string)(hx:ev s x=.val (.string b))(hy:ev s y=.val (.int ik n))(h0:0≤n)(hn:n.toNat<b.size):Good P o s ⟨.val (.int .u8 (Bu b n.toNat).toNat),[],[]⟩ :=
 Good.pure λκ a w _ hr _=>by
  have h1:=hr x (by simp[h,Op.operands]);have h2:=hr y (by simp[h,Op.operands]);rw[hx]at h1;rw[hy]at h2;obtain ⟨d,info,z,k1,k2,k3,k4,k5,k6⟩:=Γ.ok t ti ht;rw[hk]at k2;simp only[TK.ok]at k2;subst k2;have hg:b[n.toNat]? = some (Bu b n.toNat):=by
   have mc:n.toNat<b.data.toList.length:=hn;rw[getElem?_pos b n.toNat hn];simp only[Bu,wC,zU mc,Option.getD_some,Option.some.injEq];rfl
  refine⟨.int .u8 (Bu b n.toNat).toNat,?_,by simp only[Rd]⟩;simp[execOp,h,h1.val,h2.val,Instr.index,run_underlying k1,asIntOf,h0,hg]
def BndAt(s:SS)(x:Option Operand)(d n:Int):Prop:=(x=none∧n=d)∨∃y k,x=some y∧ev s y=.val (.int k n)
theorem A5f{s:SS}{x:Option Operand}{d:Int}{K:Int→Prop}{stop:Prop}(h:bnd s x d K stop):(∃n,BndAt s x d n∧K n)∨stop:=by
 unfold bnd at h;split at h
 ·exact .inl ⟨d,.inl ⟨E,E⟩,h⟩
 ·split at h
  ·rename_i y _ k n hy;exact .inl ⟨n,.inr ⟨y,k,E,hy⟩,h⟩
  ·exact .inr h
theorem BndAt.is{s:SS}{x:Option Operand}{d n:Int}{m:Nat}(h:BndAt s x d n)(h0:0≤n)(hd:d.toNat=m):BoundIs s x m n.toNat:=by
 rcases h with ⟨rfl,rfl⟩|⟨y,k,rfl,hy⟩
 ·exact .inl ⟨E,hd⟩
 ·exact .inr ⟨y,k,E,by rw[hy,yR h0]⟩
theorem A3c{P:Program}{Γ:TyE P}{o:Oper}{s:SS}{K:Up→Prop}{stop:Prop}(h:opW Γ o s K stop):(∃U,Good P o s U∧K U)∨stop:=by
 cases hop:o.op with
 |move x=>
  simp only[opW,hop,Acl]at h;exact .inl ⟨_,Akm (.inl hop),h⟩
 |assign x=>
  simp only[opW,hop,Acl]at h;exact .inl ⟨_,Akm (.inr hop),h⟩
 |pick c a b=>
  simp only[opW,hop,Acl]at h;split at h
  ·rename_i cc hc;cases cc
   ·exact .inl ⟨_,Akl hop hc,h⟩
   ·exact .inl ⟨_,Akl hop hc,h⟩
  ·exact .inr h
 |alloc t=>
  simp only[opW,hop,Qz]at h;split at h
  ·rename_i d hd;split at h
   ·rename_i hf;split at h
    ·rename_i i hi;split at h
     ·rename_i h1;exact .inl ⟨_,Auy Γ.toTy hop hf hi h1,h⟩
     ·exact .inr h
    ·exact .inr h
   ·exact .inr h
  ·exact .inr h
 |box t x=>
  simp only[opW,hop,Qz]at h;split at h
  ·rename_i d hd;split at h
   ·rename_i hf;split at h
    ·rename_i h1;exact .inl ⟨_,Aar hop hf h1,h⟩
    ·exact .inr h
   ·exact .inr h
  ·exact .inr h
 |load t x=>
  simp only[opW,hop,A4z]at h;split at h
  ·rename_i i hi;split at h
   ·rename_i k off hx;split at h
    ·rename_i l hk;split at h
     ·rename_i y hy;exact .inl ⟨_,Ai5 Γ.toTy hop hx hi hk hy,h⟩
     ·exact .inr h
    ·exact .inr h
   ·rename_i sz z off hx;split at h
    ·rename_i hz;split at h
     ·rename_i y hy;exact .inl ⟨_,Ai4 Γ.toTy hop hx hi hz hy,h⟩
     ·exact .inr h
    ·exact .inr h
   ·rename_i k sz n off hx;split at h
    ·rename_i dy α e l hk;obtain ⟨rfl,hn,h⟩:=h;split at h
     ·rename_i hz;split at h
      ·rename_i y hy;have af:l≠[]:=by intro he;subst he;simp at hn
       refine .inl ⟨_,X5 (n:=l.length) (f:=rowF e l) Γ.toTy hop hx hi (λκ w ho=>?_) ⟨hn,E⟩ hz hy,h⟩;rw[hk]at ho;exact ho.rowAt af
      ·exact h.elim
     ·exact h.elim
    ·rename_i dy svs hk;obtain ⟨rfl,h⟩:=h;split at h
     ·rename_i z bu;split at h
      ·rename_i hz;split at h
       ·rename_i y hy;refine .inl ⟨_,X5 (n:=svs.length) (f:=Aix svs) Γ.toTy hop hx hi (λκ w ho=>?_) bu hz hy,h⟩;rw[hk]at ho;exact ho
       ·exact h.elim
      ·exact h.elim
     ·exact h.elim
    ·exact .inr h
   ·exact .inr h
  ·exact .inr h
 |store t x y=>
  simp only[opW,hop,Qz]at h;split at h
  ·rename_i i hi;split at h
   ·rename_i k off hx;split at h
    ·rename_i l hk;split at h
     ·rename_i hc;simp only[zG]at hc;exact .inl ⟨_,V0 Γ.toTy hop hx hi hk hc.1.1 (yJ hc.1.2) (xX hc.2),h⟩
     ·exact .inr h
    ·exact .inr h
   ·rename_i k sz n off hx;split at h
    ·rename_i dy α e l hk;obtain ⟨rfl,hn,z,hz,hc,h⟩:=h;simp only[zG]at hc;obtain ⟨⟨⟨⟨⟨c1,c2⟩,c3⟩,c4⟩,c5⟩,c6⟩:=hc;exact .inl ⟨_,Vz Γ.toTy hop hx hi hk c1 (yJ c2) (xX c3) hn hz c4 c5 c6,h⟩
    ·exact .inr h
   ·exact .inr h
  ·exact .inr h
 |fieldAddr t x f=>
  simp only[opW,hop]at h;split at h
  ·rename_i i hi;split at h
   ·rename_i fs hk;split at h
    ·rename_i fo fn hf;split at h
     ·exact .inr h
     ·rename_i fn';split at h
      ·rename_i k off hx;split at h
       ·rename_i l hb;exact .inl ⟨_,K5 Γ.toTy hop hi hk hf q_ (.inl ⟨k,off,l,hx,hb,E,E⟩),h⟩
       ·exact .inr h
      ·rename_i sz z off hx;exact .inl ⟨_,K5 Γ.toTy hop hi hk hf q_ (.inr (.inl ⟨sz,z,off,hx,E,E⟩)),h⟩
      ·rename_i k sz n off hx;split at h
       ·rename_i dy α e l hb;obtain ⟨af,h⟩:=h;refine .inl ⟨_,K5 Γ.toTy hop hi hk hf q_ (.inr (.inr ⟨k,sz,n,off,hx,λκ w ho=>?_,E,E⟩)),h⟩;rw[hb]at ho;obtain ⟨b,cap,_,_,_,e1,_⟩:=ho.rowAt af;exact⟨b,_,cap,e1⟩
       ·rename_i dy svs hb;refine .inl ⟨_,K5 Γ.toTy hop hi hk hf q_ (.inr (.inr ⟨k,sz,n,off,hx,λκ w ho=>?_,E,E⟩)),h⟩;rw[hb]at ho;obtain ⟨b,cap,_,_,_,e1,_⟩:=ho;exact⟨b,_,cap,e1⟩
       ·exact .inr h
      ·exact .inr h
    ·exact .inr h
   ·exact .inr h
  ·exact .inr h
 |nilCheck x=>
  simp only[opW,hop]at h;split at h
  ·rename_i k off hx;split at h
   ·rename_i l hb;have:=Dc (P:=P) (rd:=[k]) hop (.inl ⟨k,off,l,hx,hb,rfl⟩);rw[hx]at this;exact .inl ⟨_,this,h⟩
   ·exact .inr h
  ·rename_i sz z off hx;have:=Dc (P:=P) (rd:=[]) hop (.inr (.inl ⟨sz,z,off,hx,rfl⟩));rw[hx]at this;exact .inl ⟨_,this,h⟩
  ·rename_i fn first cap hx
   split at h
   ·rename_i f;have:=Dc (P:=P) (rd:=[]) hop (.inr (.inr (.inl ⟨f,first,cap,hx,rfl⟩)));rw[hx]at this;exact .inl ⟨_,this,h⟩
   ·exact .inr h
  ·exact .inr h
 |indexAddr t x y=>
  simp only[opW,hop]at h;split at h
  ·rename_i i hi;split at h
   ·rename_i et esz eb ez hk;split at h
    ·rename_i ik n hy;split at h
     ·rename_i sz α e l hx;obtain ⟨rfl,h0,hn,h⟩:=h;exact .inl ⟨_,K4 Γ.toTy hop hi hk hx hy h0 hn,h⟩
     ·rename_i k hx;split at h
      ·rename_i len hl;exact .inl ⟨_,J0 Γ.toTy hop hi hk hx hl hy h.1 h.2.1,h.2.2⟩
      ·exact .inr h
     ·exact .inr h
    ·exact .inr h
   ·rename_i et len esz hk;split at h
    ·rename_i ik n hy;split at h
     ·rename_i k off hx;split at h
      ·rename_i l hl;exact .inl ⟨_,Jb Γ.toTy hop hi hk hx hl hy h.1 h.2.1,h.2.2⟩
      ·exact .inr h
     ·rename_i sz z off hx;exact .inl ⟨_,Ja Γ.toTy hop hi hk hx hy h.1 h.2.1,h.2.2⟩
     ·exact .inr h
    ·exact .inr h
   ·exact .inr h
  ·exact .inr h
 |binOp op t x y yt=>
  simp only[opW,hop]at h;split at h
  ·rename_i k a k' b hx hy;split at h
   ·exact As5 hop hx hy h
   ·split at h
    ·rename_i pp;subst pp;exact A4b hop hx hy h
    ·exact .inr h
  ·rename_i a b hx hy;exact A2a hop hx hy h
  ·rename_i p q hx hy;split at h
   ·rename_i i hi;split at h
    ·rename_i hk;split at h
     ·exact .inl ⟨_,Aap Γ.toTy hop (.inl E) hi hk hx hy,h⟩
     ·exact .inl ⟨_,Aap Γ.toTy hop (.inr E) hi hk hx hy,h⟩
     ·exact .inr h
    ·exact .inr h
   ·exact .inr h
  ·rename_i l m hx hy;split at h
   ·rename_i ks hks;split at h
    ·rename_i r hr;split at h
     ·exact .inl ⟨_,Adu hop (.inl E) (Γ.eqok t ks hks) hx hy hr,h⟩
     ·exact .inl ⟨_,Adu hop (.inr E) (Γ.eqok t ks hks) hx hy hr,h⟩
     ·exact .inr h
    ·exact .inr h
   ·exact .inr h
  ·rename_i k off hx hy;split at h
   ·rename_i l hb;split at h
    ·rename_i i hi;split at h
     ·rename_i hk;split at h
      ·exact .inl ⟨_,Adt Γ.toTy hop (.inl E) hi hk hy (.inl ⟨k,off,l,hx,hb,E,E⟩),h⟩
      ·exact .inl ⟨_,Adt Γ.toTy hop (.inr E) hi hk hy (.inl ⟨k,off,l,hx,hb,E,E⟩),h⟩
      ·exact .inr h
     ·exact .inr h
    ·exact .inr h
   ·exact .inr h
  ·exact .inr h
 |unOp op t x=>
  simp only[opW,hop]at h;split at h
  ·rename_i b hx;exact .inl ⟨_,A4p hop hx,h⟩
  ·rename_i k n hx;exact .inl ⟨_,A4q hop hx,h⟩
  ·exact .inr h
 |extract x i=>
  simp only[opW,hop,A4z]at h;split at h
  ·rename_i l hx;split at h
   ·rename_i y hy;exact .inl ⟨_,Amy hop hx hy,h⟩
   ·exact .inr h
  ·exact .inr h
 |convert src dst x=>
  simp only[opW,hop]at h;split at h
  ·rename_i si di hs hd;split at h
   ·rename_i k' k n hk hx;exact .inl ⟨_,Acj Γ.toTy hop hs hd hk hx,h⟩
   ·rename_i b hk hx;split at h
    ·rename_i j9;exact .inl ⟨_,Xi Γ.toTy hop hs hd j9 hk hx,h⟩
    ·exact .inr h
   ·exact .inr h
  ·exact .inr h
 |makeInterface t x=>
  simp only[opW,hop,Acl]at h;split at h
  ·rename_i i hi;split at h
   ·exact .inr h
   ·exact .inr h
   ·exact .inr h
   ·rename_i h1 h2 h3;refine .inl ⟨_,Y2 Γ.toTy hop hi ?_,h⟩;cases hk:i.k<;>first|rfl|(exact yB hk h1)|(exact yB hk h2)|(exact yB hk (h3 _ _ _))
  ·exact .inr h
 |build t ps=>
  simp only[opW,hop,Qz]at h;split at h
  ·rename_i i hi;split at h
   ·rename_i fs hk;split at h
    ·rename_i h1;split at h
     ·rename_i out me;exact .inl ⟨_,Aux (ps:=ps.toList) Γ.toTy (by rw[hop]) hi hk h1 me,h⟩
     ·exact .inr h
    ·exact .inr h
   ·exact .inr h
  ·exact .inr h
 |buildSlice t len ps=>
  simp only[opW,hop,Qz]at h;split at h
  ·rename_i d hd;split at h
   ·rename_i hf;split at h
    ·rename_i i hi;split at h
     ·rename_i et sz eb ez hk;split at h
      ·rename_i xs qy;split at h
       ·rename_i hc;simp only[zG]at hc;exact .inl ⟨_,Aem (ps:=ps.toList) Γ.toTy (by rw[hop]) hf hi hk qy (yJ hc.1.1) (xX hc.1.2) hc.2,h⟩
       ·exact .inr h
      ·exact .inr h
     ·exact .inr h
    ·exact .inr h
   ·exact .inr h
  ·exact .inr h
 |index t x y=>
  simp only[opW,hop]at h;split at h
  ·rename_i i hi;split at h
   ·rename_i hk;split at h
    ·rename_i b hx;split at h
     ·rename_i ik n hy;exact .inl ⟨_,Aao Γ.toTy hop hi hk hx hy h.1 h.2.1,h.2.2⟩
     ·exact .inr h
    ·exact .inr h
   ·exact .inr h
  ·exact .inr h
 |slice t x lo hi mx=>
  simp only[opW,hop]at h;split at h
  ·split at h
   ·rename_i i hi';split at h
    ·rename_i hk;split at h
     ·rename_i b hx;rcases A5f h with ⟨l,hl,h⟩|h
      ·rcases A5f h with ⟨r,hr,h⟩|h
       ·obtain ⟨⟨a1,a2,a3⟩,h⟩:=h;exact .inl ⟨_,Aal (lo:=l.toNat) (hi:=r.toNat) Γ.toTy hop hi' hk hx (hl.is a1 E) (hr.is q_ y_) q_ q_,h⟩
       ·exact .inr h
      ·exact .inr h
     ·exact .inr h
    ·exact .inr h
   ·exact .inr h
  ·exact .inr h
 |makeFunc fn first cap=>
  simp only[opW,hop,Qz]at h;exact .inl ⟨_,Ai3 (ys:=first.toList) (xs:=cap.toList) (by rw[hop]),h⟩
 |call c=>
  simp only[opW,hop]at h;split at h
  ·rename_i y9;split at h
   ·rename_i x t r uo hats;have hc:c=⟨.builtin .len,#[x],c.argTypes⟩:=by
     obtain ⟨a,b,d⟩:=c;simp only at y9 uo⊢;have:b=#[x]:=by
      apply Array.ext';simpa using uo
     rw[y9,this]
    rw[hc]at hop;have jy:c.argTypes[0]? = some t:=by
     rw[←vS,hats];rfl
    split at h
    ·rename_i i hi;split at h
     ·rename_i et sz eb ez hk;split at h
      ·rename_i z α e l hx;exact .inl ⟨_,Ag7 Γ.toTy hop jy hi hk (.inl ⟨z,α,e,l,hx,E,E⟩),h⟩
      ·rename_i k hx;split at h
       ·rename_i n hn;exact .inl ⟨_,Ag7 Γ.toTy hop jy hi hk (.inr (.inl ⟨k,hx,hn,E⟩)),h⟩
       ·exact .inr h
      ·rename_i a n cap hx;exact .inl ⟨_,Ag7 Γ.toTy hop jy hi hk (.inr (.inr ⟨a,cap,hx,E⟩)),h⟩
      ·exact .inr h
     ·rename_i hk;split at h
      ·rename_i b hx;exact .inl ⟨_,Ael Γ.toTy hop jy hi hk hx,h⟩
      ·exact .inr h
     ·exact .inr h
    ·exact .inr h
   ·exact .inr h
  ·exact .inr h
 |_=>simp only[opW,hop]at h;exact .inr h
theorem A6w{P:Program}{Γ:TyE P}{o:Oper}{s:SS}{K:Up→Prop}{stop:Prop}(h:opW Γ o s K stop):(∃U,GoodX P o s U∧K U)∨stop:=by
 have hgen:(Kb o||Qx o)=false→(∃U,GoodX P o s U∧K U)∨stop:=λhn=>by
  rcases A3c h with ⟨U,hU,hk⟩|h
  ·exact .inl ⟨U,.of hU hn,hk⟩
  ·exact .inr h
 cases hop:o.op with
 |indexAddr t x y=>
  have br:Qx o=false:=by simp[Qx,hop]
  have hops:x∈o.op.operands∧y∈o.op.operands:=by simp[hop,Op.operands]
  simp only[opW,hop]at h;split at h
  ·rename_i i hi;split at h
   ·rename_i et esz eb ez hk;split at h
    ·rename_i ik n hy;split at h
     ·rename_i sz α e l hx;obtain ⟨rfl,h0,hn,h⟩:=h;exact .inl ⟨_,⟨(K4 Γ.toTy hop hi hk hx hy h0 hn).two,λ_=>⟨rfl,λs' h1 h2=>K4 Γ.toTy hop hi hk ((h1 x hops.1).trans hx) ((h1 y hops.2).trans hy) h0 hn⟩,λhc=>(by rw[br]at hc;cases hc)⟩,h⟩
     ·rename_i k hx;split at h
      ·rename_i len hl;exact .inl ⟨_,⟨(J0 Γ.toTy hop hi hk hx hl hy h.1 h.2.1).two,λ_=>⟨rfl,λs' h1 h2=>J0 Γ.toTy hop hi hk ((h1 x hops.1).trans hx) (Ob.shp_len (h2 k y_) hl) ((h1 y hops.2).trans hy) h.1 h.2.1⟩,λhc=>(by rw[br]at hc;cases hc)⟩,h.2.2⟩
      ·exact .inr h
     ·exact .inr h
    ·exact .inr h
   ·rename_i et len esz hk;split at h
    ·rename_i ik n hy;split at h
     ·rename_i k off hx;split at h
      ·rename_i l hl;exact .inl ⟨_,⟨(Jb Γ.toTy hop hi hk hx hl hy h.1 h.2.1).two,λ_=>⟨rfl,λs' h1 h2=>(Ob.shp_box ((h2 k y_).trans (zH Ob.shp hl))).elim λm hm=>Jb Γ.toTy hop hi hk ((h1 x hops.1).trans hx) hm ((h1 y hops.2).trans hy) h.1 h.2.1⟩,λhc=>(by rw[br]at hc;cases hc)⟩,h.2.2⟩
      ·exact .inr h
     ·rename_i sz z off hx;exact .inl ⟨_,⟨(Ja Γ.toTy hop hi hk hx hy h.1 h.2.1).two,λ_=>⟨rfl,λs' h1 h2=>Ja Γ.toTy hop hi hk ((h1 x hops.1).trans hx) ((h1 y hops.2).trans hy) h.1 h.2.1⟩,λhc=>(by rw[br]at hc;cases hc)⟩,h.2.2⟩
     ·exact .inr h
    ·exact .inr h
   ·exact .inr h
  ·exact .inr h
 |store t x y=>
  have ta:Kb o=false:=by simp[Kb,hop]
  simp only[opW,hop,Qz]at h;split at h
  ·rename_i i hi;split at h
   ·rename_i k off hx;split at h
    ·rename_i l hk;split at h
     ·rename_i hc;simp only[zG]at hc;exact .inl ⟨_,⟨(V0 Γ.toTy hop hx hi hk hc.1.1 (yJ hc.1.2) (xX hc.2)).two,λ hc=>(by rw[ta]at hc;cases hc),λ _ p hp=>by
       simp only[yA]at hp;subst hp;show (Ob.box _).shp=(s.h k).shp;rw[hk];rfl⟩,h⟩
     ·exact .inr h
    ·exact .inr h
   ·rename_i k sz n off hx;split at h
    ·rename_i dy α e l hk;obtain ⟨rfl,hn,z,hz,hc,h⟩:=h;simp only[zG]at hc;obtain ⟨⟨⟨⟨⟨c1,c2⟩,c3⟩,c4⟩,c5⟩,c6⟩:=hc;exact .inl ⟨_,⟨(Vz Γ.toTy hop hx hi hk c1 (yJ c2) (xX c3) hn hz c4 c5 c6).two,λ hc=>(by rw[ta]at hc;cases hc),λ _ p hp=>by
      simp only[yA]at hp;subst hp;show (Ob.row _ _ _).shp=(s.h k).shp;rw[hk];simp[Ob.shp]⟩,h⟩
    ·exact .inr h
   ·exact .inr h
  ·exact .inr h
 |_=>exact hgen (by simp[Kb,Qx,hop])
def Ag4(idx:Nat):List Oper→Bool
 |[]=>false
 | o::r=>(match o.guard with
  |some (j,_)=>Nat.beq j idx
  | none=>false) || Ag4 idx r
def A7h(isg:Bool)(U:Up)(K K':Up→Prop):Prop :=
 match isg with
 |false=>K U
 | true=>(match U.v with
  | .val (.bool b)=>(b=true→K' ⟨.val (.bool true),U.rd,U.objs⟩)∧(b=false→K' ⟨.val (.bool false),U.rd,U.objs⟩)
  | _=>K U)
theorem Aw8{X:Up→Prop}{isg:Bool}{U:Up}{K K':Up→Prop}(hK:∀U,K U→K' U)(hg:X U)(h:A7h isg U K K'):∃U',X U'∧K' U':=by
 unfold A7h at h;split at h
 ·exact⟨U,hg,hK _ h⟩
 ·split at h
  ·rename_i b hb;obtain ⟨v,rd,objs⟩:=U;simp only at hb;subst hb;cases b
   ·exact⟨_,hg,h.2 E⟩
   ·exact⟨_,hg,h.1 E⟩
  ·exact⟨U,hg,hK _ h⟩
def Ew(n:Nat)(all:Array Oper)(o:Oper)(s:SS):Option Bool :=
 match o.guard with
 |none=>some true
 | some (j,want)=>(match (all[j]?).bind (·.dst) with
  | some d=>(match Nat.blt d n with
   | true=>(match s.σ d with
    | .val (.bool c)=>(match c with
     |true=>some want
     | false=>(match want with | true=>some false | false=>some true))
    | .val (.tuple a)=>(match a.toList with|[]=>some false|_=>none)
    | _=>none)
   | false=>none)
  | none=>none)
theorem Ex{n:Nat}{all:Array Oper}{o:Oper}{s:SS}{b:Bool}(h:Ew n all o s=some b):Zg all s o.guard b∧∀j want,o.guard=some (j,want)→∀d,((all[j]?).bind (·.dst))=some d→d<n:=by
 unfold Ew at h;cases hg:o.guard with
 |none=>
  rw[hg]at h;simp only[Option.some.injEq]at h;exact⟨h.symm,λj want hh=>by cases hh⟩
 |some p=>
  obtain ⟨j,want⟩:=p;rw[hg]at h;simp only at h;split at h
  ·rename_i d hd;split at h
   ·rename_i ab;refine⟨⟨d,hd,?_⟩,λj' want' hh d' r7=>?_⟩
    ·split at h
     ·rename_i c hc;left;refine⟨c,hc,?_⟩;cases c
      ·cases want<;>simp_all
      ·simp_all
     ·rename_i a ha;split at h
      ·rename_i he;right;have:a=#[]:=by simpa using he
       subst this;simp only[Option.some.injEq]at h;exact⟨ha,h.symm⟩
      ·cases h
     ·cases h
    ·simp only[Option.some.injEq,Prod.mk.injEq]at hh;obtain ⟨rfl,rfl⟩:=hh;rw[hd]at r7;simp only[Option.some.injEq]at r7;subst r7;exact xX ab
   ·cases h
  ·cases h
def V8(n:Nat)(o:Oper):Bool:=match o.dst with|some d=>Nat.blt d n|none=>true
mutual
def O9(C:Cx)(Γ:TyE C.P):Nat→List KI→SS→Prop
 |0,k,s=>G C k s
 | n+1,k,s=>(match k with
  |[]=>G C [] s
  | .blk _::k=>O9 C Γ n k s
  | .inv I::k=>G C (.inv I::k) s
  | .scp::k=>O9 C Γ n k s
  | .ops _ []::k=>O9 C Γ n k s
  | .ops all (o::rest)::k=>(match V8 C.n o with
   | true=>(match Ew C.n all o s with
    |some true=>opW Γ o s (λU=>A7h (Ag4 (all.size-rest.length-1) rest) U (λU=>O9 C Γ n (.ops all rest::k) (s.upd o.dst U)) (λU=>G C (.ops all rest::k) (s.upd o.dst U))) (G C (.ops all (o::rest)::k) s)
    |some false=>O9 C Γ n (.ops all rest::k) (s.upd o.dst ⟨.val undef,[],[]⟩)
    | none=>G C (.ops all (o::rest)::k) s)
   | false=>G C (.ops all (o::rest)::k) s)
  | .code c::k=>(match c with
   | .skip=>O9 C Γ n k s
   | .seq x y=>O9 C Γ n (.code x::.code y::k) s
   | .block id c=>O9 C Γ n (.code c::.blk id::k) s
   | .scope c=>O9 C Γ n (.code c::.scp::k) s
   | .label _=>O9 C Γ n k s
   | .region id ops draw=>(match draw with
    |false=>O9 C Γ n (.ops ops ops.toList::k) s
    | true=>(match Avd C.n ops.toList with
     |true=>Aax C Γ n k ops [] ops.toList s
     | false=>G C (.code (.region id ops true)::k) s))
   | .cond c x y=>(match ev s c with
    | .val (.bool b)=>(b=true→G C (.code x::k) s)∧(b=false→G C (.code y::k) s)
    | _=>G C (.code (.cond c x y)::k) s)
   | .exit id=>(match Ya id k with
    |some k'=>O9 C Γ n k' s
    | none=>G C (.code (.exit id)::k) s)
   | c=>G C (.code c::k) s))
def Aax(C:Cx)(Γ:TyE C.P):Nat→List KI→Array Oper→List Stp→List Oper→SS→Prop
 |0,k,all,done,rest,s=>DR C k all done rest s
 | n+1,k,all,done,rest,s=>(match rest with
  |[]=>Am9 all done=true∧O9 C Γ n k s
  | o::rest=>(match Ew C.n all o s with
   |some true=>opW Γ o s (λU=>A7h (Ag4 (all.size-rest.length-1) rest) U (λU=>Aax C Γ n k all (done++[⟨done.length,o,U,true⟩]) rest (s.upd o.dst U)) (λU=>DR C k all (done++[⟨done.length,o,U,true⟩]) rest (s.upd o.dst U))) (DR C k all done (o::rest) s)
   |some false=>Aax C Γ n k all (done++[⟨done.length,o,⟨.val undef,[],[]⟩,false⟩]) rest (s.upd o.dst ⟨.val undef,[],[]⟩)
   | none=>DR C k all done (o::rest) s))
end
def Aho{n:Nat}{o:Oper}(h:V8 n o=true):∀d,o.dst=some d→d<n:=λd hd=>by
 unfold V8 at h;rw[hd]at h;exact xX h
def A5j{all:Array Oper}{done:List Stp}{o:Oper}{rest:List Oper}(h:all.toList=done.map (·.o)++o::rest):all[done.length]? = some o:=by
 rw[←vS,h,wA y_];simp
def Aw9{C:Cx}{Γ:TyE C.P}(hm:C.P.follows .mixedOrders=true):∀n,(∀k s,O9 C Γ n k s→G C k s)∧(∀k all done rest s,all.toList=done.map (·.o)++rest→Aax C Γ n k all done rest s→DR C k all done rest s):=by
 intro n
 induction n with
 |zero=>exact⟨λk s h=>(by simpa only [O9] using h),λk all done rest s _ h=>(by simpa only [Aax] using h)⟩
 |succ n ih=>
  obtain ⟨ov,xr⟩:=ih;constructor
  ·intro k s h;simp only[O9]at h;split at h
   ·exact h
   ·exact G_blk (ov _ _ h)
   ·exact h
   ·exact G_scp (ov _ _ h)
   ·exact A1h (ov _ _ h)
   ·rename_i all o rest k';split at h
    ·rename_i hd;have r7:=Aho hd;split at h
     ·rename_i hg;obtain ⟨w1,w2⟩:=Ex hg;rcases A3c h with ⟨U,hU,hk⟩|h
      ·obtain ⟨U',hU',j9⟩:=Aw8 (X:=Good C.P o s) (λU hu=>ov _ _ hu) hU hk;exact G_op hU' (λκ a w hs=>Wn hs w2 w1) r7 j9
      ·exact h
     ·rename_i hg;obtain ⟨w1,w2⟩:=Ex hg;exact A1i (λκ a w hs=>Wn hs w2 w1) r7 (ov _ _ h)
     ·exact h
    ·exact h
   ·rename_i c k';split at h
    ·exact G_skip (ov _ _ h)
    ·exact G_seq (ov _ _ h)
    ·exact A77 (ov _ _ h)
    ·exact A74 (ov _ _ h)
    ·exact A75 (ov _ _ h)
    ·split at h
     ·exact A5w (ov _ _ h)
     ·split at h
      ·rename_i hd;exact G_draw hm hd (xr _ _ _ _ _ y_ h)
      ·exact h
    ·split at h
     ·rename_i b hc;exact G_cond hc h.1 h.2
     ·exact h
    ·split at h
     ·rename_i hx;exact G_exit hx (ov _ _ h)
     ·exact h
    ·exact h
  ·intro k all done rest s iq h;simp only[Aax]at h;split at h
   ·exact DR_nil h.1 (ov _ _ h.2)
   ·rename_i o rest;have hi:=A5j iq;split at h
    ·rename_i hg;obtain ⟨w1,w2⟩:=Ex hg;rcases A6w h with ⟨U,hU,hk⟩|h
     ·obtain ⟨U',hU',j9⟩:=Aw8 (X:=GoodX C.P o s) (λU hu=>xr _ _ _ _ _ (by simp[iq]) hu) hU hk;exact A5y U' hU' hi w1 j9
     ·exact h
    ·rename_i hg;obtain ⟨w1,w2⟩:=Ex hg;exact A78 hi w1 (xr _ _ _ _ _ (by simp[iq]) h)
    ·exact h
def aF{p q:Prop}(h:q):(false=true→p)∧(false=false→q):=⟨λe=>(tM e).elim,λ_=>h⟩
def aT{p q:Prop}(h:p):(true=true→p)∧(true=false→q):=⟨λ_=>h,λe=>(tM e.symm).elim⟩
def run{C:Cx}{k:List KI}{s:SS}(Γ:TyE C.P)(hm:C.P.follows .mixedOrders=true)(n:Nat)(h:O9 C Γ n k s):G C k s:=(Aw9 hm n).1 k s h
theorem runD{C:Cx}{k:List KI}{s:SS}{all:Array Oper}{done:List Stp}{rest:List Oper}(Γ:TyE C.P)(hm:C.P.follows .mixedOrders=true)(n:Nat)(hs:all.toList=done.map (·.o)++rest)(h:Aax C Γ n k all done rest s):DR C k all done rest s :=
 (Aw9 hm n).2 k all done rest s hs h
def rG{C:Cx}{k:List KI}{s:SS}(Γ:TyE C.P)(hm:C.P.follows .mixedOrders=true)(h:O9 C Γ 400 k s):G C k s:=run Γ hm 400 h
def rD{C:Cx}{k:List KI}{s:SS}{all:Array Oper}{done:List Stp}{rest:List Oper}(Γ:TyE C.P)(hm:C.P.follows .mixedOrders=true)(hs:all.toList=done.map (·.o)++rest)(h:Aax C Γ 400 k all done rest s):DR C k all done rest s:=runD Γ hm 400 hs h
def Ah{C:Cx}{k:List KI}{s:SS}{all:Array Oper}{o:Oper}{rest:List Oper}{U:Up}(hg:Good C.P o s U)(hd:V8 C.n o=true)(hw:Ew C.n all o s=some true)(h:G C (.ops all rest::k) (s.upd o.dst U)):G C (.ops all (o::rest)::k) s :=
 G_op hg (λ_ _ _ hs=>Wn hs (Ex hw).2 (Ex hw).1) (Aho hd) h
def Bv{C:Cx}{k:List KI}{s:SS}{all:Array Oper}{done:List Stp}{o:Oper}{rest:List Oper}{U:Up}(hg:Good C.P o s U)(hi:all[done.length]? = some o)(hw:Ew C.n all o s=some true)(h:DR C k all (done++[⟨done.length,o,U,true⟩]) rest (s.upd o.dst U))(hn:(Kb o||Qx o)=false:=by rfl):DR C k all done (o::rest) s:=A5y U (.of hg hn) hi (Ex hw).1 h
def done{P:Program}{fn:Func}{F:Fr}{R:SV}{H':Obs}{Γ:Ty P}{n:Nat}{bn:List Nat}{hbn:∀k,F.k0 k≠.new→k∈bn}{k:List KI}{s:SS}{rs:List ResultVar}(hf:fn.results=rs.toArray){xs:List SV}(hx:ResVs Γ.get s rs xs)(ρ:List (Nat×Nat))(L:Obs)(hL:∀p∈H',p∈L)(hR:R.ren (Bg ρ)=Aja xs)(ot:R.inn L.keys=true)(a8:Sub ⟨P,Γ,F,n,Xm P fn F R H',bn,hbn⟩ s ρ [] L):G ⟨P,Γ,F,n,Xm P fn F R H',bn,hbn⟩ (.code .ret::k) s :=
 A8j λ_ _ _ hs=>(Awn hf hx ρ L hL hR ot a8 hs).1
def A4{P:Program}{fn:Func}{F:Fr}{R:SV}{H':Obs}{Γ:Ty P}{n:Nat}{bn:List Nat}{hbn:∀k,F.k0 k≠.new→k∈bn}{s:SS}{rs:List ResultVar}(hf:fn.results=rs.toArray){xs:List SV}(hx:ResVs Γ.get s rs xs)(ρ:List (Nat×Nat))(L:Obs)(hL:∀p∈H',p∈L)(hR:R.ren (Bg ρ)=Aja xs)(ot:R.inn L.keys=true)(a8:Sub ⟨P,Γ,F,n,Xm P fn F R H',bn,hbn⟩ s ρ [] L):G ⟨P,Γ,F,n,Xm P fn F R H',bn,hbn⟩ [] s :=
 G_nil λ_ _ _ hs=>(Awn hf hx ρ L hL hR ot a8 hs).2
def As{P:Program}{fn:Func}{F:Fr}{R:SV}{Γ:Ty P}{n:Nat}{hbn:∀k,F.k0 k≠.new→k∈[]}{k:List KI}{s:SS}{rs:List ResultVar}(hf:fn.results=rs.toArray){xs:List SV}(hx:ResVs Γ.get s rs xs)(hR:R=Aja xs)(ot:R.inn []=true):G ⟨P,Γ,F,n,Xm P fn F R [],[],hbn⟩ (.code .ret::k) s:=by
 have hid:∀x:SV,x.ren (Bg [])=x:=λx=>Bd x
 exact done hf hx [] [] (λ_ h=>h) (by rw[hid];exact hR) ot ⟨Y,Y,E,E⟩
def fieldsOf(P:Program):List Field→Option (List (Nat×Nat))
 |[]=>some []
 |f::fs=>match P.info? f.type,fieldsOf P fs with
  |some i,some r=>some ((f.offset,i.size)::r)
  |_,_=>none
def Ady{P:Program}:∀{fs:List Field} {r:List (Nat×Nat)},fieldsOf P fs=some r→H6 P fs r
 |[],r,h=>by simp only[fieldsOf,Option.some.injEq]at h;subst h;trivial
 |f::fs,r,h=>by
  simp only[fieldsOf]at h;split at h
  ·rename_i i q hi hq;simp only[Option.some.injEq]at h;subst h;exact⟨E,by rw[hi];rfl,Ady hq⟩
  ·cases h
def tkOf(P:Program)(d:TypeDesc):Option TK :=
 match d with
 | .bool=>some .bool
 | .int k=>some (.int k)
 | .string=>some .string
 | .slice e=>(match P.info? e with
  | some i=>(match i.zero with
   |some z=>some (.slice e i.size i.bytes z.cells.toList)
   | none=>none)
  | none=>none)
 | .struct fs=>(match fieldsOf P fs.toList with
  |some r=>some (.struct r)
  | none=>none)
 | .array len e=>(match P.info? e with
  |some i=>some (.array e len i.size)
  | none=>none)
 | .pointer _=>some .ptr
 | .interface _=>some .iface
 | .func _ _ _=>some .func
 |_=>none
def A59{P:Program}{d:TypeDesc}{k:TK}(h:tkOf P d=some k):TK.ok P d k:=by
 unfold tkOf at h;split at h
 ·cases h;rfl
 ·cases h;rfl
 ·cases h;rfl
 ·split at h
  ·rename_i i hi;split at h
   ·rename_i z hz;cases h;exact⟨E,i,z,hi,E,E,hz,E⟩
   ·cases h
  ·cases h
 ·split at h
  ·rename_i r hr;cases h;exact⟨_,E,Ady hr⟩
  ·cases h
 ·split at h
  ·rename_i i hi;cases h;exact⟨E,i,hi,E⟩
  ·cases h
 ·cases h;exact⟨_,rfl⟩
 ·cases h;exact⟨_,rfl⟩
 ·cases h;exact⟨_,_,_,rfl⟩
 ·cases h
def tiOf(P:Program)(t:TypeId):Option TI :=
 match P.underlying t,P.info? t with
 | some d,some info=>(match tkOf P d,info.zero with
  |some k,some z=>some ⟨k,info.size,z.cells.toList⟩
  | _,_=>none)
 |_,_=>none
def A6a{P:Program}{t:TypeId}{i:TI}(h:tiOf P t=some i):i.ok P t:=by
 unfold tiOf at h;split at h
 ·rename_i d info hd hi;split at h
  ·rename_i k z hk hz;cases h;exact⟨d,info,z,hd,A59 hk,hi,E,hz,E⟩
  ·cases h
 ·cases h
inductive Tr(α:Type)|lf|nd (k:Nat) (v:α) (l r:Tr α)
def Tr.look{α:Type}(t:Nat):Tr α→Option α
 | .lf=>none
 | .nd k v l r=>bif Nat.beq t k then some v else bif Nat.blt t k then l.look t else r.look t
def Tr.all{α:Type}(p:Nat→α→Prop):Tr α→Prop
 | .lf=>True
 | .nd k v l r=>p k v∧l.all p∧r.all p
theorem Tr.look_ok{α:Type}{p:Nat→α→Prop}{t:Nat}{v:α}:∀{T:Tr α},T.all p→T.look t=some v→p t v
 | .lf,_,h=>by cases h
 | .nd k u l r,ha,h=>by
  simp only[Tr.look,uJ]at h;split at h
  ·rename_i hb;have:=yJ hb;subst this;simp only[Option.some.injEq]at h;subst h;exact ha.1
  ·split at h
   ·exact Tr.look_ok ha.2.1 h
   ·exact Tr.look_ok ha.2.2 h
def ekOf(P:Program)(t:TypeId):Option EK :=
 match P.underlying t with
 |some (.int k)=>some (.int k)
 |some .bool=>some .bool
 |some .string=>some .string
 |_=>none
def Aq2(P:Program):Nat→List Field→Option (List EK)
 |_,[]=>some []
 |i,f::fs=>match ekOf P f.type,Aq2 P (i+1) fs with
  |some k, some r=> if f.name ≠ "_" ∧ f.offset = i then some (k::r) else none
  |_,_=>none
def Aq1{P:Program}:∀{fs:List Field} {i:Nat} {r:List EK},Aq2 P i fs=some r→Au8 P i fs r
 |[],i,r,h=>by simp only[Aq2,Option.some.injEq]at h;subst h;trivial
 |f::fs,i,r,h=>by
  simp only[Aq2]at h;split at h
  ·rename_i k q hk hq;split at h
   ·rename_i hc;cases h;refine⟨hc.1,hc.2,?_,Aq1 hq⟩;unfold ekOf at hk;split at hk<;>first|(cases hk;assumption)|cases hk
   ·cases h
  ·cases h
def A41(P:Program)(t:TypeId):Option (List EK) :=
 match P.underlying t with
 |some (.struct fs)=>if P.stoodInHeld t=false∧P.eqGuardType P.depth t=false then Aq2 P 0 fs.toList else none
 |_=>none
def A40{P:Program}{t:TypeId}{r:List EK}(h:A41 P t=some r):EqOK P t r:=by
 unfold A41 at h;split at h
 ·rename_i fs ss;split at h
  ·rename_i hc;have hf:P.fieldsOf t=fs:=by simp[Program.fieldsOf,ss]
   exact⟨by rw[hf];exact ss,hc.1,hc.2,by rw[hf];exact Aq1 h⟩
  ·cases h
 ·cases h
def Ah0(fn:Func):Code:=fn.body.getD .skip
def Ap5{α:Type 1}:List α→Nat→Bool
 |[],_=>true
 |_::_,0=>false
 |_::l,n+1=>Ap5 l n
def Agn{α:Type 1}:∀{l:List α} {n:Nat},Ap5 l n=true→l.length≤n
 |[],_,_=>xQ _
 |_::_,0,h=>by cases h
 |_::l,n+1,h=>Nat.succ_le_succ (Agn (l:=l) h)
def Su{P:Program}(Γ:TyE P)(hm:P.follows .mixedOrders=true)(N:Nat){f:FuncId}{fn:Func}{c:Code}{A:List SV}{H:Obs}{R:SV}{H':Obs}(hF:Fun P f fn c){n:Nat}(mc:fn.ntmps=n)(hn:Ap5 A n=true)(h:∀(F:Fr) (hF:∀k,F.k0 k≠.new→k∈H.keys),O9 ⟨P,Γ.toTy,F,n,Xm P fn F R H',H.keys,hF⟩ Γ N [.code c] ⟨argσ A,mkh H⟩):Sy.Spec P f A H R H' :=
 Ayd Γ.toTy hF.1 hF.2 mc (Agn hn) λF hF=>run Γ hm N (h F hF)
variable {C:Cx} {k:List KI} {s:SS}
theorem Mn{all:Array Oper}{o:Oper}{rest:List Oper}{f:FuncId}{fn:Func}{c:Code}{xs:List Operand}{ts:Array TypeId}{A:List SV}{R:SV}(hs:Sy.Spec C.P f A [] R [])(hf:Fun C.P f fn c)(h:o.op=.call ⟨.value (.func f),xs.toArray,ts⟩)(hA:A=xs.map (ev s))(ax:(B8 [] A&&R.inn [])=true)(hd:V8 C.n o=true)(hw:Ew C.n all o s=some true)(hg:G C (.ops all rest::k) (s.upd o.dst ⟨R,[],[]⟩)):G C (.ops all (o::rest)::k) s:=by
 have hid:∀x:SV,x.ren (Bg [])=x:=λx=>Bd x
 have mg:∀x:List SV,Lt (Bg []) x=x:=λx=>Jr x
 have:=Ad (s:=s) (o:=o) [] h hf hs (by rw[mg];exact hA) trivial (by simp_all[O1,Xt,Alr,Obs.keys]) trivial;rw[hid]at this;exact Ah this hd hw hg
theorem A5e{all:Array Oper}{done:List Stp}{o:Oper}{rest:List Oper}{f:FuncId}{fn:Func}{c:Code}{xs:List Operand}{ts:Array TypeId}{A:List SV}{R:SV}(hs:Sy.Spec C.P f A [] R [])(hf:Fun C.P f fn c)(h:o.op=.call ⟨.value (.func f),xs.toArray,ts⟩)(hA:A=xs.map (ev s))(ax:(B8 [] A&&R.inn [])=true)(hi:all[done.length]? = some o)(hw:Ew C.n all o s=some true)(hg:DR C k all (done++[⟨done.length,o,⟨R,[],[]⟩,true⟩]) rest (s.upd o.dst ⟨R,[],[]⟩)):DR C k all done (o::rest) s:=by
 have hid:∀x:SV,x.ren (Bg [])=x:=λx=>Bd x
 have mg:∀x:List SV,Lt (Bg []) x=x:=λx=>Jr x
 have:=Ad (s:=s) (o:=o) [] h hf hs (by rw[mg];exact hA) trivial (by simp_all[O1,Xt,Alr,Obs.keys]) trivial;rw[hid]at this;exact Bv this hi hw hg (by simp[Kb,Qx,h])
theorem Axi{all:Array Oper}{o:Oper}{rest:List Oper}(V:List Nat){f:FuncId}{fn:Func}{c:Code}{xs:List Operand}{ts:Array TypeId}{A:List SV}{R:SV}(hs:Sy.Spec C.P f A [] R [])(hf:Fun C.P f fn c)(h:o.op=.call ⟨.value (.func f),xs.toArray,ts⟩)(hA:VwL s V (xs.map (ev s)) A)(ax:(B8 [] A&&R.plain)=true)(hd:V8 C.n o=true)(hw:Ew C.n all o s=some true)(hg:G C (.ops all rest::k) (s.upd o.dst ⟨R,V,[]⟩)):G C (.ops all (o::rest)::k) s:=by
 simp only[zG]at ax;exact Ah (Iy V h hf hs hA ax.1 ax.2) hd hw hg
def Hb(P:Program)(f:FuncId)(A:List SV)(R:SV):Prop:=(∃fn c,Fun P f fn c)∧Sy.Spec P f A [] R []
theorem call0E{all:Array Oper}{o:Oper}{rest:List Oper}{f:FuncId}{B A:List SV}{R:SV}(hE:Ud C.P o s [] f B)(hs:Sy.Spec C.P f A [] R [])(hA:A=B)(ax:(B8 [] A&&R.inn [])=true)(hd:V8 C.n o=true)(hw:Ew C.n all o s=some true)(hg:G C (.ops all rest::k) (s.upd o.dst ⟨R,[],[]⟩)):G C (.ops all (o::rest)::k) s:=by
 have hid:∀x:SV,x.ren (Bg [])=x:=λx=>Bd x
 have mg:∀x:List SV,Lt (Bg []) x=x:=λx=>Jr x
 have:=Au (s:=s) (o:=o) [] hE hs (by rw[mg];exact hA) trivial (by simp_all[O1,Xt,Alr,Obs.keys]) trivial;rw[hid]at this;exact Ah this hd hw hg
theorem Eg{all:Array Oper}{o:Oper}{rest:List Oper}{f:FuncId}{x:Operand}{xs:List Operand}{ts:Array TypeId}{first cap A:List SV}{R:SV}(hs:Hb C.P f A R)(h:o.op=.call ⟨.value x,xs.toArray,ts⟩)(hx:ev s x=.clo (.func f) first cap)(hA:A=first++xs.map (ev s)++cap)(ax:(B8 [] A&&R.inn [])=true)(hd:V8 C.n o=true)(hw:Ew C.n all o s=some true)(hg:G C (.ops all rest::k) (s.upd o.dst ⟨R,[],[]⟩)):G C (.ops all (o::rest)::k) s:=by
 obtain ⟨⟨fn,c,hf⟩,hs⟩:=hs;exact call0E (Av h hx hf) hs hA ax hd hw hg
theorem A7s{all:Array Oper}{done:List Stp}{o:Oper}{rest:List Oper}{f:FuncId}{B A:List SV}{R:SV}(hE:Ud C.P o s [] f B)(hn:(Kb o||Qx o)=false)(hs:Sy.Spec C.P f A [] R [])(hA:A=B)(ax:(B8 [] A&&R.inn [])=true)(hi:all[done.length]? = some o)(hw:Ew C.n all o s=some true)(hg:DR C k all (done++[⟨done.length,o,⟨R,[],[]⟩,true⟩]) rest (s.upd o.dst ⟨R,[],[]⟩)):DR C k all done (o::rest) s:=by
 have hid:∀x:SV,x.ren (Bg [])=x:=λx=>Bd x
 have mg:∀x:List SV,Lt (Bg []) x=x:=λx=>Jr x
 have:=Au (s:=s) (o:=o) [] hE hs (by rw[mg];exact hA) trivial (by simp_all[O1,Xt,Alr,Obs.keys]) trivial;rw[hid]at this;exact Bv this hi hw hg hn
theorem Avq{all:Array Oper}{done:List Stp}{o:Oper}{rest:List Oper}{f:FuncId}{x:Operand}{xs:List Operand}{ts:Array TypeId}{first cap A:List SV}{R:SV}(hs:Hb C.P f A R)(h:o.op=.call ⟨.value x,xs.toArray,ts⟩)(hx:ev s x=.clo (.func f) first cap)(hA:A=first++xs.map (ev s)++cap)(ax:(B8 [] A&&R.inn [])=true)(hi:all[done.length]? = some o)(hw:Ew C.n all o s=some true)(hg:DR C k all (done++[⟨done.length,o,⟨R,[],[]⟩,true⟩]) rest (s.upd o.dst ⟨R,[],[]⟩)):DR C k all done (o::rest) s:=by
 obtain ⟨⟨fn,c,hf⟩,hs⟩:=hs;exact A7s (Av h hx hf) (by simp[Kb,Qx,h]) hs hA ax hi hw hg
theorem A5d{all:Array Oper}{done:List Stp}{o:Oper}{rest:List Oper}(V:List Nat){f:FuncId}{fn:Func}{c:Code}{xs:List Operand}{ts:Array TypeId}{A:List SV}{R:SV}(hs:Sy.Spec C.P f A [] R [])(hf:Fun C.P f fn c)(h:o.op=.call ⟨.value (.func f),xs.toArray,ts⟩)(hA:VwL s V (xs.map (ev s)) A)(ax:(B8 [] A&&R.plain)=true)(hi:all[done.length]? = some o)(hw:Ew C.n all o s=some true)(hg:DR C k all (done++[⟨done.length,o,⟨R,V,[]⟩,true⟩]) rest (s.upd o.dst ⟨R,V,[]⟩)):DR C k all done (o::rest) s:=by
 simp only[zG]at ax;exact Bv (Iy V h hf hs hA ax.1 ax.2) hi hw hg (by simp[Kb,Qx,h])
theorem A0w{P:Program}(w:World)(dT sT ty elem:TypeId)(d a:Option Addr)(mh vw mi vx:Nat){i:TypeInfo}(hu:P.underlying dT=some (.slice elem))(hq:P.info? elem=some i)(_hi:i.size=1)(hn:min mi mh=0):(Builtin.copy_ #[dT,sT] ty #[.slice d mh vw,.slice a mi vx]).run P w=.ok (.int .i64 0) w:=by
 have hl:∀(x:Addr),(loadCells x 0).run P w=.ok #[] w:=λx=>by simpa using run_loadCells_list (P:=P) w x [] y_
 have mc:Nat.min mi mh=0:=hn;cases d<;>cases a<;>simp[Builtin.copy_,run_underlying hu,Builtin.lenOf,Builtin.firstCells,sizeOf,typeInfo,hq,mc,storeCells,hl]<;>rfl
theorem Ak5{P:Program}(w w':World)(dT sT ty elem:TypeId)(d a:Addr)(mh vw mi vx:Nat){i:TypeInfo}(cs:List Value)(hu:P.underlying dT=some (.slice elem))(hq:P.info? elem=some i)(hi:i.size=1)(hn:cs.length=min mi mh)(ia:∀j v,cs[j]? = some v→w.cell? (a.add j)=some v)(br:(storeCells d cs 0).run P w=.ok () w'):(Builtin.copy_ #[dT,sT] ty #[.slice (some d) mh vw,.slice (some a) mi vx]).run P w=.ok (.int .i64 cs.length) w':=by
 have hl:=run_loadCells_list (P:=P) w a cs ia;have mc:cs.length=Nat.min mi mh:=hn;simp[Builtin.copy_,run_underlying hu,Builtin.lenOf,Builtin.firstCells,sizeOf,typeInfo,hq,hi,←mc,hl,br];rfl
theorem Wy{P:Program}(Γ:Ty P){o:Oper}{s:SS}{t:TypeId}{ti:TI}{et:TypeId}{eb k:Nat}{ez:List Value}{x y:Operand}{ks:List Nat}{α:Type}{e:α→SV}{l m:List α}(h:o.op=.call ⟨.builtin .copy,#[x,y],#[t,t]⟩)(ht:Γ.get t=some ti)(hk:ti.k=.slice et 1 eb ez)(hx:ev s x=.osl k)(ho':s.h k=.row 1 e l)(hs:AppSrc s 1 (ev s y) ks m.length (rowF e m)):Good P o s ⟨.val (.int .i64 (min m.length l.length:Nat)),ks,[(k,.row 1 e (m.take l.length++l.drop m.length))]⟩:=by
 intro κ a w hi hr ho N Q hN;have h1:=hr x (by simp[h,Op.operands,Call.operands]);have h2:=hr y (by simp[h,Op.operands,Call.operands]);have h3:=ho k (.inr (by simp[Up.ws]));rw[ho']at h3;obtain ⟨hu,i,z,q1,q2,q3,q4,q5⟩:=Ct Γ ht hk;have ia:=hs.src h2 (λj hj=>ho j (.inl hj));have hlen:∃ad cap,a.eval x=.slice ad l.length cap∧(l≠[]→∃b c,κ k=.row b l.length c∧ad=some ⟨b,0,none⟩):=by
  have:=Ob.len_ok (ob:=.row 1 e l) (n:=l.length) rfl h3 (v:=a.eval x) (by rw[←hx];exact h1);obtain ⟨ad,cap,e1,e2⟩:=this;exact⟨ad,cap,e1,λhl=>e2 (by simpa using hl)⟩
 obtain ⟨ad,cap,e1,e2⟩:=hlen;by_cases hz:min m.length l.length=0
 ·have gk:m.take l.length++l.drop m.length=l:=by
   rcases uK m.length with h0|h0
   ·have:m=[]:=vE.1 h0;subst this;simp
   ·have:l=[]:=vE.1 q_;subst this;simp
  have lq:∃a' c',a.eval y=.slice a' m.length c':=by
   rcases ia with ⟨h0,_,a',c',h4⟩|⟨b,off,c',news,h4,_⟩
   ·exact⟨a',c',by rw[h4,h0]⟩
   ·exact⟨_,_,h4⟩
  obtain ⟨a',c',h4⟩:=lq;have au:(execOp a.eval o).run P w=.ok (.value (.int .i64 (min m.length l.length:Nat))) w:=by
   have:=A0w (P:=P) w t t o.type et ad a' l.length cap m.length c' hu q1 q2 hz;rw[hz];simp[execOp,h,resolve,invoke,builtin,e1,h4,this]
  simp only[Oper.wp,au,Oper.upon];refine hN _ κ w ((Jw [] κ hi).1.weaken y_) hi (by simp[Rd]) (λp hp=>?_);simp only[yA]at hp;subst hp;rw[gk];exact h3
 ·have hl:l≠[]:=by rintro rfl;simp at hz
  have h4:=h3.rowAt hl;obtain ⟨b,du,cs,T,fr,f1,f2,f3,f4,f5,f6⟩:=h4;obtain ⟨b',c',g1,g2⟩:=e2 hl;rw[f1]at g1;cases g1;rcases ia with ⟨h0,_⟩|⟨b2,off,c2,news,g3,g4,g5,g6,g7⟩
  ·simp[h0]at hz
  ·have hn:(news.take (min m.length l.length)).length=min m.length l.length:=by simp;omega
   obtain ⟨w',k1,k2,k3,k4,k5,k6,k7⟩:=Dn P b 0 T fr (news.take (min m.length l.length)) 0 cs w f2 f3 (by rw[hn];omega) (λ v hv=>g5 v (wR hv));have hc:=Ak5 (P:=P) w w' t t o.type et ⟨b,0,none⟩ ⟨b2,off,none⟩ l.length cap m.length c2 (news.take (min m.length l.length)) hu q1 q2 hn (λ j v hv=>by
    rw[Addr.add_lit];refine g6 j v ?_;rw[vW]at hv;split at hv
    ·exact hv
    ·cases hv) k1
   rw[hn]at hc;have au:(execOp a.eval o).run P w=.ok (.value (.int .i64 (min m.length l.length:Nat))) w':=by
    subst g2;simp[execOp,h,resolve,invoke,builtin,e1,g3,hc]
   simp only[Oper.wp,au,Oper.upon];obtain ⟨st,inv⟩:=M4 hi (k:=k) (b:=b) (by rw[f1];rfl) k3 k4 k5 k6 k7;refine hN _ κ w' (st.weaken (by simp[Up.ws])) inv (by simp[Rd]) (λp hp=>?_);simp only[yA]at hp;subst hp;have kc:(m.take l.length++l.drop m.length).length=l.length:=by simp;omega
   refine .inr ⟨b,du,_,T,fr,by rw[kc];exact f1,k2,by rw[Cm];exact f3,by rw[Cm];exact f4,by rw[kc];exact f5,?_⟩;rintro j x ⟨hj,rfl⟩;rw[kc]at hj;refine⟨by rw[kc];exact hj,?_⟩;have a6:=M5 cs (news.take (min m.length l.length)) 0;by_cases yh:j<m.length
   ·obtain ⟨_,u,u1,u2,u3,u4⟩:=g7 j (e m[j]) ⟨yh,rfl⟩;refine⟨u,?_,u2,u3,λi hi'=>?_⟩
    ·have:(m.take l.length++l.drop m.length)[j]=m[j]:=by
      rw[yU (by simp;omega),wD]
     rw[this];exact RdD.keep st.keeps _ _ u1
    ·have dg:i=0:=by omega
     subst dg;simp only[Nat.mul_one,Nat.add_zero]at u4⊢;rw[a6 _ q_,zE q_,vW,zE q_];have:=u4 0 q_;simpa using this
   ·obtain ⟨_,u,u1,u2,u3,u4⟩:=f6 j (e l[j]) ⟨hj,rfl⟩;refine⟨u,?_,u2,u3,λi hi'=>?_⟩
    ·have:(m.take l.length++l.drop m.length)[j]'(by rw[kc];exact hj)=l[j]:=by
      rw[xO (by simp;omega),vQ];congr 1;simp;omega
     rw[this];exact RdD.keep st.keeps _ _ u1
    ·have dg:i=0:=by omega
     subst dg;simp only[Nat.mul_one,Nat.add_zero]at u4⊢;rw[a6 _ q_,zD q_];have:=u4 0 q_;simpa using this
def Arx(C:Cx)(n:Nat)(L:Nat→List (Nat×SV))(O:Nat→Obs)(i:Nat)(a:Act)(w:World):Prop :=
 ∃x':{j:Nat // j≤n},∃κ,n-x'.1<n-i∧St C.F C.n (mkS (L x'.1) (O x'.1)) κ a w
theorem A8{C:Cx}{k:List KI}{s:SS}{body:Code}(n:Nat)(L:Nat→List (Nat×SV))(O:Nat→Obs)(ρ:List (Nat×Nat))(a8:Sub C s ρ (L 0) (O 0))(h:∀i,i≤n→G C (.code body::.inv (Arx C n L O i)::k) (mkS (L i) (O i))):G C (.code (.loop body)::k) s :=
 Wl (α:={j:Nat // j≤n}) (λx=>L x.1) (λx=>O x.1) (λx=>n-x.1) ⟨0,xQ _⟩ ρ a8 (λx=>h x.1 x.2)
theorem Az{C:Cx}{k:List KI}{s:SS}{n:Nat}{L:Nat→List (Nat×SV)}{O:Nat→Obs}{i:Nat}(ρ:List (Nat×Nat))(hi:i+1≤n)(a8:Sub C s ρ (L (i+1)) (O (i+1))):G C (.inv (Arx C n L O i)::k) s :=
 Ye (α:={j:Nat // j≤n}) (L:=λx=>L x.1) (O:=λx=>O x.1) (μ:=λx=>n-x.1) (x:=⟨i,by omega⟩) ⟨i+1,hi⟩ ρ (by simp only;omega) a8
inductive SrcT{α:Type}(s:SS)(sz:Nat)(e:α→SV):SV→List Nat→List α→Prop
 |sl {l:List α}:SrcT s sz e (.sl sz e l) [] l
 |row {k:Nat} {l:List α} (h:s.h k=.row sz e l):SrcT s sz e (.osl k) [k] l
 |lit {k:Nat} {l:List α} {svs:List SV} (h:s.h k=.lit sz svs) (hl:l.map e=svs):SrcT s sz e (.osl k) [k] l
 |nil:SrcT s sz e (.val (.slice none 0 0)) [] []
inductive BaseT{α:Type}(s:SS)(sz:Nat)(e:α→SV):SV→Option Nat→List α→Prop
 |nil:BaseT s sz e (.val (.slice none 0 0)) none []
 |row {k:Nat} {l:List α} (h:s.h k=.row sz e l):BaseT s sz e (.osl k) (some k) l
 |lit {k:Nat} {l:List α} {svs:List SV} (h:s.h k=.lit sz svs) (hl:l.map e=svs):BaseT s sz e (.osl k) (some k) l
theorem SrcT.src{α:Type}{s:SS}{sz:Nat}{e:α→SV}{x:SV}{ks:List Nat}{m:List α}(h:SrcT s sz e x ks m):∃g,AppSrc s sz x ks m.length g∧∀i x,rowF e m i x→g i x:=by
 cases h with
 |sl=>exact⟨_,.sl,λ_ _ h=>h⟩
 |row h=>exact⟨_,.row h,λ_ _ h=>h⟩
 | @lit k _ svs h hl=>exact⟨Aix svs,by have:=AppSrc.lit (sz:=sz) h;rwa [←hl,xA,hl]at this,λi x hx=>Q5 hl i x hx⟩
 |nil=>exact⟨_,.nil,λi x hx=>by obtain ⟨h,_⟩:=hx;simp at h⟩
theorem BaseT.base{α:Type}{s:SS}{sz:Nat}{e:α→SV}{x:SV}{k:Option Nat}{m:List α}(h:BaseT s sz e x k m):∃g,AppBase s sz x k m.length g∧∀i x,rowF e m i x→g i x:=by
 cases h with
 |row h=>exact⟨_,.row h,λ_ _ h=>h⟩
 | @lit k _ svs h hl=>exact⟨Aix svs,by have:=AppBase.lit (sz:=sz) h;rwa [←hl,xA,hl]at this,λi x hx=>Q5 hl i x hx⟩
 |nil=>exact⟨_,.nil,λi x hx=>by obtain ⟨h,_⟩:=hx;simp at h⟩
theorem Ag{P:Program}(Γ:Ty P){o:Oper}{s:SS}(d:Nat){α:Type}{e:α→SV}{l m:List α}{t:TypeId}{ti:TI}{et:TypeId}{sz eb:Nat}{ez:List Value}{x y:Operand}{k:Option Nat}{ks:List Nat}(h:o.op=.call ⟨.builtin .append,#[x,y],#[t,t]⟩)(hd:s.h d=.fresh)(ht:Γ.get t=some ti)(hk:ti.k=.slice et sz eb ez)(pg:ez.length=sz)(hb:BaseT s sz e (ev s x) k l)(hs:SrcT s sz e (ev s y) ks m)(pp:∀j,k=some j→j≠d)(cx:(l.length+m.length)*eb≤140737488355328)(sg:l.length+m.length≤9223372036854775807):Good P o s ⟨.osl d,ks,Ua k d (.row sz e (l++m))⟩:=by
 obtain ⟨f,hb,hf⟩:=hb.base;obtain ⟨g,hs,hg⟩:=hs.src;exact Adw Γ h hd ht hk pg hb hs pp cx sg λκ w hr=>A5k hr y_ (A2l hf hg)
theorem K3{P:Program}(Γ:Ty P){o:Oper}{s:SS}{src dst:TypeId}{si di ei:TI}{x:Operand}{et:TypeId}{eb:Nat}{ez:List Value}{ks:List Nat}{bs:List UInt8}(h:o.op=.convert src dst x)(hs:Γ.get src=some si)(hsk:si.k=.slice et 1 eb ez)(he:Γ.get et=some ei)(y7:ei.k=.int .u8)(hd:Γ.get dst=some di)(ph:di.k=.string)(hx:SrcT s 1 Ak (ev s x) ks bs):Good P o s ⟨Ap ⟨bs.toArray⟩,ks,[]⟩:=by
 obtain ⟨g,hx,hg⟩:=hx.src;exact Aaq Γ bs h hs hsk he y7 hd ph hx E (λi hi=>hg i _ ⟨hi,E⟩)
theorem Av2{C:Cx}{kk:List KI}{s:SS}(k d:Nat)(r:List Nat){sz:Nat}{α:Type}{e:α→SV}{l:List α}(h:s.h k=.row sz e l)(hd:s.h d=.fresh)(cd:k≠d)(hr:∀i∈r,s.σ i=.osl k)(hg:G C kk ⟨freezeσ s.σ (.osl d) r,upd (upd s.h k .non) d (.row sz e l)⟩):G C kk s:=λκ a w hs=>by
 have cn:=hs.obj k;rw[h]at cn;have az:κ d=.new:=by have:=hs.obj d;rwa [hd]at this
 have fin:∀κ':Ka,Step (λj=>j=k∨j=d) κ w κ' w→Inv κ' w→(∀v,Rd κ w (.osl k) v→Rd κ' w (.osl d) v)→ObOK κ' w d (.row sz e l)→den C.P C.B kk .normal a w:=by
  intro κ' st inv hv ho;refine hg κ' a w ⟨hs.defers,hs.size,inv,hs.ctx.step inv st,λj=>?_,λj=>?_⟩
  ·refine freezeσ_ok r _ j (Rd.step st _ _ (hs.slot j)) (λhj=>hv _ ?_);have:=hs.slot j;rwa [hr j hj]at this
  ·show ObOK _ w j (upd (upd s.h k .non) d (.row sz e l) j);by_cases hj:j=d
   ·subst hj;rw[B1];exact ho
   ·rw[Cy _ _ hj];by_cases an:j=k
    ·subst an;rw[B1];trivial
    ·rw[Cy _ _ an];exact ObOK.step st (λe=>e.elim an hj) _ (hs.obj j)
 rcases cn with ⟨h1,rfl⟩|⟨b,cap,cs,T,fr,e1,e2,e3,e4,e5,e6⟩
 ·have st:=Kl (Lz hs.inv (some k)) (by show Ei κ k .dead d=.new;rw[Cd _ _ (Ne.symm cd)];exact az) (e:=.nil) (Grew.refl w) (λb hb=>by cases hb);refine fin _ (((J4 (some k)).weaken (λj hj=>.inl (Option.some.inj hj).symm)).trans (st.1.weaken (λj hj=>.inr hj))) st.2 (λv hv=>?_) (.inl ⟨Ay _ _ _,E⟩);simp only[Rd,h1]at hv;simp[Rd,Ay,hv]
 ·obtain ⟨st,inv⟩:=Q3 (n':=l.length) (w':=w) hs.inv e1 az rfl rfl rfl rfl (λ_ _=>rfl);refine fin _ st inv (λv hv=>?_) (.inr ⟨b,cap,cs,T,fr,Ay _ _ _,e2,e3,e4,e5,λi x hx=>?_⟩)
  ·simp only[Rd,e1]at hv;simp[Rd,Ay,hv]
  ·obtain ⟨q1,u,q2,q3⟩:=e6 i x hx;exact⟨q1,u,RdD.keep st.keeps _ _ q2,q3⟩
mutual
def frz(d:Nat)(x:SV):SV→SV
 | .osl k=>bif Nat.beq k d then x else .osl k
 | .agg l=>.agg (Ahb d x l)
 | .tup l=>.tup (Ahb d x l)
 | .ifc t y=>.ifc t (frz d x y)
 | .clo f g l=>.clo f (Ahb d x g) (Ahb d x l)
 |y=>y
def Ahb(d:Nat)(x:SV):List SV→List SV
 |[]=>[]
 |y::l=>frz d x y::Ahb d x l
end
mutual
theorem Am1{κ κ':Ka}{w:World}{K:Nat→Prop}{d:Nat}{x:SV}(st:Step K κ w κ' w)(hx:∀v,Rd κ w (.osl d) v→Rd κ' w x v):∀(y:SV) (v:Value),Rd κ w y v→Rd κ' w (frz d x y) v
 | .osl k,v,h=>by
  unfold frz;by_cases hk:k=d
  ·subst hk;rw[show Nat.beq k k=true from tN k];exact hx v h
  ·rw[show Nat.beq k d=false from by cases hb:Nat.beq k d with|false=>rfl|true=>exact yB (yJ hb) hk];exact Rd.step st _ _ h
 | .agg l,v,h=>by
  simp only[Rd]at h;unfold frz;simp only[Rd];obtain ⟨cs,h1,h2,h3⟩:=h;exact⟨cs,h1,h2,K6 st hx l cs h3⟩
 | .tup l,v,h=>by
  simp only[Rd]at h;unfold frz;simp only[Rd];obtain ⟨cs,h1,h3⟩:=h;exact⟨cs,h1,K6 st hx l cs h3⟩
 | .ifc t y,v,h=>by
  simp only[Rd]at h;unfold frz;simp only[Rd];obtain ⟨u,h1,h3⟩:=h;exact⟨u,h1,Am1 st hx y u h3⟩
 | .clo f g l,v,h=>by
  simp only[Rd]at h;unfold frz;simp only[Rd];obtain ⟨fs,cs,h1,h2,h3⟩:=h;exact⟨fs,cs,h1,K6 st hx g fs h2,K6 st hx l cs h3⟩
 | .top,v,h=>by unfold frz;exact Rd.step st _ _ h
 | .val u,v,h=>by unfold frz;exact Rd.step st _ _ h
 | .sl sz e l,v,h=>by unfold frz;exact Rd.step st _ _ h
 | .ref sz z o,v,h=>by unfold frz;exact Rd.step st _ _ h
 | .ptr k o,v,h=>by unfold frz;exact Rd.step st _ _ h
 | .rpt k sz i o,v,h=>by unfold frz;exact Rd.step st _ _ h
theorem K6{κ κ':Ka}{w:World}{K:Nat→Prop}{d:Nat}{x:SV}(st:Step K κ w κ' w)(hx:∀v,Rd κ w (.osl d) v→Rd κ' w x v):∀(l:List SV) (vs:List Value),RdL κ w l vs→RdL κ' w (Ahb d x l) vs
 |[],vs,h=>by
  unfold Ahb;simpa [RdL] using h
 |y::l,vs,h=>by
  simp only[RdL]at h;unfold Ahb;simp only[RdL];obtain ⟨v,r,h1,h2,h3⟩:=h;exact⟨v,r,h1,Am1 st hx y v h2,K6 st hx l r h3⟩
end
def A0j(d:Nat)(x:SV):Ob→Ob
 | .box l=>.box (Ahb d x l)
 | .rown sz e l i cl=>.rown sz e l i (Ahb d x cl)
 | .tbox T l=>.tbox T (Ahb d x l)
 |o=>o
def Aj{C:Cx}{k:List KI}{s:SS}(d:Nat){sz:Nat}{α:Type}{e:α→SV}{l:List α}(h:s.h d=.row sz e l)(hg:G C k ⟨λi=>frz d (.sl sz e l) (s.σ i),λj=>bif Nat.beq j d then .non else A0j d (.sl sz e l) (s.h j)⟩):G C k s:=λκ a w hs=>by
 have cn:=hs.obj d;rw[h]at cn;have st:=J4 (κ:=κ) (w:=w) (some d);have inv:=Lz hs.inv (some d);have hx:∀v,Rd κ w (.osl d) v→Rd (Ei κ d .dead) w (.sl sz e l) v:=λv hv=>by
  rcases cn with ⟨h1,rfl⟩|h1
  ·simp only[Rd,h1]at hv;simp only[Rd,RdD];exact .inl ⟨by simp,none,0,hv⟩
  ·refine h1.freeze hv st.keeps.out (λb hb=>⟨hs.inv.bnd d b hb,?_⟩);rintro (⟨q,hq⟩|hq)
   ·by_cases vy:q=d
    ·subst vy;rw[Ay]at hq;cases hq
    ·rw[Cd _ _ vy]at hq;exact vy (hs.inv.inj q d b hq hb)
   ·exact hs.inv.apart d b hb hq
 refine hg (Ei κ d .dead) a w ⟨hs.defers,hs.size,inv,hs.ctx.step inv st,λj=>Am1 st hx _ _ (hs.slot j),λj=>?_⟩;show ObOK _ w j (bif Nat.beq j d then .non else A0j d (.sl sz e l) (s.h j));by_cases hj:j=d
 ·subst hj;rw[show Nat.beq j j=true from tN j];trivial
 ·rw[show Nat.beq j d=false from by cases hb:Nat.beq j d with|false=>rfl|true=>exact yB (yJ hb) hj];have hb:=ObOK.step st (λe=>hj (Option.some.inj e).symm) _ (hs.obj j);have h0:=hs.obj j;show ObOK _ w j (A0j d (.sl sz e l) (s.h j));cases hh:s.h j with
  |box m=>
   rw[hh]at h0 hb;obtain ⟨b,cs,T,fr,e1,e2,e3,e4,e5⟩:=h0;exact⟨b,cs,T,fr,by show Ei κ d .dead j=_;rw[Cd _ _ hj];exact e1,e2,e3,e4,K6 st hx m cs e5⟩
  |tbox T m=>
   rw[hh]at h0 hb;obtain ⟨b,cs,fr,e1,e2,e3,e4,e5⟩:=h0;exact⟨b,cs,fr,by show Ei κ d .dead j=_;rw[Cd _ _ hj];exact e1,e2,e3,e4,K6 st hx m cs e5⟩
  |fresh=>rw[hh]at hb;exact hb
  |non=>rw[hh]at hb;exact hb
  |row dy e' l'=>rw[hh]at hb;exact hb
  |lit dy svs=>rw[hh]at hb;exact hb
  |glob dy x' g'=>rw[hh]at hb;exact hb
  |pin b' n' du dy e' l'=>rw[hh]at hb;exact hb
  |dat v' dy e' l'=>rw[hh]at hb;exact hb
  |trow T' m'=>rw[hh]at hb;exact hb
  |rown dy e' l' i' za=>
   rw[hh]at h0;obtain ⟨b2,tc,xc,T2,zb,f1,f2,f3,f4,f5,f6,f7,zc,v1,v2,v3,v4⟩:=h0;refine⟨b2,tc,xc,T2,zb,by show Ei κ d .dead j=_;rw[Cd _ _ hj];exact f1,f2,f3,f4,f5,λm y hm hy=>?_,f7,zc,v1,v2,K6 st hx za zc v3,v4⟩;obtain ⟨g0,u,g1,g2⟩:=f6 m y hm hy;exact⟨g0,u,RdD.keep st.keeps _ _ g1,g2⟩
def Alf(C:Cx)(n:Nat)(I:Nat→Prop)(L:Nat→List (Nat×SV))(O:Nat→Obs)(i:Nat)(a:Act)(w:World):Prop :=
 ∃x':{j:Nat // j≤n∧I j},∃κ,n-x'.1<n-i∧St C.F C.n (mkS (L x'.1) (O x'.1)) κ a w
def Bi{C:Cx}{k:List KI}{s:SS}{body:Code}(n:Nat)(I:Nat→Prop)(L:Nat→List (Nat×SV))(O:Nat→Obs)(ρ:List (Nat×Nat))(h0:I 0)(a8:Sub C s ρ (L 0) (O 0))(h:∀i,i≤n→I i→G C (.code body::.inv (Alf C n I L O i)::k) (mkS (L i) (O i))):G C (.code (.loop body)::k) s :=
 Wl (α:={j:Nat // j≤n∧I j}) (λx=>L x.1) (λx=>O x.1) (λx=>n-x.1) ⟨0,xQ _,h0⟩ ρ a8 (λx=>h x.1 x.2.1 x.2.2)
def Bc{C:Cx}{k:List KI}{s:SS}{n:Nat}{I:Nat→Prop}{L:Nat→List (Nat×SV)}{O:Nat→Obs}{i:Nat}(ρ:List (Nat×Nat))(h0:I i)(hi:i+1≤n)(h1:I (i+1))(a8:Sub C s ρ (L (i+1)) (O (i+1))):G C (.inv (Alf C n I L O i)::k) s :=
 Ye (α:={j:Nat // j≤n∧I j}) (L:=λx=>L x.1) (O:=λx=>O x.1) (μ:=λx=>n-x.1) (x:=⟨i,by omega,h0⟩) ⟨i+1,hi,h1⟩ ρ (by simp only;omega) a8
end Go.Sy
