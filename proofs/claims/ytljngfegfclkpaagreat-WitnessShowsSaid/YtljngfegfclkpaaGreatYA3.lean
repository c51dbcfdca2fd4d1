/-
  Sy11 Sy12 Sy13 Sy14 Sy15 Sy16 Sy17 Sy18: parts of a proof, joined by program.
-/
import Derived.Test.YtljngfegfclkpaaGreatYA2
import Derived.Still
import Derived.Laws.IdiomStrings
import Derived.Laws.StructEq
import Derived.KernelRfl
set_option linter.all false
set_option linter.unusedVariables false
set_option linter.unusedSimpArgs false
set_option linter.deprecated false
namespace Go.Sy
theorem SS.ext' {s t:SS} (h1:∀ i,s.σ i=t.σ i) (h2:∀ k,s.h k=t.h k):s=t:=by
 obtain ⟨a,b⟩:=s
 obtain ⟨c,d⟩:=t
 have e1:a=c:=funext h1
 have e2:b=d:=funext h2
 rw[e1,e2]
structure Stp where
 i:Nat
 o:Oper
 U:Up
 want:Bool
def Ob.shp:Ob→Nat × Option Nat × Option (Nat × SV × Nat)
 | .box _=>(1,none,none)
 | .row _ _ l=>(0,some l.length,none)
 | .lit _ svs=>(0,some svs.length,none)
 | .glob sz x g=>(2,none,some (sz,x,g))
 | .rown _ _ l _ _=>(0,some l.length,none)
 | _=>(0,none,none)
theorem Ob.shp_len {x y:Ob} {n:Nat} (h:x.shp=y.shp) (hy:y.len=some n):x.len=some n:=by
 cases x<;>cases y<;>simp_all[Ob.shp,Ob.len]
theorem Ob.shp_box {x:Ob} {l:List SV} (h:x.shp=(Ob.box l).shp):∃ m,x=.box m:=by
 cases x<;>simp_all[Ob.shp]
def Iy (o:Oper):Bool:=match o.op with | .indexAddr ..=>true | _=>false
def Ms (o:Oper):Bool:=match o.op with | .store ..=>true | _=>false
def Ar0 (P:Program) (o:Oper) (s:SS) (U:Up):Prop :=
 ∀ (κ:Ka) (a:Act) (w:World),Inv κ w→(∀ x∈o.op.operands,Rd κ w (ev s x) (a.eval x))→(∀ k,k∈U.rd∨k∈U.ws→ObOK κ w k (s.h k)) →
  ∀ (N:Act→World→Prop) (Q:Exit→Act→World→Prop),
   (∀ v κ' w',Step (λ k=>k∈U.ws∨k∈U.rd) κ w κ' w'→Inv κ' w'→Rd κ' w' U.v v→(∀ x∈U.objs,ObOK κ' w' x.1 x.2)→(∀ k,k∈U.rd→k∉U.ws→ObOK κ' w' k (s.h k))→N (a.put o.dst v) w')→o.wp P a w N Q
theorem Good.two {P:Program} {o:Oper} {s:SS} {U:Up} (h:Good P o s U):Ar0 P o s U:=λ κ a w hi hr ho N Q hN =>
 h κ a w hi hr ho N Q λ v κ' w' st inv hv hob=>hN v κ' w' (st.weaken λ _ hk=>.inl hk) inv hv hob λ k hk hw=>ObOK.step st hw _ (ho k (.inl hk))
theorem Good.keep {P:Program} {o:Oper} {s:SS} {U:Up} (h:Good P o s U) (hk:∀ p∈U.objs,s.h p.1=p.2):Ar0 P o s ⟨U.v,U.rd++U.ws,[]⟩:=λ κ a w hi hr ho N Q hN =>
 h κ a w hi hr (λ k hk'=>ho k (.inl (by simpa using hk'))) N Q λ v κ' w' st inv hv hob=>hN v κ' w' (st.weaken λ k hk'=>.inr (by simp[hk'])) inv hv (λ x hx=>by cases hx) λ k hk1 _=>by
  by_cases hw:k∈U.ws
  ·obtain ⟨p,hp,rfl⟩:=yH.1 hw
   rw[hk p hp]
   exact hob p hp
  ·exact ObOK.step st hw _ (ho k (.inl hk1))
theorem St.put2 {F:Fr} {n:Nat} {s:SS} {κ κ':Ka} {a:Act} {w w':World} (h:St F n s κ a w) {dst:Option Nat} {U:Up} {v:Value} (hd:∀ d,dst=some d→d<n)
  (st:Step (λ k=>k∈U.ws∨k∈U.rd) κ w κ' w') (hi:Inv κ' w') (hv:Rd κ' w' U.v v) (ho:∀ x∈U.objs,ObOK κ' w' x.1 x.2) (hr:∀ k,k∈U.rd→k∉U.ws→ObOK κ' w' k (s.h k)):St F n (s.upd dst U) κ' (a.put dst v) w' where
 defers:=by cases dst<;>exact h.defers
 size:=by cases dst<;>simp[Act.put,h.size]
 inv:=hi
 ctx:=h.ctx.step hi st
 slot i:=by
  cases dst with
  | none=>exact Rd.step st _ _ (h.slot i)
  | some d =>
   have hlt:=hd d rfl
   by_cases hi':i=d
   ·subst hi'
    simp only[SS.upd,Bn,Act.put]
    have hs:i<a.tmps.size:=by rw[h.size];exact hlt
    simpa [hs] using hv
   ·simp only[SS.upd,Cf _ _ hi',Act.put]
    have:(a.tmps.setIfInBounds d v).getD i undef=a.tmps.getD i undef:=by
     simp[tT (Ne.symm hi')]
    rw[this]
    exact Rd.step st _ _ (h.slot i)
 obj k:=Agu _ _ _ ho (λ hk=>by
  by_cases h2:k∈U.rd
  ·exact hr k h2 hk
  ·exact ObOK.step st (λ h3=>h3.elim hk h2) _ (h.obj k))
structure GoodX (P:Program) (o:Oper) (s:SS) (U:Up):Prop where
 good:Ar0 P o s U
 idx:Iy o=true→U.objs=[]∧∀ s':SS,(∀ x∈o.op.operands,ev s' x=ev s x)→(∀ k∈U.rd,(s'.h k).shp=(s.h k).shp)→Good P o s' U
 st:Ms o=true→∀ p∈U.objs,p.2.shp=(s.h p.1).shp
theorem GoodX.of {P:Program} {o:Oper} {s:SS} {U:Up} (h:Good P o s U) (hn:(Iy o || Ms o)=false):GoodX P o s U:=by
 simp only[xU]at hn
 exact⟨h.two,λ h1=>by (rw[hn.1]at h1;cases h1),λ h1=>by (rw[hn.2]at h1;cases h1)⟩
theorem GoodX.of2 {P:Program} {o:Oper} {s:SS} {U:Up} (h:Ar0 P o s U) (hn:(Iy o || Ms o)=false):GoodX P o s U:=by
 simp only[xU]at hn
 exact⟨h,λ h1=>by (rw[hn.1]at h1;cases h1),λ h1=>by (rw[hn.2]at h1;cases h1)⟩
def Stp.ok (P:Program) (all:Array Oper) (s:SS) (t:Stp):Prop :=
 all[t.i]? = some t.o∧V3 all s t.o.guard t.want∧(t.want=true→GoodX P t.o s t.U)∧(t.want=false→t.U=⟨.val undef,[],[]⟩)
def Ayo (K L:List Nat):Bool:=K.all λ k=>!(Oa L k)
theorem Ail {K L:List Nat} (h:Ayo K L=true):∀ k∈K,k∉L:=λ k hk hl=>by
 simp only[Ayo,xD]at h
 have:=h k hk
 rw[memN_iff.2 hl]at this
 cases this
def Tg (all:Array Oper) (p t:Stp):Bool :=
 p.o.apart all t.o && Ayo p.U.ws t.U.ws && (Ayo p.U.ws t.U.rd || (Ms p.o && Iy t.o)) && (Ayo t.U.ws p.U.rd || (Ms t.o && Iy p.o))
def A1e (all:Array Oper):Nat→Nat→Oper→Bool
 | 0,_,_=>false
 | n+1,i,o=>o.after.toList.any λ e=>Region.binds .any e && (Nat.beq e.on i || (match all[e.on]? with | some u=>A1e all n i u | none=>false))
def aft (all:Array Oper) (p t:Stp):Bool:=A1e all 4 p.i t.o
def Cl (all:Array Oper) (listed:Array Bool):Prop:=∀ i o,all[i]? = some o→listed.getD i true=true→∀ e∈o.after,Region.binds .any e=true→listed.getD e.on false=true
theorem Ari {listed:Array Bool} {i:Nat} (h:listed.getD i false=true):listed.getD i true=true:=by
 simp only[wP]at h ⊢
 cases hh:listed[i]? with
 | none=>rw[hh]at h;cases h
 | some b=>rw[hh]at h;exact h
theorem Aaj {all:Array Oper} {listed:Array Bool} (hc:Cl all listed) {i:Nat}:∀ (n:Nat) (o:Oper),(∀ e∈o.after,Region.binds .any e=true→listed.getD e.on false=true)→A1e all n i o=true→listed.getD i false=true
 | 0,_,_,h=>by cases h
 | n+1,o,ho,h=>by
  simp only[A1e,wF,zB,yD]at h
  obtain ⟨e,h1,h2,h3⟩:=h
  have h4:=ho e (by simpa using h1) h2
  rcases h3 with h3 | h3
  ·rw[← yC h3];exact h4
  ·cases hu:all[e.on]? with
   | none=>rw[hu]at h3;cases h3
   | some u =>
    rw[hu]at h3
    exact Aaj hc n u (hc e.on u hu (Ari h4)) h3
def Ys (all:Array Oper) (p:Stp):List Stp→Bool
 | []=>true
 | t::r=>(Tg all p t || aft all p t) && Ys all p r
def K7 (all:Array Oper):List Stp→Bool
 | []=>true
 | p::r=>Ys all p r && K7 all r
def Aa3 (t:Stp):Bool:=t.o.after.toList.all λ e=>!(Region.binds .any e) || Nat.blt e.on t.i
def fin (s:SS):List Stp→SS
 | []=>s
 | t::r=>fin (s.upd t.o.dst t.U) r
def Chain (P:Program) (all:Array Oper):SS→List Stp→Prop
 | _,[]=>True
 | s,t::r=>t.ok P all s∧Chain P all (s.upd t.o.dst t.U) r
theorem Ai7 {β:Type 1} (f:Nat→β) {d e:Nat} (u v:β) (h:d≠e):upd (upd f d u) e v=upd (upd f e v) d u:=by
 funext i
 by_cases h1:i=d
 ·subst h1;rw[Cf _ _ h,Bn,Bn]
 ·by_cases h2:i=e
  ·subst h2;rw[Bn,Cf _ _ h1,Bn]
  ·rw[Cf _ _ h2,Cf _ _ h1,Cf _ _ h1,Cf _ _ h2]
theorem Ai8 (h:Nat→Ob) (k:Nat) (o:Ob):∀ (l:List (Nat × Ob)),k∉l.map (·.1)→Q2 (upd h k o) l=upd (Q2 h l) k o
 | [],_=>rfl
 | (j,x)::r,hk=>by
  simp only[xR,yB,uK]at hk
  rw[Q2,Q2,Ai7 _ _ _ hk.1,Ai8 _ k o r hk.2]
theorem Ae4:∀ (l m:List (Nat × Ob)) (h:Nat→Ob),(∀ k∈l.map (·.1),k∉m.map (·.1))→Q2 (Q2 h l) m=Q2 (Q2 h m) l
 | [],m,h,_=>rfl
 | (k,o)::r,m,h,hd=>by
  rw[Q2,Q2,Ae4 r m _ (λ j hj=>hd j (by simp at hj ⊢;exact .inr hj)),Ai8 h k o m (hd k y_)]
theorem Aag {all:Array Oper} {p t:Stp} (h:Tg all p t=true) :
  (∀ d,p.o.dst=some d→d∉t.o.looksAt all)∧(∀ d,p.o.dst=some d→t.o.dst≠some d)∧(∀ d,t.o.dst=some d→d∉p.o.looksAt all)∧(∀ k∈p.U.ws,k∉t.U.ws) ∧
   ((∀ k∈p.U.ws,k∉t.U.rd)∨(Ms p.o=true∧Iy t.o=true))∧((∀ k∈t.U.ws,k∉p.U.rd)∨(Ms t.o=true∧Iy p.o=true)):=by
 simp only[Tg,zB,yD]at h
 obtain ⟨⟨⟨h1,h2⟩,h3⟩,h4⟩:=h
 obtain ⟨a1,a2,a3⟩:=Oper.apart_spec h1
 exact⟨a1,a2,a3,Ail h2,h3.imp Ail id,h4.imp Ail id⟩
theorem Ai6 {all:Array Oper} {p t:Stp} (h:Tg all p t=true) (s:SS):(s.upd p.o.dst p.U).upd t.o.dst t.U=(s.upd t.o.dst t.U).upd p.o.dst p.U:=by
 obtain ⟨_,h2,_,h4,_,_⟩:=Aag h
 unfold SS.upd
 congr 1
 ·cases hp:p.o.dst with
  | none=>rfl
  | some d =>
   cases ht:t.o.dst with
   | none=>rfl
   | some e=>exact Ai7 _ _ _ (λ e'=>h2 d hp (by rw[ht,e']))
 ·exact Ae4 _ _ _ (λ k hk=>h4 k hk)
theorem Zb {all:Array Oper} {s s':SS} {o:Oper} {b:Bool} (a2:V3 all s o.guard b) (h1:∀ d,d∈o.looksAt all→s'.σ d=s.σ d):V3 all s' o.guard b:=by
 unfold V3 at a2 ⊢
 cases hg:o.guard with
 | none=>rw[hg]at a2;exact a2
 | some q =>
  obtain ⟨j,want⟩:=q
  rw[hg]at a2
  obtain ⟨d,b1,b2⟩:=a2
  have hd:s'.σ d=s.σ d:=h1 d (by simp[Oper.looksAt,hg,b1])
  exact⟨d,b1,by rw[hd];exact b2⟩
theorem Alw {all:Array Oper} {s s':SS} {o:Oper} (h1:∀ d,d∈o.looksAt all→s'.σ d=s.σ d):∀ x∈o.op.operands,ev s' x=ev s x:=λ x hx=>by
 cases x with
 | tmp d =>
  have hd:s'.σ d=s.σ d:=h1 d (by
   simp only[Oper.looksAt,yF,xN]
   exact .inl ⟨.tmp d,by simpa using hx,E⟩)
  simpa only [ev] using hd
 | const v=>rfl
 | global g=>rfl
 | func f=>rfl
theorem Stp.congr {P:Program} {all:Array Oper} {s s':SS} {t:Stp} (h:t.ok P all s) (h1:∀ d,d∈t.o.looksAt all→s'.σ d=s.σ d) (h2:∀ k,k∈t.U.rd∨k∈t.U.ws→s'.h k=s.h k):t.ok P all s':=by
 obtain ⟨a1,a2,a3,a4⟩:=h
 have hev:=Alw h1
 refine⟨a1,Zb a2 h1,λ hw=>?_,a4⟩
 obtain ⟨g1,g2,g3⟩:=a3 hw
 refine⟨λ κ a w hi hr ho N Q hN=>?_,λ hi=>?_,λ hi p hp=>?_⟩
 ·exact g1 κ a w hi (λ x hx=>by rw[← hev x hx];exact hr x hx) (λ k hk=>by rw[← h2 k hk];exact ho k hk) N Q (λ v κ' w' st inv hv hob hrd=>hN v κ' w' st inv hv hob λ k hk hw=>by rw[h2 k (.inl hk)];exact hrd k hk hw)
 ·obtain ⟨e1,e2⟩:=g2 hi
  exact⟨e1,λ s'' q1 q2=>e2 s'' (λ x hx=>(q1 x hx).trans (hev x hx)) (λ k hk=>by rw[q2 k hk,h2 k (.inl hk)])⟩
 ·rw[g3 hi p hp,h2 p.1 (.inr (yH.2 ⟨p,hp,rfl⟩))]
theorem Stp.congrI {P:Program} {all:Array Oper} {s s':SS} {t:Stp} (h:t.ok P all s) (hi:Iy t.o=true) (h1:∀ d,d∈t.o.looksAt all→s'.σ d=s.σ d) (h2:∀ k∈t.U.rd,(s'.h k).shp=(s.h k).shp):t.ok P all s':=by
 obtain ⟨a1,a2,a3,a4⟩:=h
 have hev:=Alw h1
 refine⟨a1,Zb a2 h1,λ hw=>?_,a4⟩
 obtain ⟨g1,g2,g3⟩:=a3 hw
 obtain ⟨e1,e2⟩:=g2 hi
 refine⟨(e2 s' hev h2).two,λ _=>⟨e1,λ s'' q1 q2=>e2 s'' (λ x hx=>(q1 x hx).trans (hev x hx)) (λ k hk=>by rw[q2 k hk,h2 k hk])⟩,λ _ p hp=>?_⟩
 rw[e1]at hp
 cases hp
theorem Ai9:∀ (l:List (Nat × Ob)) (h:Nat→Ob) (k:Nat),(∀ q∈l,q.2.shp=(h q.1).shp)→(Q2 h l k).shp=(h k).shp
 | [],_,_,_=>rfl
 | (j,o)::r,h,k,hq=>by
  rw[Q2,Ai9 r (Sy.upd h j o) k (λ q hqr=>?_)]
  ·by_cases hj:k=j
   ·subst hj;rw[Bn];exact hq (k,o) y_
   ·rw[Cf _ _ hj]
  ·rw[hq q (by simp[hqr])]
   by_cases hj:q.1=j
   ·rw[hj,Bn];exact(hq (j,o) y_).symm
   ·rw[Cf _ _ hj]
theorem Stp.lens {P:Program} {all:Array Oper} {s:SS} {t:Stp} (h:t.ok P all s) (hi:Ms t.o=true) (k:Nat):((s.upd t.o.dst t.U).h k).shp=(s.h k).shp:=by
 obtain ⟨_,_,a3,a4⟩:=h
 cases hw:t.want with
 | false=>rw[a4 hw];rfl
 | true=>exact Ai9 _ _ _ ((a3 hw).st hi)
theorem upd_σ_ne {s:SS} {dst:Option Nat} {U:Up} {d:Nat} (h:dst≠some d):(s.upd dst U).σ d=s.σ d:=by
 cases dst with
 | none=>rfl
 | some e=>exact Cf _ _ (λ e'=>h (by rw[e']))
theorem Chain.first {P:Program} {all:Array Oper} {t:Stp} {post:List Stp}:∀ {pre:List Stp} {s:SS},Chain P all s (pre++t::post)→(∀ p∈pre,Tg all p t=true) →
  t.ok P all s∧Chain P all (s.upd t.o.dst t.U) (pre++post)∧fin s (pre++t::post)=fin (s.upd t.o.dst t.U) (pre++post)
 | [],s,h,_=>⟨h.1,h.2,rfl⟩
 | p::pre,s,h,hp=>by
  obtain ⟨h1,h2⟩:=h
  obtain ⟨i1,i2,i3⟩:=Chain.first h2 (λ q hq=>hp q (by simp[hq]))
  have ha:=hp p y_
  obtain ⟨b1,b2,b3,b4,b5,b6⟩:=Aag ha
  have ht:t.ok P all s:=by
   rcases b5 with b5 | ⟨c1,c2⟩
   ·exact Stp.congr i1 (λ d hd=>(upd_σ_ne (λ e=>b1 d e hd)).symm) (λ k hk=>(Aba (λ hm=>by
     rcases hk with hk | hk
     ·exact b5 k hm hk
     ·exact b4 k hm hk)).symm)
   ·exact Stp.congrI i1 c2 (λ d hd=>(upd_σ_ne (λ e=>b1 d e hd)).symm) (λ k _=>(Stp.lens h1 c1 k).symm)
  have hpk:p.ok P all (s.upd t.o.dst t.U):=by
   rcases b6 with b6 | ⟨c1,c2⟩
   ·exact Stp.congr h1 (λ d hd=>upd_σ_ne (λ e=>b3 d e hd)) (λ k hk=>Aba (λ hm=>by
     rcases hk with hk | hk
     ·exact b6 k hm hk
     ·exact b4 k hk hm))
   ·exact Stp.congrI h1 c2 (λ d hd=>upd_σ_ne (λ e=>b3 d e hd)) (λ k _=>Stp.lens ht c1 k)
  refine⟨ht,⟨hpk,?_⟩,?_⟩
  ·rw[← Ai6 ha];exact i2
  ·show fin (s.upd p.o.dst p.U) (pre++t::post)=fin ((s.upd t.o.dst t.U).upd p.o.dst p.U) (pre++post)
   rw[i3,Ai6 ha]
theorem Zt {all:Array Oper} {t:Stp} {post:List Stp}:∀ {pre:List Stp},K7 all (pre++t::post)=true→(∀ p∈pre,Tg all p t=true∨aft all p t=true)∧K7 all (pre++post)=true
 | [],h=>by
  simp only[tL,K7,zB]at h
  exact⟨by simp,h.2⟩
 | p::pre,h=>by
  simp only[wN,K7,zB]at h
  obtain ⟨h1,h2⟩:=h
  obtain ⟨i1,i2⟩:=Zt h2
  have key:∀ l:List Stp,Ys all p (l++t::post)=true→(Tg all p t=true∨aft all p t=true)∧Ys all p (l++post)=true:=by
   intro l
   induction l with
   | nil=>intro h;simp only[tL,Ys,zB,yD]at h;exact h
   | cons q l ih =>
    intro h
    simp only[wN,Ys,zB]at h ⊢
    exact⟨(ih h.2).1,h.1,(ih h.2).2⟩
  obtain ⟨k1,k2⟩:=key pre h1
  refine⟨λ q hq=>?_,?_⟩
  ·rcases yB.1 hq with rfl | hq
   ·exact k1
   ·exact i1 q hq
  ·simp only[wN,K7,zB]
   exact⟨k2,i2⟩
theorem Au5 {P:Program} {F:Fr} {n:Nat} {all:Array Oper} {Q:Exit→Act→World→Prop} (hdst:∀ (i:Nat) (o:Oper),all[i]? = some o→∀ d,o.dst=some d→d<n) :
  ∀ (m:Nat) (rem:List Stp) (listed:Array Bool) (s:SS) (κ:Ka) (a:Act) (w:World),rem.length=m→St F n s κ a w→Chain P all s rem→K7 all rem=true→(∀ t∈rem,Aa3 t=true) →
   (∀ i,listed.getD i true=false↔∃ t∈rem,t.i=i)→(rem.Pairwise λ p t=>p.i<t.i)→(∀ i,i<all.size→i<listed.size)→Cl all listed→(∀ κ' a' w',St F n (fin s rem) κ' a' w'→Q .normal a' w')→wpAny P .any all Q m listed a w:=by
 intro m
 induction m with
 | zero =>
  intro rem listed s κ a w hm hs _ _ _ hl _ _ _ hQ
  have:rem=[]:=zQ hm
  subst this
  refine⟨?_,hQ κ a w hs⟩
  apply List.eq_nil_iff_forall_not_mem.2
  intro i hi
  have h1:=(mem_ready.1 hi).1
  rw[hl i]at h1
  obtain ⟨t,ht,_⟩:=h1
  cases ht
 | succ m ih =>
  intro rem listed s κ a w hm hs hc hp he hl hlt hsz hcl hQ
  have hready:∀ t post,rem=t::post→t.i∈Region.ready .any all listed:=λ t post h0=>by
   subst h0
   refine mem_ready.2 ⟨(hl t.i).2 ⟨t,by simp,E⟩,t.o,hc.1.1,λ e hedge hb=>?_⟩
   have h1:=he t y_
   simp only[Aa3,xD,yD,yK]at h1
   have h2:e.on<t.i:=by
    rcases h1 e (by simpa using hedge) with h2 | h2
    ·rw[hb]at h2;cases h2
    ·exact xH h2
   have hin:e.on<listed.size:=by
    refine hsz _ ?_
    have:t.i<all.size:=by
     have:=hc.1.1
     rcases vB t.i all.size with h | h
     ·exact h
     ·rw[vY h]at this;cases this
    omega
   have h3:listed.getD e.on true≠false:=λ h4=>by
    obtain ⟨q,hq,hqi⟩:=(hl e.on).1 h4
    rcases yB.1 hq with rfl | hq
    ·omega
    ·have:=(vO.1 hlt).1 q hq;omega
   simp only[wP,vK hin,Option.getD_some]at h3 ⊢
   cases hh:listed[e.on] with
   | true=>rfl
   | false=>exact zW hh h3
  refine⟨λ h0=>?_,λ i hi=>?_⟩
  ·cases rem with
   | nil=>simp at hm
   | cons t post =>
    have:=hready t post rfl
    rw[h0]at this
    cases this
  ·obtain ⟨h1,oi,h2,h3⟩:=mem_ready.1 hi
   obtain ⟨t,ht,rfl⟩:=(hl i).1 h1
   obtain ⟨pre,post,rfl⟩:=List.append_of_mem ht
   obtain ⟨p1,p2⟩:=Zt hp
   have hap:∀ p∈pre,Tg all p t=true:=λ p hpp=>by
    rcases p1 p hpp with h4 | h4
    ·exact h4
    ·exfalso
     have hto:oi=t.o:=by
      have hok:all[t.i]? = some t.o:=by
       have:∀ (l:List Stp) (s:SS),Chain P all s (l++t::post)→all[t.i]? = some t.o:=by
        intro l
        induction l with
        | nil=>intro s h;exact h.1.1
        | cons q l ih=>intro s h;exact ih _ h.2
       exact this pre s hc
      rw[hok]at h2
      exact(Option.some.inj h2).symm
     rw[hto]at h3
     have h5:=Ari (Aaj hcl 4 t.o h3 h4)
     have h6:=(hl p.i).2 ⟨p,by simp[hpp],rfl⟩
     rw[h5]at h6
     cases h6
   obtain ⟨c1,c2,c3⟩:=hc.first hap
   have hlt':(pre++post).Pairwise λ p t=>p.i<t.i:=by
    rw[List.pairwise_append]at hlt ⊢
    obtain ⟨q1,q2,q3⟩:=hlt
    exact⟨q1,(vO.1 q2).2,λ x hx y hy=>q3 x hx y (by simp[hy])⟩
   have hne:∀ q∈pre++post,q.i≠t.i:=λ q hq=>by
    rw[List.pairwise_append]at hlt
    obtain ⟨q1,q2,q3⟩:=hlt
    rcases yF.1 hq with hq | hq
    ·have:=q3 q hq t y_;omega
    ·have:=(vO.1 q2).1 q hq;omega
   have hl':∀ i,(listed.setIfInBounds t.i true).getD i true=false↔∃ q∈pre++post,q.i=i:=λ i=>by
    by_cases hti:t.i=i
    ·subst hti
     constructor
     ·intro h4
      exfalso
      rcases vB t.i listed.size with h5 | h5
      ·simp[h5]at h4
      ·rw[wP,vY (by simpa using h5)]at h4;cases h4
     ·rintro ⟨q,hq,hqi⟩
      exact zW hqi (hne q hq)
    ·rw[getD_set_ne true hti,hl i]
     constructor
     ·rintro ⟨q,hq,rfl⟩
      refine⟨q,?_,E⟩
      simp only[yF,yB]at hq ⊢
      rcases hq with hq | rfl | hq
      ·exact .inl hq
      ·exact zW E hti
      ·exact .inr hq
     ·rintro ⟨q,hq,rfl⟩
      refine⟨q,?_,E⟩
      simp only[yF,yB]at hq ⊢
      rcases hq with hq | hq
      ·exact .inl hq
      ·exact .inr (.inr hq)
   have hmono:∀ i,listed.getD i false=true→(listed.setIfInBounds t.i true).getD i false=true:=λ i h=>by
    by_cases hti:t.i=i
    ·subst hti
     rcases vB t.i listed.size with h5 | h5
     ·simp[h5]
     ·rw[wP,vY h5]at h;cases h
    ·rw[getD_set_ne false hti];exact h
   have hcl':Cl all (listed.setIfInBounds t.i true):=λ i o hio hli e he1 he2=>by
    refine hmono _ ?_
    by_cases hti:t.i=i
    ·subst hti
     rw[h2]at hio
     cases hio
     exact h3 e he1 he2
    ·rw[getD_set_ne true hti]at hli
     exact hcl i o hio hli e he1 he2
   have next:∀ (κ':Ka) (a':Act) (w':World),St F n (s.upd t.o.dst t.U) κ' a' w'→wpAny P .any all Q m (listed.setIfInBounds t.i true) a' w':=λ κ' a' w' hs' =>
    ih (pre++post) _ (s.upd t.o.dst t.U) κ' a' w' (by simp at hm ⊢;omega) hs' c2 p2 (λ q hq=>he q (by simp only[yF,yB]at hq ⊢;exact hq.imp id .inr)) hl' hlt' (by simpa using hsz) hcl' (by rw[← c3];exact hQ)
   have hto:all[t.i]? = some t.o:=c1.1
   have hdt:=hdst t.i t.o hto
   unfold wpOp
   rw[hto]
   obtain ⟨_,d2,d3,d4⟩:=c1
   have hwant:=V2 (o:=t.o) hs (λ j want hg d hd=>by
    cases hj:all[j]? with
    | none=>rw[hj]at hd;cases hd
    | some oj=>rw[hj]at hd;exact hdst j oj hj d (by simpa using hd)) d2
   simp only[hwant]
   cases hw:t.want with
   | true =>
    simp only[if_true]
    exact .inl ((d3 hw).good κ a w hs.inv (λ x _=>hs.ev x) (λ j _=>hs.obj j) _ _ (λ v κ' w' st inv hv ho hrd=>next κ' _ w' (hs.put2 hdt st inv hv ho hrd)))
   | false =>
    simp only[vP,if_false]
    refine next κ _ w ?_
    rw[d4 hw]
    exact hs.put (U:=⟨.val undef,[],[]⟩) hdt (Step.refl _ κ w) hs.inv (by simp[Rd]) (λ p hp=>by cases hp)
variable {C:Cx} {k:List KI} {s:SS}
def DR (C:Cx) (k:List KI) (all:Array Oper) (done:List Stp) (rest:List Oper) (s:SS):Prop :=
 ∃ ts:List Stp,ts.map (·.o)=rest∧(∀ j t,ts[j]? = some t→t.i=done.length+j)∧Chain C.P all s ts∧K7 all (done++ts)=true∧(done++ts).all Aa3=true∧G C k (fin s ts)
def Aig (all:Array Oper) (done:List Stp):Bool:=K7 all done && done.all Aa3
theorem DR_nil {all:Array Oper} {done:List Stp} (hp:Aig all done=true) (h:G C k s):DR C k all done [] s:=by
 simp only[Aig,zB]at hp
 exact⟨[],E,by simp,Y,by simpa using hp.1,by rw[xJ];exact hp.2,h⟩
theorem Azb {all:Array Oper} {done:List Stp} {o:Oper} {rest:List Oper} (U:Up) (hg:GoodX C.P o s U) (hi:all[done.length]? = some o) (hw:V3 all s o.guard true)
  (h:DR C k all (done++[⟨done.length,o,U,true⟩]) rest (s.upd o.dst U)):DR C k all done (o::rest) s:=by
 obtain ⟨ts,h1,h2,h3,h4,h5,h6⟩:=h
 refine⟨⟨done.length,o,U,true⟩::ts,by simp[h1],λ j t hj=>?_,⟨⟨hi,hw,λ _=>hg,λ hf=>by cases hf⟩,h3⟩,by simpa using h4,by simpa using h5,h6⟩
 cases j with
 | zero=>simp only[uJ,Option.some.injEq]at hj;subst hj;rfl
 | succ j=>have:=h2 j t (by simpa using hj);simp at this;omega
theorem A1j {all:Array Oper} {done:List Stp} {o:Oper} {rest:List Oper} (hi:all[done.length]? = some o) (hw:V3 all s o.guard false)
  (h:DR C k all (done++[⟨done.length,o,⟨.val undef,[],[]⟩,false⟩]) rest (s.upd o.dst ⟨.val undef,[],[]⟩)):DR C k all done (o::rest) s:=by
 obtain ⟨ts,h1,h2,h3,h4,h5,h6⟩:=h
 refine⟨⟨done.length,o,⟨.val undef,[],[]⟩,false⟩::ts,by simp[h1],λ j t hj=>?_,⟨⟨hi,hw,λ hf=>(by cases hf),λ _=>rfl⟩,h3⟩,by simpa using h4,by simpa using h5,h6⟩
 cases j with
 | zero=>simp only[uJ,Option.some.injEq]at hj;subst hj;rfl
 | succ j=>have:=h2 j t (by simpa using hj);simp at this;omega
def App (n:Nat) (ops:List Oper):Bool:=ops.all λ o=>match o.dst with | some d=>Nat.blt d n | none=>true
theorem G_draw {id:Nat} {ops:Array Oper} (hm:C.P.follows .mixedOrders=true) (hd:App C.n ops.toList=true) (h:DR C k ops [] ops.toList s):G C (.code (.region id ops true)::k) s:=λ κ a w hs=>by
 obtain ⟨ts,h1,h2,h3,h4,h5,h6⟩:=h
 have hdst:∀ (i:Nat) (o:Oper),ops[i]? = some o→∀ d,o.dst=some d→d<C.n:=λ i o hi d hod=>by
  simp only[App,xD]at hd
  have hmem:o∈ops.toList:=by
   rw[← vA]at hi
   exact List.mem_of_getElem? hi
  have:=hd o hmem
  rw[hod]at this
  exact xH this
 have hlen:ts.length=ops.size:=by
  have:=zD List.length h1
  simpa using this
 have hs':St C.F C.n s κ a { w with drawn:=w.drawn+1 }:=by
  have g:=Grew.drew w
  have st:Step (λ _=>False) κ w κ w.drew:=⟨g.size,g.os,g.tape,g.output,rfl,λ b _=>rfl,λ b _ _=>rfl,λ _ _ _ _=>rfl,λ _ _=>rfl,λ _ h=>h.elim,λ _ h=>.inl h⟩
  have inv:Inv κ w.drew:=⟨hs.inv.inj,hs.inv.bnd,hs.inv.apart,hs.inv.mbnd⟩
  exact⟨hs.defers,hs.size,inv,hs.ctx.step inv st,λ i=>Rd.step st _ _ (hs.slot i),λ j=>ObOK.step st (λ h=>h) _ (hs.obj j)⟩
 refine wp_region_any hm (Au5 hdst ops.size ts (Array.replicate ops.size false) s κ a _ hlen hs' h3 (by simpa using h4) (by simpa using h5) ?_ ?_ y_ ?_ (λ κ' a' w' hs''=>h6 κ' a' w' hs''))
 ·intro i
  simp only[wP,Array.getElem?_replicate]
  constructor
  ·intro h7
   split at h7
   ·rename_i hi
    have:i<ts.length:=by omega
    exact⟨ts[i],zE this,by simpa using h2 i ts[i] (zH this)⟩
   ·cases h7
  ·rintro ⟨t,ht,rfl⟩
   obtain ⟨j,hj,rfl⟩:=yR.1 ht
   have:=h2 j ts[j] (zH hj)
   simp only[xA,xQ]at this
   rw[this,zC q_]
   rfl
 ·rw[wA]
  intro i j hi hj hij
  have e1:=h2 i ts[i] (zH hi)
  have e2:=h2 j ts[j] (zH hj)
  omega
 ·intro i o hio hli
  exfalso
  have:i<ops.size:=by
   rcases vB i ops.size with h | h
   ·exact h
   ·rw[vY h]at hio;cases hio
  simp only[wP,Array.getElem?_replicate,zC this]at hli
  cases hli
end Go.Sy
namespace Go.Sy
def Al (b:UInt8):SV:=.val (.int .u8 b.toNat)
def Aa (n:Int):SV:=.val (.int .i64 n)
def Ac (b:Bool):SV:=.val (.bool b)
def Bb (n:Int):SV:=.val (.int .u64 n)
def A8 (n:Int):SV:=.val (.int .u32 n)
def Dz (s:ByteArray):SV:=.val (.string s)
theorem Aud {P:Program} (Γ:Ty P) {t:TypeId} {ti:TI} {k:IntKind} (ht:Γ.get t=some ti) (hk:ti.k=.int k):P.underlying t=some (.int k):=by
 obtain ⟨d,info,z,k1,k2,_⟩:=Γ.ok t ti ht
 rw[hk]at k2
 simp only[TK.ok]at k2
 subst k2
 exact k1
theorem Asf {P:Program} (Γ:Ty P) {t:TypeId} {ti:TI} (ht:Γ.get t=some ti) (hk:ti.k=.string):P.underlying t=some .string:=by
 obtain ⟨d,info,z,k1,k2,_⟩:=Γ.ok t ti ht
 rw[hk]at k2
 simp only[TK.ok]at k2
 subst k2
 exact k1
theorem Xb {P:Program} (Γ:Ty P) {o:Oper} {s:SS} {src dst:TypeId} {si di ei:TI} {x:Operand} {et:TypeId} {eb n:Nat} {ez:List Value} {ks:List Nat} {f:Nat→SV→Prop} (bs:List UInt8) (h:o.op=.convert src dst x)
  (hs:Γ.get src=some si) (hsk:si.k=.slice et 1 eb ez) (he:Γ.get et=some ei) (hek:ei.k=.int .u8) (hd:Γ.get dst=some di) (hdk:di.k=.string) (hx:AppSrc s 1 (ev s x) ks n f) (hn:n=bs.length) (hf:∀ i (h:i<bs.length),f i (Al bs[i])) :
  Good P o s ⟨.val (.string ⟨bs.toArray⟩),ks,[]⟩ :=
 Good.pure λ κ a w hi hr ho=>by
  have r1:=hr x (by simp[h,Op.operands])
  have hsrc:=hx.src r1 ho
  obtain ⟨hu,_⟩:=Cg Γ hs hsk
  have he':=Aud Γ he hek
  have hd':=Asf Γ hd hdk
  refine⟨.string ⟨bs.toArray⟩,?_,by simp[Rd]⟩
  rcases hsrc with ⟨h0,hno,ad,cap,e1⟩ | ⟨b,off,cap,news,e1,e2,e3,e4,e5⟩
  ·have hb:bs=[]:=zQ q_
   subst hb
   cases ad with
   | none=>simp[execOp,h,e1,run_convert_bytes_nil w src et hu he' 0 cap dst hd'];rfl
   | some ad =>
    have:=run_convert_bytes_back (P:=P) w src dst et ad cap [] hu he' hd' (λ j hj=>by simp at hj)
    simp only[xA]at this
    simp[execOp,h,e1,this]
  ·have:=run_convert_bytes_back (P:=P) w src dst et ⟨b,off,none⟩ cap bs hu he' hd' (λ j hj=>by
    obtain ⟨q0,u,q1,q2,q3,q4⟩:=e5 j _ (hf j hj)
    have hu2:u=.int .u8 bs[j].toNat:=by simpa [Al,RdD] using q1
    have q5:=q4 0 q_
    rw[hu2]at q5
    simp only[Nat.mul_one,tS,Value.cells]at q5
    rw[Addr.add_lit]
    exact e4 j _ (by simpa using q5))
   rw[← hn]at this
   simp[execOp,h,e1,this]
inductive EK | int (k:IntKind) | bool | string
def EK.desc:EK→TypeDesc | .int k=>.int k | .bool=>.bool | .string=>.string
def Apl (P:Program):Nat→List Field→List EK→Prop
 | _,[],[]=>True
 | i, f :: fs, k :: ks => f.name ≠ "_" ∧ f.offset = i ∧ P.underlying f.type = some k.desc ∧ Apl P (i + 1) fs ks
 | _,_,_=>False
structure EqOK (P:Program) (t:TypeId) (ks:List EK):Prop where
 under:P.underlying t=some (.struct (P.fieldsOf t))
 stood:P.stoodInHeld t=false
 guard:P.eqGuardType P.depth t=false
 fields:Apl P 0 (P.fieldsOf t).toList ks
def eq1 (k:EK) (x y:SV):Option Bool :=
 match k,x,y with
 | .int _,.val (.int k1 a),.val (.int k2 b)=>if k1=k2 then some (a == b) else none
 | .bool,.val (.bool a),.val (.bool b)=>some (a == b)
 | .string,.val (.string a),.val (.string b)=>some (a == b)
 | _,_,_=>none
theorem A0y {P:Program} {κ:Ka} {w:World} (d:Nat) {t:TypeId} {k:EK} (ht:P.underlying t=some k.desc) {x y:SV} {u v:Value} {b:Bool} (h:eq1 k x y=some b) (hx:Rd κ w x u) (hy:Rd κ w y v):(Op.equalIn (d+1) t u v).run P w=.ok b w:=by
 unfold eq1 at h
 split at h
 ·split at h
  ·rename_i hk
   subst hk
   simp only[Option.some.injEq]at h
   rw[hx.val,hy.val,← h]
   exact run_equalIn_int w d t _ _ _ _ ht
  ·cases h
 ·simp only[Option.some.injEq]at h
  rw[hx.val,hy.val,← h]
  exact run_equalIn_bool' w d t _ _ ht
 ·simp only[Option.some.injEq]at h
  rw[hx.val,hy.val,← h,beq_toListBytes]
  exact run_equalIn_string w d t _ _ ht
 ·cases h
def eqS:List EK→List SV→List SV→Option Bool
 | [],[],[]=>some true
 | k::ks,x::l,y::m=>match eq1 k x y,eqS ks l m with
  | some a,some b=>some (a && b)
  | _,_=>none
 | _,_,_=>none
theorem Abm {P:Program} (w:World) {t:TypeId} {k:EK} (h:P.underlying t=some k.desc) (cs:Array Value) {i:Nat} {v:Value} (hv:cs[i]? = some v):(part t cs i).run P w=.ok v w:=by
 cases k<;>simp only[EK.desc]at h<;>simp[part,isAgg,run_underlying h,hv]
theorem Ayi {P:Program} {κ:Ka} {w:World} {xs ys:Array Value} (d:Nat):∀ (ks:List EK) (fs:List Field) (i:Nat) (l m:List SV) (r:Bool),Apl P i fs ks→RdL κ w l (xs.toList.drop i)→RdL κ w m (ys.toList.drop i)→eqS ks l m=some r →
  (Op.eqFields (d+1) xs ys fs).run P w=.ok r w
 | [],[],i,l,m,r,_,_,_,he=>by
  cases l<;>cases m<;>simp[eqS]at he
  subst he
  simp[Op.eqFields]
 | [],_::_,i,l,m,r,h,_,_,_=>by simp[Apl]at h
 | _::_,[],i,l,m,r,h,_,_,_=>by simp[Apl]at h
 | k::ks,f::fs,i,[],m,r,h,hl,hm,he=>by simp[eqS]at he
 | k::ks,f::fs,i,x::l,[],r,h,hl,hm,he=>by simp[eqS]at he
 | k::ks,f::fs,i,x::l,y::m,r,h,hl,hm,he=>by
  simp only[Apl]at h
  obtain ⟨h1,h2,h3,h4⟩:=h
  simp only[RdL]at hl hm
  obtain ⟨v,q,e1,e2,e3⟩:=hl
  obtain ⟨u,p,f1,f2,f3⟩:=hm
  have g1:xs[i]? = some v:=by
   have:=zD (λ l=>l[0]?) e1
   simpa using this
  have g2:ys[i]? = some u:=by
   have:=zD (λ l=>l[0]?) f1
   simpa using this
  have e4:xs.toList.drop (i+1)=q:=by
   have:=zD (List.drop 1) e1
   simpa [tB] using this
  have f4:ys.toList.drop (i+1)=p:=by
   have:=zD (List.drop 1) f1
   simpa [tB] using this
  have p1:=Abm (P:=P) w h3 xs g1
  have p2:=Abm (P:=P) w h3 ys g2
  simp only[eqS]at he
  cases hb:eq1 k x y with
  | none=>rw[hb]at he;cases he
  | some b =>
   cases hq:eqS ks l m with
   | none=>rw[hb,hq]at he;cases he
   | some r' =>
    rw[hb,hq]at he
    simp only[Option.some.injEq]at he
    have hrun:=A0y (P:=P) (κ:=κ) (w:=w) d h3 hb e2 f2
    have ih:=Ayi d ks fs (i+1) l m r' h4 (by rw[e4];exact e3) (by rw[f4];exact f3) hq
    simp only[Op.eqFields,zC h1,Sem.run_bind,h2,p1,p2,Result.andThen_ok,hrun]
    subst he
    cases b
    ·simp
    ·simp[ih]
theorem Z2 {P:Program} {o:Oper} {s:SS} {op:BinOp} {t yt:TypeId} {x y:Operand} {l m:List SV} {ks:List EK} {r:Bool} (h:o.op=.binOp op t x y yt) (hop:op=.eql∨op=.neq) (hq:EqOK P t ks)
  (hx:ev s x=.agg l) (hy:ev s y=.agg m) (hr:eqS ks l m=some r):Good P o s ⟨.val (.bool (if op=.eql then r else !r)),[],[]⟩ :=
 Good.pure λ κ a w _ hrd _=>by
  have h1:=hrd x (by simp[h,Op.operands])
  have h2:=hrd y (by simp[h,Op.operands])
  rw[hx]at h1
  rw[hy]at h2
  simp only[Rd]at h1 h2
  obtain ⟨cs,e1,_,e3⟩:=h1
  obtain ⟨ds,f1,_,f3⟩:=h2
  have hrun:(Op.equal t (.agg cs.toArray) (.agg ds.toArray)).run P w=.ok r w:=by
   show (Op.equalIn (9999+1) t (.agg cs.toArray) (.agg ds.toArray)).run P w=.ok r w
   rw[run_equalIn_struct w 9999 t _ _ hq.under hq.stood]
   exact Ayi (κ:=κ) 9998 ks _ 0 l m r hq.fields (by simpa using e3) (by simpa using f3) hr
  have hg:(eqGuard op t x y (.agg cs.toArray) (.agg ds.toArray)).run P w=.ok () w:=by
   rcases hop with rfl | rfl<;>simp[eqGuard,hq.guard]
  refine⟨.bool (if op=.eql then r else !r),?_,by simp[Rd]⟩
  rcases hop with rfl | rfl<;>simp[execOp,h,e1,f1,hg,binOp,hrun]
theorem Xa {P:Program} (Γ:Ty P) {o:Oper} {s:SS} {op:BinOp} {t yt:TypeId} {ti:TI} {x y:Operand} {p q:Bool} (h:o.op=.binOp op t x y yt) (hop:op=.eql∨op=.neq) (ht:Γ.get t=some ti) (hk:ti.k=.bool)
  (hx:ev s x=.val (.bool p)) (hy:ev s y=.val (.bool q)):Good P o s ⟨.val (.bool (if op=.eql then p == q else p != q)),[],[]⟩ :=
 Good.pure λ κ a w _ hrd _=>by
  have h1:=hrd x (by simp[h,Op.operands])
  have h2:=hrd y (by simp[h,Op.operands])
  rw[hx]at h1
  rw[hy]at h2
  obtain ⟨d,info,z,k1,k2,_⟩:=Γ.ok t ti ht
  rw[hk]at k2
  simp only[TK.ok]at k2
  subst k2
  have hrun:=run_equal_bool (P:=P) w t p q k1
  refine⟨.bool (if op=.eql then p == q else p != q),?_,by simp[Rd]⟩
  rcases hop with rfl | rfl<;>simp[execOp,h,h1.val,h2.val,eqGuard_at_bool,binOp,hrun,bne]
theorem T6 {P:Program} (w:World) (d:Nat) {t e:TypeId} (h:P.underlying t=some (.pointer e)) (p:Option Addr):(Op.equalIn (d+1) t (.pointer p) (.pointer none)).run P w=.ok p.isNone w:=by
 cases p<;>simp[Op.equalIn,run_underlying h]
theorem Z1 {P:Program} (Γ:Ty P) {o:Oper} {s:SS} {op:BinOp} {t yt:TypeId} {ti:TI} {x y:Operand} (h:o.op=.binOp op t x y yt) (hop:op=.eql∨op=.neq) (ht:Γ.get t=some ti) (hk:ti.k=.ptr)
  (hy:ev s y=.val (.pointer none)) {b:Bool} {rd:List Nat} (hx:(∃ k off l,ev s x=.ptr k off∧s.h k=.box l∧rd=[k]∧b=false)∨(ev s x=.val (.pointer none)∧rd=[]∧b=true)):Good P o s ⟨.val (.bool (if op=.eql then b else !b)),rd,[]⟩ :=
 Good.pure λ κ a w _ hrd ho=>by
  have h1:=hrd x (by simp[h,Op.operands])
  have h2:=hrd y (by simp[h,Op.operands])
  rw[hy]at h2
  obtain ⟨d,info,z,k1,k2,_⟩:=Γ.ok t ti ht
  rw[hk]at k2
  simp only[TK.ok]at k2
  obtain ⟨e,rfl⟩:=k2
  have key:∃ p:Option Addr,a.eval x=.pointer p∧p.isNone=b:=by
   rcases hx with ⟨k,off,l,hx,hl,rfl,rfl⟩ | ⟨hx,rfl,rfl⟩
   ·have h3:=ho k y_
    rw[hl]at h3
    obtain ⟨bb,cs,T,fr,e1,_⟩:=h3
    rw[hx]at h1
    simp only[Rd,e1]at h1
    exact⟨_,h1,E⟩
   ·rw[hx]at h1
    exact⟨none,h1.val,E⟩
  obtain ⟨p,e1,e2⟩:=key
  have hrun:(Op.equal t (.pointer p) (.pointer none)).run P w=.ok b w:=by
   show (Op.equalIn (9999+1) t (.pointer p) (.pointer none)).run P w=.ok b w
   rw[T6 w 9999 k1,e2]
  refine⟨.bool (if op=.eql then b else !b),?_,by simp[Rd]⟩
  rcases hop with rfl | rfl<;>simp[execOp,h,e1,h2.val,eqGuard_at_pointer,binOp,hrun]
def fv (x:SV) (K:SV→Prop):Prop :=
 match x with
 | .val v=>(match v with
  | .int k n=>K (.val (.int k n))
  | .bool b=>K (.val (.bool b))
  | .string b=>K (.val (.string b))
  | v=>K (.val v))
 | .agg l=>K (.agg l)
 | .tup l=>K (.tup l)
 | .sl sz e l=>K (.sl sz e l)
 | .ref sz x o=>K (.ref sz x o)
 | .ptr k o=>K (.ptr k o)
 | .rpt k sz i o=>K (.rpt k sz i o)
 | .osl k=>K (.osl k)
 | .ifc t x=>K (.ifc t x)
 | .clo f g l=>K (.clo f g l)
 | .top=>K .top
theorem Y5 (x:SV) (K:SV→Prop):fv x K↔K x:=by
 unfold fv
 split<;>first | rfl | (split<;>rfl)
def fl (l:List SV) (K:List SV→Prop):Prop :=
 match l with
 | []=>K []
 | x::r=>fv x λ x'=>fl r λ r'=>K (x'::r')
theorem Mu:∀ (l:List SV) (K:List SV→Prop),fl l K↔K l
 | [],K=>Iff.rfl
 | x::r,K=>by unfold fl;rw[Y5,Mu r]
def fa (x:SV) (K:SV→Prop):Prop :=
 match x with
 | .agg l=>fl l λ l=>K (.agg l)
 | .tup l=>fl l λ l=>K (.tup l)
 | x=>fv x K
theorem Ayg (x:SV) (K:SV→Prop):fa x K↔K x:=by
 unfold fa
 split
 ·exact Mu _ _
 ·exact Mu _ _
 ·exact Y5 _ _
def I64 (x:Int):Prop:=-9223372036854775808≤x∧x≤9223372036854775807
theorem I64.wrap {x:Int} (h:I64 x):IntKind.i64.wrap x=x:=by
 obtain ⟨h1,h2⟩:=h
 rw[IntKind.wrap_i64]
 omega
def Axv (op:BinOp) (k:IntKind) (a b:Int) (K:SV→Prop) (stop:Prop):Prop :=
 match op with
 | .add=>(match k with | .i64=>I64 (a+b)∧K (.val (.int .i64 (a+b))) | k=>K (.val (.int k (k.wrap (a+b)))))
 | .sub=>(match k with | .i64=>I64 (a-b)∧K (.val (.int .i64 (a-b))) | k=>K (.val (.int k (k.wrap (a-b)))))
 | .mul=>(match k with | .i64=>I64 (a * b)∧K (.val (.int .i64 (a * b))) | k=>K (.val (.int k (k.wrap (a * b)))))
 | .quo=>b≠0∧K (.val (.int k (k.wrap (a.tdiv b))))
 | .rem=>b≠0∧K (.val (.int k (a.tmod b)))
 | .and=>K (.val (.int k (bits .and k a b)))
 | .or=>K (.val (.int k (bits .or k a b)))
 | .xor=>K (.val (.int k (bits .xor k a b)))
 | .andNot=>K (.val (.int k (bits .andNot k a b)))
 | .lss=>K (.val (.bool (decide (a<b))))
 | .leq=>K (.val (.bool (decide (a≤b))))
 | .gtr=>K (.val (.bool (decide (a>b))))
 | .geq=>K (.val (.bool (decide (a≥b))))
 | .eql=>K (.val (.bool (a == b)))
 | .neq=>K (.val (.bool (a != b)))
 | _=>stop
def Ag6 (op:BinOp) (k:IntKind) (a b:Int) (K:SV→Prop) (stop:Prop):Prop :=
 match op with
 | .shl=>0≤b∧K (.val (.int k (k.wrap (a * 2 ^ (min b.toNat k.bits)))))
 | .shr=>0≤b∧K (.val (.int k (a.fdiv (2 ^ (min b.toNat k.bits)))))
 | _=>stop
def A0l:BinOp→Bool | .shl=>true | .shr=>true | _=>false
def Av4 (op:BinOp) (a b:ByteArray) (K:SV→Prop) (stop:Prop):Prop :=
 match op with
 | .add=>a.size+b.size≤9223372036854775807∧K (.val (.string (a++b)))
 | .eql=>K (.val (.bool (a == b)))
 | .neq=>K (.val (.bool (!(a == b))))
 | .lss=>K (.val (.bool (Op.bytesLess a.toList b.toList)))
 | .gtr=>K (.val (.bool (!(Op.bytesLess a.toList b.toList || a == b))))
 | _=>stop
structure TyE (P:Program) extends Ty P where
 eqs:TypeId→Option (List EK)
 eqok:∀ t ks,eqs t=some ks→EqOK P t ks
def bnd (s:SS) (x:Option Operand) (d:Int) (K:Int→Prop) (stop:Prop):Prop :=
 match x with
 | none=>K d
 | some y=>(match ev s y with
  | .val (.int _ n)=>K n
  | _=>stop)
def Hm (b:ByteArray) (i:Nat):UInt8:=b.data.toList.getD i 0
def opW {P:Program} (Γ:TyE P) (o:Oper) (s:SS) (K:Up→Prop) (stop:Prop):Prop :=
 match o.op with
 | .move x=>fv (ev s x) λ v=>K ⟨v,[],[]⟩
 | .assign x=>fv (ev s x) λ v=>K ⟨v,[],[]⟩
 | .pick c a b=>(match ev s c with
  | .val (.bool c)=>(match c with
   | true=>fv (ev s a) λ v=>K ⟨v,[],[]⟩
   | false=>fv (ev s b) λ v=>K ⟨v,[],[]⟩)
  | _=>stop)
 | .alloc t=>(match o.dst with
  | some d=>(match s.h d with
   | .fresh=>(match Γ.get t with
    | some i=>(match Zu i.zero with
     | true=>fl (i.zero.map .val) λ l=>K ⟨.ptr d 0,[],[(d,.box l)]⟩
     | false=>stop)
    | none=>stop)
   | _=>stop)
  | none=>stop)
 | .box _ x=>(match o.dst with
  | some d=>(match s.h d with
   | .fresh=>(match (ev s x).boxed with
    | true=>fl (cellsOf (ev s x)) λ l=>K ⟨.ptr d 0,[],[(d,.box l)]⟩
    | false=>stop)
   | _=>stop)
  | none=>stop)
 | .load t x=>(match Γ.get t with
  | some i=>(match ev s x with
   | .ptr k off=>(match s.h k with
    | .box l=>(match Lu i l off with
     | some y=>fa y λ y=>K ⟨y,[k],[]⟩
     | none=>stop)
    | _=>stop)
   | .ref _ z off=>(match z.boxed with
    | true=>(match Lu i (cellsOf z) off with
     | some y=>fa y λ y=>K ⟨y,[],[]⟩
     | none=>stop)
    | false=>stop)
   | .rpt k sz n off=>(match s.h k with
    | .row sz' e l=>sz'=sz∧∃ h:n<l.length,(match (e l[n]).boxed with
     | true=>(match Lu i (cellsOf (e l[n])) off with
      | some y=>fa y λ y=>K ⟨y,[k],[]⟩
      | none=>False)
     | false=>False)
    | .lit sz' svs=>sz'=sz∧(match Hg svs n with
     | some z=>(match z.boxed with
      | true=>(match Lu i (cellsOf z) off with
       | some y=>fa y λ y=>K ⟨y,[k],[]⟩
       | none=>False)
      | false=>False)
     | none=>False)
    | _=>stop)
   | _=>stop)
  | none=>stop)
 | .store t x y=>(match Γ.get t with
  | some i=>(match ev s x with
   | .ptr k off=>(match s.h k with
    | .box l=>(match (ev s y).boxed && Nat.beq (cellsOf (ev s y)).length i.size && Nat.ble (off+i.size) l.length with
     | true=>fl (setAt l off (cellsOf (ev s y))) λ l=>K ⟨.val undef,[],[(k,.box l)]⟩
     | false=>stop)
    | _=>stop)
   | .rpt k sz n off=>(match s.h k with
    | .row (α:=α) sz' e l=>sz'=sz∧∃ (h:n<l.length) (z:α),cellsOf (e z)=setAt (cellsOf (e l[n])) off (cellsOf (ev s y)) ∧
      (((ev s y).boxed && Nat.beq (cellsOf (ev s y)).length i.size && Nat.ble (off+i.size) sz && (e l[n]).boxed && (e z).boxed && (e z).data)=true)∧K ⟨.val undef,[],[(k,.row sz' e (l.set n z))]⟩
    | _=>stop)
   | _=>stop)
  | none=>stop)
 | .fieldAddr t x f=>(match Γ.get t with
  | some i=>(match i.k with
   | .struct fs=>(match fs[f]? with
    | some (fo,fn)=>(match fn with
     | 0=>stop
     | _+1=>(match ev s x with
      | .ptr k off=>(match s.h k with
       | .box _=>K ⟨.ptr k (off+fo),[k],[]⟩
       | _=>stop)
      | .ref sz z off=>K ⟨.ref sz z (off+fo),[],[]⟩
      | .rpt k sz n off=>(match s.h k with
       | .row (α:=α) sz' e l=>l≠[]∧K ⟨.rpt k sz n (off+fo),[k],[]⟩
       | .lit _ _=>K ⟨.rpt k sz n (off+fo),[k],[]⟩
       | _=>stop)
      | _=>stop))
    | none=>stop)
   | _=>stop)
  | none=>stop)
 | .nilCheck x=>(match ev s x with
  | .ptr k off=>(match s.h k with
   | .box _=>K ⟨.ptr k off,[k],[]⟩
   | _=>stop)
  | .ref sz z off=>K ⟨.ref sz z off,[],[]⟩
  | .clo fn first cap=>(match fn with
   | .func f=>K ⟨.clo (.func f) first cap,[],[]⟩
   | _=>stop)
  | _=>stop)
 | .indexAddr t x y=>(match Γ.get t with
  | some i=>(match i.k with
   | .slice _ esz _ _=>(match ev s y with
    | .val (.int _ n)=>(match ev s x with
     | .sl sz e l=>esz=sz∧∃ (_:0≤n) (h:n.toNat<l.length),K ⟨.ref sz (e l[n.toNat]) 0,[],[]⟩
     | .osl k=>(match (s.h k).len with
      | some len=>0≤n∧n.toNat<len∧K ⟨.rpt k esz n.toNat 0,[k],[]⟩
      | none=>stop)
     | _=>stop)
    | _=>stop)
   | .array _ len esz=>(match ev s y with
    | .val (.int _ n)=>(match ev s x with
     | .ptr k off=>(match s.h k with
      | .box _=>0≤n∧n.toNat<len∧K ⟨.ptr k (off+n.toNat * esz),[k],[]⟩
      | _=>stop)
     | .ref sz z off=>0≤n∧n.toNat<len∧K ⟨.ref sz z (off+n.toNat * esz),[],[]⟩
     | _=>stop)
    | _=>stop)
   | _=>stop)
  | none=>stop)
 | .binOp op t x y _=>(match ev s x,ev s y with
  | .val (.int k a),.val (.int k' b)=>(match A0l op with
   | true=>Ag6 op k a b (λ v=>K ⟨v,[],[]⟩) stop
   | false=>if k=k' then Axv op k a b (λ v=>K ⟨v,[],[]⟩) stop else stop)
  | .val (.string a),.val (.string b)=>Av4 op a b (λ v=>K ⟨v,[],[]⟩) stop
  | .val (.bool p),.val (.bool q)=>(match Γ.get t with
   | some i=>(match i.k with
    | .bool=>(match op with
     | .eql=>K ⟨.val (.bool (p == q)),[],[]⟩
     | .neq=>K ⟨.val (.bool (p != q)),[],[]⟩
     | _=>stop)
    | _=>stop)
   | none=>stop)
  | .agg l,.agg m=>(match Γ.eqs t with
   | some ks=>(match eqS ks l m with
    | some r=>(match op with
     | .eql=>K ⟨.val (.bool r),[],[]⟩
     | .neq=>K ⟨.val (.bool (!r)),[],[]⟩
     | _=>stop)
    | none=>stop)
   | none=>stop)
  | .ptr k _,.val (.pointer none)=>(match s.h k with
   | .box _=>(match Γ.get t with
    | some i=>(match i.k with
     | .ptr=>(match op with
      | .eql=>K ⟨.val (.bool false),[k],[]⟩
      | .neq=>K ⟨.val (.bool true),[k],[]⟩
      | _=>stop)
     | _=>stop)
    | none=>stop)
   | _=>stop)
  | _,_=>stop)
 | .unOp op _ x=>(match op,ev s x with
  | .not,.val (.bool b)=>K ⟨.val (.bool (!b)),[],[]⟩
  | .neg,.val (.int k n)=>K ⟨.val (.int k (k.wrap (0-n))),[],[]⟩
  | _,_=>stop)
 | .extract x i=>(match ev s x with
  | .tup l=>(match Hg l i with
   | some y=>fa y λ y=>K ⟨y,[],[]⟩
   | none=>stop)
  | _=>stop)
 | .convert src dst x=>(match Γ.get src,Γ.get dst with
  | some si,some di=>(match di.k,ev s x with
   | .int k',.val (.int _ n)=>K ⟨.val (.int k' (k'.wrap n)),[],[]⟩
   | .string,.val (.string b)=>(match si.k with
    | .string=>K ⟨.val (.string b),[],[]⟩
    | _=>stop)
   | _,_=>stop)
  | _,_=>stop)
 | .makeInterface t x=>(match Γ.get t with
  | some i=>(match i.k with
   | .iface=>stop
   | .other=>stop
   | .array _ _ _=>stop
   | _=>fv (ev s x) λ v=>K ⟨.ifc t v,[],[]⟩)
  | none=>stop)
 | .build t ps=>(match Γ.get t with
  | some i=>(match i.k with
   | .struct fs=>(match Zu i.zero with
    | true=>(match Ada fs (i.zero.map .val) (ps.toList.map λ p=>(p.1,ev s p.2)) with
     | some out=>fl out λ out=>K ⟨.agg out,[],[]⟩
     | none=>stop)
    | false=>stop)
   | _=>stop)
  | none=>stop)
 | .buildSlice t len ps=>(match o.dst with
  | some d=>(match s.h d with
   | .fresh=>(match Γ.get t with
    | some i=>(match i.k with
     | .slice _ sz _ _=>(match Lh 0 ps.toList with
      | some xs=>(match Nat.beq xs.length len && Nat.ble (len * sz) 16777216 && Afq sz (xs.map (ev s)) with
       | true=>fl (xs.map (ev s)) λ svs=>K ⟨.osl d,[],[(d,.lit sz svs)]⟩
       | false=>stop)
      | none=>stop)
     | _=>stop)
    | none=>stop)
   | _=>stop)
  | none=>stop)
 | .index t x y=>(match Γ.get t with
  | some i=>(match i.k with
   | .string=>(match ev s x with
    | .val (.string b)=>(match ev s y with
     | .val (.int _ n)=>0≤n∧n.toNat<b.size∧K ⟨.val (.int .u8 (Hm b n.toNat).toNat),[],[]⟩
     | _=>stop)
    | _=>stop)
   | _=>stop)
  | none=>stop)
 | .slice t x lo hi mx=>(match mx with
  | none=>(match Γ.get t with
   | some i=>(match i.k with
    | .string=>(match ev s x with
     | .val (.string b)=>bnd s lo 0 (λ l=>bnd s hi b.size (λ h=>(0≤l∧l≤h∧h≤b.size)∧K ⟨.val (.string (b.extract l.toNat h.toNat)),[],[]⟩) stop) stop
     | _=>stop)
    | _=>stop)
   | none=>stop)
  | some _=>stop)
 | .makeFunc fn first cap=>fl (first.toList.map (ev s)) λ f=>fl (cap.toList.map (ev s)) λ l=>K ⟨.clo fn f l,[],[]⟩
 | .call c=>(match c.callee with
  | .builtin .len=>(match c.args.toList,c.argTypes.toList with
   | [x],t::_=>(match Γ.get t with
    | some i=>(match i.k with
     | .slice _ _ _ _=>(match ev s x with
      | .sl _ _ l=>K ⟨.val (.int .i64 l.length),[],[]⟩
      | .osl k=>(match (s.h k).len with
       | some n=>K ⟨.val (.int .i64 n),[k],[]⟩
       | none=>stop)
      | .val (.slice _ n _)=>K ⟨.val (.int .i64 n),[],[]⟩
      | _=>stop)
     | .string=>(match ev s x with
      | .val (.string b)=>K ⟨.val (.int .i64 b.size),[],[]⟩
      | _=>stop)
     | _=>stop)
    | none=>stop)
   | _,_=>stop)
  | _=>stop)
 | _=>stop
theorem Axu {P:Program} {o:Oper} {s:SS} {op:BinOp} {t yt:TypeId} {x y:Operand} {k:IntKind} {m n:Int} {K:Up→Prop} {stop:Prop} (h:o.op=.binOp op t x y yt)
  (hx:ev s x=.val (.int k m)) (hy:ev s y=.val (.int k n)) (hw:Axv op k m n (λ v=>K ⟨v,[],[]⟩) stop):(∃ U,Good P o s U∧K U)∨stop:=by
 have mk:∀ u:Value,(∀ w,(binOp op t (.int k m) (.int k n)).run P w=.ok u w)→K ⟨.val u,[],[]⟩→(∃ U,Good P o s U∧K U)∨stop:=λ u hu hk=>.inl ⟨_,Ax9 h hx hy hu,hk⟩
 unfold Axv at hw
 split at hw
 ·split at hw
  ·exact mk _ (λ w=>by simp[binOp_add,Op.intArith,hw.1.wrap]) hw.2
  ·exact mk _ (λ w=>by simp[binOp_add,Op.intArith]) hw
 ·split at hw
  ·exact mk _ (λ w=>by simp[binOp_sub,Op.intArith,hw.1.wrap]) hw.2
  ·exact mk _ (λ w=>by simp[binOp_sub,Op.intArith]) hw
 ·split at hw
  ·exact mk _ (λ w=>by simp[binOp_mul,Op.intArith,hw.1.wrap]) hw.2
  ·exact mk _ (λ w=>by simp[binOp_mul,Op.intArith]) hw
 ·exact mk _ (λ w=>by simp[binOp_quo,Op.intDiv,hw.1]) hw.2
 ·exact mk _ (λ w=>by simp[binOp_rem,Op.intDiv,hw.1]) hw.2
 ·exact mk _ (λ w=>by simp[binOp_and,intBits_and]) hw
 ·exact mk _ (λ w=>by simp[binOp_or,intBits_or]) hw
 ·exact mk _ (λ w=>by simp[binOp_xor,intBits_xor]) hw
 ·exact mk _ (λ w=>by simp[binOp_andNot,intBits_andNot]) hw
 ·exact mk _ (λ w=>by simp[binOp_lss]) hw
 ·exact mk _ (λ w=>by simp[binOp_leq]) hw
 ·exact mk _ (λ w=>by simp[binOp_gtr]) hw
 ·exact mk _ (λ w=>by simp[binOp_geq]) hw
 ·exact mk _ (λ w=>by simp[binOp_eql]) hw
 ·exact mk _ (λ w=>by simp[binOp_neq]) hw
 ·exact .inr hw
theorem Acy {P:Program} {o:Oper} {s:SS} {op:BinOp} {t yt:TypeId} {x y:Operand} {k k':IntKind} {m n:Int} {u:Value} (h:o.op=.binOp op t x y yt)
  (hx:ev s x=.val (.int k m)) (hy:ev s y=.val (.int k' n)) (hr:∀ w,(binOp op t (.int k m) (.int k' n)).run P w=.ok u w):Good P o s ⟨.val u,[],[]⟩ :=
 Good.pure λ κ a w _ hrd _=>by
  have h1:=hrd x (by simp[h,Op.operands])
  have h2:=hrd y (by simp[h,Op.operands])
  rw[hx]at h1
  rw[hy]at h2
  refine⟨u,?_,by simp[Rd]⟩
  simp[execOp,h,h1.val,h2.val,eqGuard_at_int,hr]
theorem Ans {P:Program} {o:Oper} {s:SS} {op:BinOp} {t yt:TypeId} {x y:Operand} {k k':IntKind} {m n:Int} {K:Up→Prop} {stop:Prop} (h:o.op=.binOp op t x y yt)
  (hx:ev s x=.val (.int k m)) (hy:ev s y=.val (.int k' n)) (hw:Ag6 op k m n (λ v=>K ⟨v,[],[]⟩) stop):(∃ U,Good P o s U∧K U)∨stop:=by
 unfold Ag6 at hw
 split at hw
 ·have hn:¬ n<0:=by omega
  exact .inl ⟨_,Acy (u:=.int k (k.wrap (m * 2 ^ (min n.toNat k.bits)))) h hx hy (λ w=>by simp[binOp_shl,Op.shift,hn]),hw.2⟩
 ·have hn:¬ n<0:=by omega
  exact .inl ⟨_,Acy (u:=.int k (m.fdiv (2 ^ (min n.toNat k.bits)))) h hx hy (λ w=>by simp[binOp_shr,Op.shift,hn]),hw.2⟩
 ·exact .inr hw
theorem Av3 {P:Program} {o:Oper} {s:SS} {op:BinOp} {t yt:TypeId} {x y:Operand} {m n:ByteArray} {K:Up→Prop} {stop:Prop} (h:o.op=.binOp op t x y yt)
  (hx:ev s x=.val (.string m)) (hy:ev s y=.val (.string n)) (hw:Av4 op m n (λ v=>K ⟨v,[],[]⟩) stop):(∃ U,Good P o s U∧K U)∨stop:=by
 unfold Av4 at hw
 split at hw
 ·have hn:¬ (9223372036854775807<((m.size+n.size:Nat):Int)):=by omega
  refine .inl ⟨_,Ki (u:=.string (m++n)) h y_ hx hy (λ w=>?_),hw.2⟩
  simp only[Op.stringOp,IntKind.max_i64]
  rw[zA hn]
  rfl
 ·exact .inl ⟨_,Ki (u:=.bool (m == n)) h y_ hx hy (λ w=>by simp[Op.stringOp,beq_toListBytes]),hw⟩
 ·exact .inl ⟨_,Ki (u:=.bool (!(m == n))) h y_ hx hy (λ w=>by simp[Op.stringOp,beq_toListBytes]),hw⟩
 ·exact .inl ⟨_,Ki (u:=.bool (Op.bytesLess m.toList n.toList)) h y_ hx hy (λ w=>by simp[Op.stringOp]),hw⟩
 ·exact .inl ⟨_,Ki (u:=.bool (!(Op.bytesLess m.toList n.toList || m == n))) h y_ hx hy (λ w=>by simp[Op.stringOp,beq_toListBytes]),hw⟩
 ·exact .inr hw
theorem Tf {P:Program} (Γ:Ty P) {t:TypeId} {ti:TI} {e:TypeId} {len esz:Nat} (ht:Γ.get t=some ti) (hk:ti.k=.array e len esz) :
  P.underlying t=some (.array len e)∧∃ i,P.info? e=some i∧i.size=esz:=by
 obtain ⟨d,info,z,k1,k2,k3,k4,k5,k6⟩:=Γ.ok t ti ht
 rw[hk]at k2
 simp only[TK.ok]at k2
 obtain ⟨rfl,k2⟩:=k2
 exact⟨k1,k2⟩
theorem Oq {P:Program} {t et:TypeId} {len esz:Nat} {i:TypeInfo} {ik:IntKind} {n:Int} {b o:Nat} (w:World) (hu:P.underlying t=some (.array len et)) (hq:P.info? et=some i) (hi:i.size=esz) (h0:0≤n) (hn:n.toNat<len) :
  (Instr.indexAt t (.pointer (some ⟨b,o,none⟩)) (.int ik n)).run P w=.ok (.pointer (some ⟨b,o+n.toNat * esz,none⟩)) w:=by
 have hlt:n<len:=by omega
 simp[Instr.indexAt,asIntOf,run_underlying hu,Instr.sureAddr,h0,hlt,sizeOf,typeInfo,hq,hi,Addr.add_lit]
theorem H5 {P:Program} (Γ:Ty P) {o:Oper} {s:SS} {t:TypeId} {ti:TI} {et:TypeId} {len esz k off:Nat} {x y:Operand} {ik:IntKind} {n:Int} {l:List SV}
  (h:o.op=.indexAddr t x y) (ht:Γ.get t=some ti) (hk:ti.k=.array et len esz) (hx:ev s x=.ptr k off) (hb:s.h k=.box l) (hy:ev s y=.val (.int ik n)) (h0:0≤n) (hn:n.toNat<len) :
  Good P o s ⟨.ptr k (off+n.toNat * esz),[k],[]⟩ :=
 Good.pure λ κ a w _ hr ho=>by
  have h1:=hr x (by simp[h,Op.operands])
  have h2:=hr y (by simp[h,Op.operands])
  have h3:=ho k y_
  rw[hb]at h3
  obtain ⟨b,cs,T,fr,e1,_⟩:=h3
  rw[hx]at h1
  rw[hy]at h2
  simp only[Rd,e1]at h1
  obtain ⟨hu,i,q1,q2⟩:=Tf Γ ht hk
  refine⟨.pointer (some ⟨b,off+n.toNat * esz,none⟩),?_,by simp only[Rd,e1]⟩
  simp only[execOp,h,h1,h2.val]
  simp[Oq w hu q1 q2 h0 hn]
theorem H4 {P:Program} (Γ:Ty P) {o:Oper} {s:SS} {t:TypeId} {ti:TI} {et:TypeId} {len esz sz off:Nat} {x y:Operand} {ik:IntKind} {n:Int} {z:SV}
  (h:o.op=.indexAddr t x y) (ht:Γ.get t=some ti) (hk:ti.k=.array et len esz) (hx:ev s x=.ref sz z off) (hy:ev s y=.val (.int ik n)) (h0:0≤n) (hn:n.toNat<len) :
  Good P o s ⟨.ref sz z (off+n.toNat * esz),[],[]⟩ :=
 Good.pure λ κ a w _ hr _=>by
  have h1:=hr x (by simp[h,Op.operands])
  have h2:=hr y (by simp[h,Op.operands])
  rw[hx]at h1
  rw[hy]at h2
  simp only[Rd,RdD]at h1
  obtain ⟨b,oo,u,e1,e2,e3,e4,e5⟩:=h1
  obtain ⟨hu,i,q1,q2⟩:=Tf Γ ht hk
  refine⟨.pointer (some ⟨b,oo+off+n.toNat * esz,none⟩),?_,?_⟩
  ·simp only[execOp,h,e1,h2.val]
   simp[Oq w hu q1 q2 h0 hn]
  ·simp only[Rd,RdD]
   exact⟨b,oo,u,by rw[vE],e2,e3,e4,e5⟩
theorem W9 {P:Program} (Γ:Ty P) {o:Oper} {s:SS} {t:TypeId} {ti:TI} {x y:Operand} {ik:IntKind} {n:Int} {b:ByteArray}
  (h:o.op=.index t x y) (ht:Γ.get t=some ti) (hk:ti.k=.string) (hx:ev s x=.val (.string b)) (hy:ev s y=.val (.int ik n)) (h0:0≤n) (hn:n.toNat<b.size) :
  Good P o s ⟨.val (.int .u8 (Hm b n.toNat).toNat),[],[]⟩ :=
 Good.pure λ κ a w _ hr _=>by
  have h1:=hr x (by simp[h,Op.operands])
  have h2:=hr y (by simp[h,Op.operands])
  rw[hx]at h1
  rw[hy]at h2
  obtain ⟨d,info,z,k1,k2,k3,k4,k5,k6⟩:=Γ.ok t ti ht
  rw[hk]at k2
  simp only[TK.ok]at k2
  subst k2
  have hg:b[n.toNat]? = some (Hm b n.toNat):=by
   have hn':n.toNat<b.data.toList.length:=hn
   rw[getElem?_pos b n.toNat hn]
   simp only[Hm,xX,zH hn',Option.getD_some,Option.some.injEq]
   rfl
  refine⟨.int .u8 (Hm b n.toNat).toNat,?_,by simp only[Rd]⟩
  simp[execOp,h,h1.val,h2.val,Instr.index,run_underlying k1,asIntOf,h0,hg]
def BndAt (s:SS) (x:Option Operand) (d n:Int):Prop:=(x=none∧n=d)∨∃ y k,x=some y∧ev s y=.val (.int k n)
theorem Ayx {s:SS} {x:Option Operand} {d:Int} {K:Int→Prop} {stop:Prop} (h:bnd s x d K stop):(∃ n,BndAt s x d n∧K n)∨stop:=by
 unfold bnd at h
 split at h
 ·exact .inl ⟨d,.inl ⟨E,E⟩,h⟩
 ·split at h
  ·rename_i y _ k n hy
   exact .inl ⟨n,.inr ⟨y,k,E,hy⟩,h⟩
  ·exact .inr h
theorem BndAt.is {s:SS} {x:Option Operand} {d n:Int} {m:Nat} (h:BndAt s x d n) (h0:0≤n) (hd:d.toNat=m):BoundIs s x m n.toNat:=by
 rcases h with ⟨rfl,rfl⟩ | ⟨y,k,rfl,hy⟩
 ·exact .inl ⟨E,hd⟩
 ·exact .inr ⟨y,k,E,by rw[hy,yQ h0]⟩
theorem Aw0 {P:Program} {Γ:TyE P} {o:Oper} {s:SS} {K:Up→Prop} {stop:Prop} (h:opW Γ o s K stop):(∃ U,Good P o s U∧K U)∨stop:=by
 cases hop:o.op with
 | move x =>
  simp only[opW,hop,Y5]at h
  exact .inl ⟨_,Af5 (.inl hop),h⟩
 | assign x =>
  simp only[opW,hop,Y5]at h
  exact .inl ⟨_,Af5 (.inr hop),h⟩
 | pick c a b =>
  simp only[opW,hop,Y5]at h
  split at h
  ·rename_i cc hc
   cases cc
   ·exact .inl ⟨_,Af4 hop hc,h⟩
   ·exact .inl ⟨_,Af4 hop hc,h⟩
  ·exact .inr h
 | alloc t =>
  simp only[opW,hop,Mu]at h
  split at h
  ·rename_i d hd
   split at h
   ·rename_i hf
    split at h
    ·rename_i i hi
     split at h
     ·rename_i h1
      exact .inl ⟨_,Apb Γ.toTy hop hf hi h1,h⟩
     ·exact .inr h
    ·exact .inr h
   ·exact .inr h
  ·exact .inr h
 | box t x =>
  simp only[opW,hop,Mu]at h
  split at h
  ·rename_i d hd
   split at h
   ·rename_i hf
    split at h
    ·rename_i h1
     exact .inl ⟨_,Xc hop hf h1,h⟩
    ·exact .inr h
   ·exact .inr h
  ·exact .inr h
 | load t x =>
  simp only[opW,hop,Ayg]at h
  split at h
  ·rename_i i hi
   split at h
   ·rename_i k off hx
    split at h
    ·rename_i l hk
     split at h
     ·rename_i y hy
      exact .inl ⟨_,Aes Γ.toTy hop hx hi hk hy,h⟩
     ·exact .inr h
    ·exact .inr h
   ·rename_i sz z off hx
    split at h
    ·rename_i hz
     split at h
     ·rename_i y hy
      exact .inl ⟨_,Aer Γ.toTy hop hx hi hz hy,h⟩
     ·exact .inr h
    ·exact .inr h
   ·rename_i k sz n off hx
    split at h
    ·rename_i sz' α e l hk
     obtain ⟨rfl,hn,h⟩:=h
     split at h
     ·rename_i hz
      split at h
      ·rename_i y hy
       have hne:l≠[]:=by intro he;subst he;simp at hn
       refine .inl ⟨_,Uw (n:=l.length) (f:=rowF e l) Γ.toTy hop hx hi (λ κ w ho=>?_) ⟨hn,E⟩ hz hy,h⟩
       rw[hk]at ho
       exact ho.rowAt hne
      ·exact h.elim
     ·exact h.elim
    ·rename_i sz' svs hk
     obtain ⟨rfl,h⟩:=h
     split at h
     ·rename_i z hz0
      split at h
      ·rename_i hz
       split at h
       ·rename_i y hy
        refine .inl ⟨_,Uw (n:=svs.length) (f:=Aek svs) Γ.toTy hop hx hi (λ κ w ho=>?_) hz0 hz hy,h⟩
        rw[hk]at ho
        exact ho
       ·exact h.elim
      ·exact h.elim
     ·exact h.elim
    ·exact .inr h
   ·exact .inr h
  ·exact .inr h
 | store t x y =>
  simp only[opW,hop,Mu]at h
  split at h
  ·rename_i i hi
   split at h
   ·rename_i k off hx
    split at h
    ·rename_i l hk
     split at h
     ·rename_i hc
      simp only[zB]at hc
      exact .inl ⟨_,S2 Γ.toTy hop hx hi hk hc.1.1 (yC hc.1.2) (xH hc.2),h⟩
     ·exact .inr h
    ·exact .inr h
   ·rename_i k sz n off hx
    split at h
    ·rename_i sz' α e l hk
     obtain ⟨rfl,hn,z,hz,hc,h⟩:=h
     simp only[zB]at hc
     obtain ⟨⟨⟨⟨⟨c1,c2⟩,c3⟩,c4⟩,c5⟩,c6⟩:=hc
     exact .inl ⟨_,S1 Γ.toTy hop hx hi hk c1 (yC c2) (xH c3) hn hz c4 c5 c6,h⟩
    ·exact .inr h
   ·exact .inr h
  ·exact .inr h
 | fieldAddr t x f =>
  simp only[opW,hop]at h
  split at h
  ·rename_i i hi
   split at h
   ·rename_i fs hk
    split at h
    ·rename_i fo fn hf
     split at h
     ·exact .inr h
     ·rename_i fn'
      split at h
      ·rename_i k off hx
       split at h
       ·rename_i l hb
        exact .inl ⟨_,Jl Γ.toTy hop hi hk hf q_ (.inl ⟨k,off,l,hx,hb,E,E⟩),h⟩
       ·exact .inr h
      ·rename_i sz z off hx
       exact .inl ⟨_,Jl Γ.toTy hop hi hk hf q_ (.inr (.inl ⟨sz,z,off,hx,E,E⟩)),h⟩
      ·rename_i k sz n off hx
       split at h
       ·rename_i sz' α e l hb
        obtain ⟨hne,h⟩:=h
        refine .inl ⟨_,Jl Γ.toTy hop hi hk hf q_ (.inr (.inr ⟨k,sz,n,off,hx,λ κ w ho=>?_,E,E⟩)),h⟩
        rw[hb]at ho
        obtain ⟨b,cap,_,_,_,e1,_⟩:=ho.rowAt hne
        exact⟨b,_,cap,e1⟩
       ·rename_i sz' svs hb
        refine .inl ⟨_,Jl Γ.toTy hop hi hk hf q_ (.inr (.inr ⟨k,sz,n,off,hx,λ κ w ho=>?_,E,E⟩)),h⟩
        rw[hb]at ho
        obtain ⟨b,cap,_,_,_,e1,_⟩:=ho
        exact⟨b,_,cap,e1⟩
       ·exact .inr h
      ·exact .inr h
    ·exact .inr h
   ·exact .inr h
  ·exact .inr h
 | nilCheck x =>
  simp only[opW,hop]at h
  split at h
  ·rename_i k off hx
   split at h
   ·rename_i l hb
    have:=Cu (P:=P) (rd:=[k]) hop (.inl ⟨k,off,l,hx,hb,rfl⟩)
    rw[hx]at this
    exact .inl ⟨_,this,h⟩
   ·exact .inr h
  ·rename_i sz z off hx
   have:=Cu (P:=P) (rd:=[]) hop (.inr (.inl ⟨sz,z,off,hx,rfl⟩))
   rw[hx]at this
   exact .inl ⟨_,this,h⟩
  ·rename_i fn first cap hx
   split at h
   ·rename_i f
    have:=Cu (P:=P) (rd:=[]) hop (.inr (.inr (.inl ⟨f,first,cap,hx,rfl⟩)))
    rw[hx]at this
    exact .inl ⟨_,this,h⟩
   ·exact .inr h
  ·exact .inr h
 | indexAddr t x y =>
  simp only[opW,hop]at h
  split at h
  ·rename_i i hi
   split at h
   ·rename_i et esz eb ez hk
    split at h
    ·rename_i ik n hy
     split at h
     ·rename_i sz α e l hx
      obtain ⟨rfl,h0,hn,h⟩:=h
      exact .inl ⟨_,Jk Γ.toTy hop hi hk hx hy h0 hn,h⟩
     ·rename_i k hx
      split at h
      ·rename_i len hl
       exact .inl ⟨_,Io Γ.toTy hop hi hk hx hl hy h.1 h.2.1,h.2.2⟩
      ·exact .inr h
     ·exact .inr h
    ·exact .inr h
   ·rename_i et len esz hk
    split at h
    ·rename_i ik n hy
     split at h
     ·rename_i k off hx
      split at h
      ·rename_i l hl
       exact .inl ⟨_,H5 Γ.toTy hop hi hk hx hl hy h.1 h.2.1,h.2.2⟩
      ·exact .inr h
     ·rename_i sz z off hx
      exact .inl ⟨_,H4 Γ.toTy hop hi hk hx hy h.1 h.2.1,h.2.2⟩
     ·exact .inr h
    ·exact .inr h
   ·exact .inr h
  ·exact .inr h
 | binOp op t x y yt =>
  simp only[opW,hop]at h
  split at h
  ·rename_i k a k' b hx hy
   split at h
   ·exact Ans hop hx hy h
   ·split at h
    ·rename_i hkk
     subst hkk
     exact Axu hop hx hy h
    ·exact .inr h
  ·rename_i a b hx hy
   exact Av3 hop hx hy h
  ·rename_i p q hx hy
   split at h
   ·rename_i i hi
    split at h
    ·rename_i hk
     split at h
     ·exact .inl ⟨_,Xa Γ.toTy hop (.inl E) hi hk hx hy,h⟩
     ·exact .inl ⟨_,Xa Γ.toTy hop (.inr E) hi hk hx hy,h⟩
     ·exact .inr h
    ·exact .inr h
   ·exact .inr h
  ·rename_i l m hx hy
   split at h
   ·rename_i ks hks
    split at h
    ·rename_i r hr
     split at h
     ·exact .inl ⟨_,Z2 hop (.inl E) (Γ.eqok t ks hks) hx hy hr,h⟩
     ·exact .inl ⟨_,Z2 hop (.inr E) (Γ.eqok t ks hks) hx hy hr,h⟩
     ·exact .inr h
    ·exact .inr h
   ·exact .inr h
  ·rename_i k off hx hy
   split at h
   ·rename_i l hb
    split at h
    ·rename_i i hi
     split at h
     ·rename_i hk
      split at h
      ·exact .inl ⟨_,Z1 Γ.toTy hop (.inl E) hi hk hy (.inl ⟨k,off,l,hx,hb,E,E⟩),h⟩
      ·exact .inl ⟨_,Z1 Γ.toTy hop (.inr E) hi hk hy (.inl ⟨k,off,l,hx,hb,E,E⟩),h⟩
      ·exact .inr h
     ·exact .inr h
    ·exact .inr h
   ·exact .inr h
  ·exact .inr h
 | unOp op t x =>
  simp only[opW,hop]at h
  split at h
  ·rename_i b hx
   exact .inl ⟨_,Ax6 hop hx,h⟩
  ·rename_i k n hx
   exact .inl ⟨_,Ax7 hop hx,h⟩
  ·exact .inr h
 | extract x i =>
  simp only[opW,hop,Ayg]at h
  split at h
  ·rename_i l hx
   split at h
   ·rename_i y hy
    exact .inl ⟨_,Ah5 hop hx hy,h⟩
   ·exact .inr h
  ·exact .inr h
 | convert src dst x =>
  simp only[opW,hop]at h
  split at h
  ·rename_i si di hs hd
   split at h
   ·rename_i k' k n hk hx
    exact .inl ⟨_,Y3 Γ.toTy hop hs hd hk hx,h⟩
   ·rename_i b hk hx
    split at h
    ·rename_i hk'
     exact .inl ⟨_,T8 Γ.toTy hop hs hd hk' hk hx,h⟩
    ·exact .inr h
   ·exact .inr h
  ·exact .inr h
 | makeInterface t x =>
  simp only[opW,hop,Y5]at h
  split at h
  ·rename_i i hi
   split at h
   ·exact .inr h
   ·exact .inr h
   ·exact .inr h
   ·rename_i h1 h2 h3
    refine .inl ⟨_,Vp Γ.toTy hop hi ?_,h⟩
    cases hk:i.k<;>first | rfl | (exact zW hk h1) | (exact zW hk h2) | (exact zW hk (h3 _ _ _))
  ·exact .inr h
 | build t ps =>
  simp only[opW,hop,Mu]at h
  split at h
  ·rename_i i hi
   split at h
   ·rename_i fs hk
    split at h
    ·rename_i h1
     split at h
     ·rename_i out hout
      exact .inl ⟨_,Apa (ps:=ps.toList) Γ.toTy (by rw[hop]) hi hk h1 hout,h⟩
     ·exact .inr h
    ·exact .inr h
   ·exact .inr h
  ·exact .inr h
 | buildSlice t len ps =>
  simp only[opW,hop,Mu]at h
  split at h
  ·rename_i d hd
   split at h
   ·rename_i hf
    split at h
    ·rename_i i hi
     split at h
     ·rename_i et sz eb ez hk
      split at h
      ·rename_i xs hxs
       split at h
       ·rename_i hc
        simp only[zB]at hc
        exact .inl ⟨_,Aas (ps:=ps.toList) Γ.toTy (by rw[hop]) hf hi hk hxs (yC hc.1.1) (xH hc.1.2) hc.2,h⟩
       ·exact .inr h
      ·exact .inr h
     ·exact .inr h
    ·exact .inr h
   ·exact .inr h
  ·exact .inr h
 | index t x y =>
  simp only[opW,hop]at h
  split at h
  ·rename_i i hi
   split at h
   ·rename_i hk
    split at h
    ·rename_i b hx
     split at h
     ·rename_i ik n hy
      exact .inl ⟨_,W9 Γ.toTy hop hi hk hx hy h.1 h.2.1,h.2.2⟩
     ·exact .inr h
    ·exact .inr h
   ·exact .inr h
  ·exact .inr h
 | slice t x lo hi mx =>
  simp only[opW,hop]at h
  split at h
  ·split at h
   ·rename_i i hi'
    split at h
    ·rename_i hk
     split at h
     ·rename_i b hx
      rcases Ayx h with ⟨l,hl,h⟩ | h
      ·rcases Ayx h with ⟨r,hr,h⟩ | h
       ·obtain ⟨⟨a1,a2,a3⟩,h⟩:=h
        exact .inl ⟨_,W6 (lo:=l.toNat) (hi:=r.toNat) Γ.toTy hop hi' hk hx (hl.is a1 E) (hr.is q_ y_) q_ q_,h⟩
       ·exact .inr h
      ·exact .inr h
     ·exact .inr h
    ·exact .inr h
   ·exact .inr h
  ·exact .inr h
 | makeFunc fn first cap =>
  simp only[opW,hop,Mu]at h
  exact .inl ⟨_,Aeq (ys:=first.toList) (xs:=cap.toList) (by rw[hop]),h⟩
 | call c =>
  simp only[opW,hop]at h
  split at h
  ·rename_i hcal
   split at h
   ·rename_i x t r hargs hats
    have hc:c=⟨.builtin .len,#[x],c.argTypes⟩:=by
     obtain ⟨a,b,d⟩:=c
     simp only at hcal hargs ⊢
     have:b=#[x]:=by
      apply Array.ext'
      simpa using hargs
     rw[hcal,this]
    rw[hc]at hop
    have hat:c.argTypes[0]? = some t:=by
     rw[← vA,hats];rfl
    split at h
    ·rename_i i hi
     split at h
     ·rename_i et sz eb ez hk
      split at h
      ·rename_i z α e l hx
       exact .inl ⟨_,Acz Γ.toTy hop hat hi hk (.inl ⟨z,α,e,l,hx,E,E⟩),h⟩
      ·rename_i k hx
       split at h
       ·rename_i n hn
        exact .inl ⟨_,Acz Γ.toTy hop hat hi hk (.inr (.inl ⟨k,hx,hn,E⟩)),h⟩
       ·exact .inr h
      ·rename_i a n cap hx
       exact .inl ⟨_,Acz Γ.toTy hop hat hi hk (.inr (.inr ⟨a,cap,hx,E⟩)),h⟩
      ·exact .inr h
     ·rename_i hk
      split at h
      ·rename_i b hx
       exact .inl ⟨_,Aar Γ.toTy hop hat hi hk hx,h⟩
      ·exact .inr h
     ·exact .inr h
    ·exact .inr h
   ·exact .inr h
  ·exact .inr h
 | _=>simp only[opW,hop]at h;exact .inr h
theorem Az7 {P:Program} {Γ:TyE P} {o:Oper} {s:SS} {K:Up→Prop} {stop:Prop} (h:opW Γ o s K stop):(∃ U,GoodX P o s U∧K U)∨stop:=by
 have hgen:(Iy o || Ms o)=false→(∃ U,GoodX P o s U∧K U)∨stop:=λ hn=>by
  rcases Aw0 h with ⟨U,hU,hk⟩ | h
  ·exact .inl ⟨U,.of hU hn,hk⟩
  ·exact .inr h
 cases hop:o.op with
 | indexAddr t x y =>
  have hst:Ms o=false:=by simp[Ms,hop]
  have hops:x∈o.op.operands∧y∈o.op.operands:=by simp[hop,Op.operands]
  simp only[opW,hop]at h
  split at h
  ·rename_i i hi
   split at h
   ·rename_i et esz eb ez hk
    split at h
    ·rename_i ik n hy
     split at h
     ·rename_i sz α e l hx
      obtain ⟨rfl,h0,hn,h⟩:=h
      exact .inl ⟨_,⟨(Jk Γ.toTy hop hi hk hx hy h0 hn).two,λ _=>⟨rfl,λ s' h1 h2=>Jk Γ.toTy hop hi hk ((h1 x hops.1).trans hx) ((h1 y hops.2).trans hy) h0 hn⟩,λ hc=>(by rw[hst]at hc;cases hc)⟩,h⟩
     ·rename_i k hx
      split at h
      ·rename_i len hl
       exact .inl ⟨_,⟨(Io Γ.toTy hop hi hk hx hl hy h.1 h.2.1).two,λ _=>⟨rfl,λ s' h1 h2=>Io Γ.toTy hop hi hk ((h1 x hops.1).trans hx) (Ob.shp_len (h2 k y_) hl) ((h1 y hops.2).trans hy) h.1 h.2.1⟩,λ hc=>(by rw[hst]at hc;cases hc)⟩,h.2.2⟩
      ·exact .inr h
     ·exact .inr h
    ·exact .inr h
   ·rename_i et len esz hk
    split at h
    ·rename_i ik n hy
     split at h
     ·rename_i k off hx
      split at h
      ·rename_i l hl
       exact .inl ⟨_,⟨(H5 Γ.toTy hop hi hk hx hl hy h.1 h.2.1).two,λ _=>⟨rfl,λ s' h1 h2=>(Ob.shp_box ((h2 k y_).trans (zD Ob.shp hl))).elim λ m hm=>H5 Γ.toTy hop hi hk ((h1 x hops.1).trans hx) hm ((h1 y hops.2).trans hy) h.1 h.2.1⟩,λ hc=>(by rw[hst]at hc;cases hc)⟩,h.2.2⟩
      ·exact .inr h
     ·rename_i sz z off hx
      exact .inl ⟨_,⟨(H4 Γ.toTy hop hi hk hx hy h.1 h.2.1).two,λ _=>⟨rfl,λ s' h1 h2=>H4 Γ.toTy hop hi hk ((h1 x hops.1).trans hx) ((h1 y hops.2).trans hy) h.1 h.2.1⟩,λ hc=>(by rw[hst]at hc;cases hc)⟩,h.2.2⟩
     ·exact .inr h
    ·exact .inr h
   ·exact .inr h
  ·exact .inr h
 | store t x y =>
  have hidx:Iy o=false:=by simp[Iy,hop]
  simp only[opW,hop,Mu]at h
  split at h
  ·rename_i i hi
   split at h
   ·rename_i k off hx
    split at h
    ·rename_i l hk
     split at h
     ·rename_i hc
      simp only[zB]at hc
      exact .inl ⟨_,⟨(S2 Γ.toTy hop hx hi hk hc.1.1 (yC hc.1.2) (xH hc.2)).two,λ hc=>(by rw[hidx]at hc;cases hc),λ _ p hp=>by
       simp only[zX]at hp
       subst hp
       show (Ob.box _).shp=(s.h k).shp
       rw[hk];rfl⟩,h⟩
     ·exact .inr h
    ·exact .inr h
   ·rename_i k sz n off hx
    split at h
    ·rename_i sz' α e l hk
     obtain ⟨rfl,hn,z,hz,hc,h⟩:=h
     simp only[zB]at hc
     obtain ⟨⟨⟨⟨⟨c1,c2⟩,c3⟩,c4⟩,c5⟩,c6⟩:=hc
     exact .inl ⟨_,⟨(S1 Γ.toTy hop hx hi hk c1 (yC c2) (xH c3) hn hz c4 c5 c6).two,λ hc=>(by rw[hidx]at hc;cases hc),λ _ p hp=>by
      simp only[zX]at hp
      subst hp
      show (Ob.row _ _ _).shp=(s.h k).shp
      rw[hk]
      simp[Ob.shp]⟩,h⟩
    ·exact .inr h
   ·exact .inr h
  ·exact .inr h
 | _=>exact hgen (by simp[Iy,Ms,hop])
def Acw (idx:Nat):List Oper→Bool
 | []=>false
 | o::r=>(match o.guard with
  | some (j,_)=>Nat.beq j idx
  | none=>false) || Acw idx r
def A0u (isg:Bool) (U:Up) (K K':Up→Prop):Prop :=
 match isg with
 | false=>K U
 | true=>(match U.v with
  | .val (.bool b)=>(b=true→K' ⟨.val (.bool true),U.rd,U.objs⟩)∧(b=false→K' ⟨.val (.bool false),U.rd,U.objs⟩)
  | _=>K U)
theorem Arl {X:Up→Prop} {isg:Bool} {U:Up} {K K':Up→Prop} (hK:∀ U,K U→K' U) (hg:X U) (h:A0u isg U K K'):∃ U',X U'∧K' U':=by
 unfold A0u at h
 split at h
 ·exact⟨U,hg,hK _ h⟩
 ·split at h
  ·rename_i b hb
   obtain ⟨v,rd,objs⟩:=U
   simp only at hb
   subst hb
   cases b
   ·exact⟨_,hg,h.2 E⟩
   ·exact⟨_,hg,h.1 E⟩
  ·exact⟨U,hg,hK _ h⟩
def Ej (n:Nat) (all:Array Oper) (o:Oper) (s:SS):Option Bool :=
 match o.guard with
 | none=>some true
 | some (j,want)=>(match (all[j]?).bind (·.dst) with
  | some d=>(match Nat.blt d n with
   | true=>(match s.σ d with
    | .val (.bool c)=>(match c with
     | true=>some want
     | false=>(match want with | true=>some false | false=>some true))
    | .val (.tuple a)=>(match a.toList with | []=>some false | _=>none)
    | _=>none)
   | false=>none)
  | none=>none)
theorem Hf {n:Nat} {all:Array Oper} {o:Oper} {s:SS} {b:Bool} (h:Ej n all o s=some b):V3 all s o.guard b∧∀ j want,o.guard=some (j,want)→∀ d,((all[j]?).bind (·.dst))=some d→d<n:=by
 unfold Ej at h
 cases hg:o.guard with
 | none =>
  rw[hg]at h
  simp only[Option.some.injEq]at h
  exact⟨h.symm,λ j want hh=>by cases hh⟩
 | some p =>
  obtain ⟨j,want⟩:=p
  rw[hg]at h
  simp only at h
  split at h
  ·rename_i d hd
   split at h
   ·rename_i hlt
    refine⟨⟨d,hd,?_⟩,λ j' want' hh d' hd'=>?_⟩
    ·split at h
     ·rename_i c hc
      left
      refine⟨c,hc,?_⟩
      cases c
      ·cases want<;>simp_all
      ·simp_all
     ·rename_i a ha
      split at h
      ·rename_i he
       right
       have:a=#[]:=by simpa using he
       subst this
       simp only[Option.some.injEq]at h
       exact⟨ha,h.symm⟩
      ·cases h
     ·cases h
    ·simp only[Option.some.injEq,Prod.mk.injEq]at hh
     obtain ⟨rfl,rfl⟩:=hh
     rw[hd]at hd'
     simp only[Option.some.injEq]at hd'
     subst hd'
     exact xH hlt
   ·cases h
  ·cases h
def S9 (n:Nat) (o:Oper):Bool:=match o.dst with | some d=>Nat.blt d n | none=>true
mutual
def Mv (C:Cx) (Γ:TyE C.P):Nat→List KI→SS→Prop
 | 0,k,s=>G C k s
 | n+1,k,s=>(match k with
  | []=>G C [] s
  | .blk _::k=>Mv C Γ n k s
  | .inv I::k=>G C (.inv I::k) s
  | .scp::k=>Mv C Γ n k s
  | .ops _ []::k=>Mv C Γ n k s
  | .ops all (o::rest)::k=>(match S9 C.n o with
   | true=>(match Ej C.n all o s with
    | some true=>opW Γ o s (λ U=>A0u (Acw (all.size-rest.length-1) rest) U (λ U=>Mv C Γ n (.ops all rest::k) (s.upd o.dst U)) (λ U=>G C (.ops all rest::k) (s.upd o.dst U))) (G C (.ops all (o::rest)::k) s)
    | some false=>Mv C Γ n (.ops all rest::k) (s.upd o.dst ⟨.val undef,[],[]⟩)
    | none=>G C (.ops all (o::rest)::k) s)
   | false=>G C (.ops all (o::rest)::k) s)
  | .code c::k=>(match c with
   | .skip=>Mv C Γ n k s
   | .seq x y=>Mv C Γ n (.code x::.code y::k) s
   | .block id c=>Mv C Γ n (.code c::.blk id::k) s
   | .scope c=>Mv C Γ n (.code c::.scp::k) s
   | .label _=>Mv C Γ n k s
   | .region id ops draw=>(match draw with
    | false=>Mv C Γ n (.ops ops ops.toList::k) s
    | true=>(match App C.n ops.toList with
     | true=>Xk C Γ n k ops [] ops.toList s
     | false=>G C (.code (.region id ops true)::k) s))
   | .cond c x y=>(match ev s c with
    | .val (.bool b)=>(b=true→G C (.code x::k) s)∧(b=false→G C (.code y::k) s)
    | _=>G C (.code (.cond c x y)::k) s)
   | .exit id=>(match Uz id k with
    | some k'=>Mv C Γ n k' s
    | none=>G C (.code (.exit id)::k) s)
   | c=>G C (.code c::k) s))
def Xk (C:Cx) (Γ:TyE C.P):Nat→List KI→Array Oper→List Stp→List Oper→SS→Prop
 | 0,k,all,done,rest,s=>DR C k all done rest s
 | n+1,k,all,done,rest,s=>(match rest with
  | []=>Aig all done=true∧Mv C Γ n k s
  | o::rest=>(match Ej C.n all o s with
   | some true=>opW Γ o s (λ U=>A0u (Acw (all.size-rest.length-1) rest) U (λ U=>Xk C Γ n k all (done++[⟨done.length,o,U,true⟩]) rest (s.upd o.dst U)) (λ U=>DR C k all (done++[⟨done.length,o,U,true⟩]) rest (s.upd o.dst U))) (DR C k all done (o::rest) s)
   | some false=>Xk C Γ n k all (done++[⟨done.length,o,⟨.val undef,[],[]⟩,false⟩]) rest (s.upd o.dst ⟨.val undef,[],[]⟩)
   | none=>DR C k all done (o::rest) s))
end
theorem Adg {n:Nat} {o:Oper} (h:S9 n o=true):∀ d,o.dst=some d→d<n:=λ d hd=>by
 unfold S9 at h
 rw[hd]at h
 exact xH h
theorem Ay0 {all:Array Oper} {done:List Stp} {o:Oper} {rest:List Oper} (h:all.toList=done.map (·.o)++o::rest):all[done.length]? = some o:=by
 rw[← vA,h,xW y_]
 simp
theorem Arm {C:Cx} {Γ:TyE C.P} (hm:C.P.follows .mixedOrders=true):∀ n,(∀ k s,Mv C Γ n k s→G C k s)∧(∀ k all done rest s,all.toList=done.map (·.o)++rest→Xk C Γ n k all done rest s→DR C k all done rest s):=by
 intro n
 induction n with
 | zero=>exact⟨λ k s h=>(by simpa only [Mv] using h),λ k all done rest s _ h=>(by simpa only [Xk] using h)⟩
 | succ n ih =>
  obtain ⟨ih1,ih2⟩:=ih
  constructor
  ·intro k s h
   simp only[Mv]at h
   split at h
   ·exact h
   ·exact G_blk (ih1 _ _ h)
   ·exact h
   ·exact G_scp (ih1 _ _ h)
   ·exact Avd (ih1 _ _ h)
   ·rename_i all o rest k'
    split at h
    ·rename_i hd
     have hd':=Adg hd
     split at h
     ·rename_i hg
      obtain ⟨w1,w2⟩:=Hf hg
      rcases Aw0 h with ⟨U,hU,hk⟩ | h
      ·obtain ⟨U',hU',hk'⟩:=Arl (X:=Good C.P o s) (λ U hu=>ih1 _ _ hu) hU hk
       exact G_op hU' (λ κ a w hs=>V2 hs w2 w1) hd' hk'
      ·exact h
     ·rename_i hg
      obtain ⟨w1,w2⟩:=Hf hg
      exact Ave (λ κ a w hs=>V2 hs w2 w1) hd' (ih1 _ _ h)
     ·exact h
    ·exact h
   ·rename_i c k'
    split at h
    ·exact G_skip (ih1 _ _ h)
    ·exact G_seq (ih1 _ _ h)
    ·exact A1i (ih1 _ _ h)
    ·exact A1g (ih1 _ _ h)
    ·exact A1h (ih1 _ _ h)
    ·split at h
     ·exact Aza (ih1 _ _ h)
     ·split at h
      ·rename_i hd
       exact G_draw hm hd (ih2 _ _ _ _ _ y_ h)
      ·exact h
    ·split at h
     ·rename_i b hc
      exact G_cond hc h.1 h.2
     ·exact h
    ·split at h
     ·rename_i hx
      exact G_exit hx (ih1 _ _ h)
     ·exact h
    ·exact h
  ·intro k all done rest s hsplit h
   simp only[Xk]at h
   split at h
   ·exact DR_nil h.1 (ih1 _ _ h.2)
   ·rename_i o rest
    have hi:=Ay0 hsplit
    split at h
    ·rename_i hg
     obtain ⟨w1,w2⟩:=Hf hg
     rcases Az7 h with ⟨U,hU,hk⟩ | h
     ·obtain ⟨U',hU',hk'⟩:=Arl (X:=GoodX C.P o s) (λ U hu=>ih2 _ _ _ _ _ (by simp[hsplit]) hu) hU hk
      exact Azb U' hU' hi w1 hk'
     ·exact h
    ·rename_i hg
     obtain ⟨w1,w2⟩:=Hf hg
     exact A1j hi w1 (ih2 _ _ _ _ _ (by simp[hsplit]) h)
    ·exact h
theorem aF {p q:Prop} (h:q):(false=true→p)∧(false=false→q):=⟨λ e=>(uP e).elim,λ _=>h⟩
theorem aT {p q:Prop} (h:p):(true=true→p)∧(true=false→q):=⟨λ _=>h,λ e=>(uP e.symm).elim⟩
theorem run {C:Cx} {k:List KI} {s:SS} (Γ:TyE C.P) (hm:C.P.follows .mixedOrders=true) (n:Nat) (h:Mv C Γ n k s):G C k s:=(Arm hm n).1 k s h
theorem runD {C:Cx} {k:List KI} {s:SS} {all:Array Oper} {done:List Stp} {rest:List Oper} (Γ:TyE C.P) (hm:C.P.follows .mixedOrders=true) (n:Nat) (hs:all.toList=done.map (·.o)++rest) (h:Xk C Γ n k all done rest s):DR C k all done rest s :=
 (Arm hm n).2 k all done rest s hs h
theorem rG {C:Cx} {k:List KI} {s:SS} (Γ:TyE C.P) (hm:C.P.follows .mixedOrders=true) (h:Mv C Γ 400 k s):G C k s:=run Γ hm 400 h
theorem rD {C:Cx} {k:List KI} {s:SS} {all:Array Oper} {done:List Stp} {rest:List Oper} (Γ:TyE C.P) (hm:C.P.follows .mixedOrders=true) (hs:all.toList=done.map (·.o)++rest) (h:Xk C Γ 400 k all done rest s):DR C k all done rest s:=runD Γ hm 400 hs h
theorem Ag {C:Cx} {k:List KI} {s:SS} {all:Array Oper} {o:Oper} {rest:List Oper} {U:Up} (hg:Good C.P o s U) (hd:S9 C.n o=true) (hw:Ej C.n all o s=some true) (h:G C (.ops all rest::k) (s.upd o.dst U)):G C (.ops all (o::rest)::k) s :=
 G_op hg (λ _ _ _ hs=>V2 hs (Hf hw).2 (Hf hw).1) (Adg hd) h
theorem Bs {C:Cx} {k:List KI} {s:SS} {all:Array Oper} {done:List Stp} {o:Oper} {rest:List Oper} {U:Up} (hg:Good C.P o s U) (hi:all[done.length]? = some o) (hw:Ej C.n all o s=some true)
  (h:DR C k all (done++[⟨done.length,o,U,true⟩]) rest (s.upd o.dst U)) (hn:(Iy o || Ms o)=false:=by rfl):DR C k all done (o::rest) s:=Azb U (.of hg hn) hi (Hf hw).1 h
theorem done {P:Program} {fn:Func} {F:Fr} {R:SV} {H':Obs} {Γ:Ty P} {n:Nat} {bn:List Nat} {hbn:∀ k,F.k0 k≠.new→k∈bn} {k:List KI} {s:SS} {rs:List ResultVar} (hf:fn.results=rs.toArray) {xs:List SV} (hx:ResVs Γ.get s rs xs)
  (ρ:List (Nat × Nat)) (L:Obs) (hL:∀ p∈H',p∈L) (hR:R.ren (A2 ρ)=Ama xs) (hRn:R.inn L.keys=true) (hsub:Sub ⟨P,Γ,F,n,Aay P fn F R H',bn,hbn⟩ s ρ [] L):G ⟨P,Γ,F,n,Aay P fn F R H',bn,hbn⟩ (.code .ret::k) s :=
 G_ret λ _ _ _ hs=>(Aqz hf hx ρ L hL hR hRn hsub hs).1
theorem A4 {P:Program} {fn:Func} {F:Fr} {R:SV} {H':Obs} {Γ:Ty P} {n:Nat} {bn:List Nat} {hbn:∀ k,F.k0 k≠.new→k∈bn} {s:SS} {rs:List ResultVar} (hf:fn.results=rs.toArray) {xs:List SV} (hx:ResVs Γ.get s rs xs)
  (ρ:List (Nat × Nat)) (L:Obs) (hL:∀ p∈H',p∈L) (hR:R.ren (A2 ρ)=Ama xs) (hRn:R.inn L.keys=true) (hsub:Sub ⟨P,Γ,F,n,Aay P fn F R H',bn,hbn⟩ s ρ [] L):G ⟨P,Γ,F,n,Aay P fn F R H',bn,hbn⟩ [] s :=
 G_nil λ _ _ _ hs=>(Aqz hf hx ρ L hL hR hRn hsub hs).2
theorem Ap {P:Program} {fn:Func} {F:Fr} {R:SV} {Γ:Ty P} {n:Nat} {hbn:∀ k,F.k0 k≠.new→k∈[]} {k:List KI} {s:SS} {rs:List ResultVar} (hf:fn.results=rs.toArray) {xs:List SV} (hx:ResVs Γ.get s rs xs)
  (hR:R=Ama xs) (hRn:R.inn []=true):G ⟨P,Γ,F,n,Aay P fn F R [],[],hbn⟩ (.code .ret::k) s:=by
 have hid:∀ x:SV,x.ren (A2 [])=x:=λ x=>A9 x
 exact done hf hx [] [] (λ _ h=>h) (by rw[hid];exact hR) hRn ⟨Y,Y,E,E⟩
def fieldsOf (P:Program):List Field→Option (List (Nat × Nat))
 | []=>some []
 | f::fs=>match P.info? f.type,fieldsOf P fs with
  | some i,some r=>some ((f.offset,i.size)::r)
  | _,_=>none
theorem Z6 {P:Program}:∀ {fs:List Field} {r:List (Nat × Nat)},fieldsOf P fs=some r→E9 P fs r
 | [],r,h=>by simp only[fieldsOf,Option.some.injEq]at h;subst h;trivial
 | f::fs,r,h=>by
  simp only[fieldsOf]at h
  split at h
  ·rename_i i q hi hq
   simp only[Option.some.injEq]at h
   subst h
   exact⟨E,by rw[hi];rfl,Z6 hq⟩
  ·cases h
def tkOf (P:Program) (d:TypeDesc):Option TK :=
 match d with
 | .bool=>some .bool
 | .int k=>some (.int k)
 | .string=>some .string
 | .slice e=>(match P.info? e with
  | some i=>(match i.zero with
   | some z=>some (.slice e i.size i.bytes z.cells.toList)
   | none=>none)
  | none=>none)
 | .struct fs=>(match fieldsOf P fs.toList with
  | some r=>some (.struct r)
  | none=>none)
 | .array len e=>(match P.info? e with
  | some i=>some (.array e len i.size)
  | none=>none)
 | .pointer _=>some .ptr
 | .interface _=>some .iface
 | .func _ _ _=>some .func
 | _=>none
theorem Azn {P:Program} {d:TypeDesc} {k:TK} (h:tkOf P d=some k):TK.ok P d k:=by
 unfold tkOf at h
 split at h
 ·cases h;rfl
 ·cases h;rfl
 ·cases h;rfl
 ·split at h
  ·rename_i i hi
   split at h
   ·rename_i z hz
    cases h
    exact⟨E,i,z,hi,E,E,hz,E⟩
   ·cases h
  ·cases h
 ·split at h
  ·rename_i r hr
   cases h
   exact⟨_,E,Z6 hr⟩
  ·cases h
 ·split at h
  ·rename_i i hi
   cases h
   exact⟨E,i,hi,E⟩
  ·cases h
 ·cases h;exact⟨_,rfl⟩
 ·cases h;exact⟨_,rfl⟩
 ·cases h;exact⟨_,_,_,rfl⟩
 ·cases h
def Ba (P:Program) (t:TypeId):Option TI :=
 match P.underlying t,P.info? t with
 | some d,some info=>(match tkOf P d,info.zero with
  | some k,some z=>some ⟨k,info.size,z.cells.toList⟩
  | _,_=>none)
 | _,_=>none
theorem Azo {P:Program} {t:TypeId} {i:TI} (h:Ba P t=some i):i.ok P t:=by
 unfold Ba at h
 split at h
 ·rename_i d info hd hi
  split at h
  ·rename_i k z hk hz
   cases h
   exact⟨d,info,z,hd,Azn hk,hi,E,hz,E⟩
  ·cases h
 ·cases h
inductive Tr (α:Type) | lf | nd (k:Nat) (v:α) (l r:Tr α)
def Tr.look {α:Type} (t:Nat):Tr α→Option α
 | .lf=>none
 | .nd k v l r=>bif Nat.beq t k then some v else bif Nat.blt t k then l.look t else r.look t
def Tr.all {α:Type} (p:Nat→α→Prop):Tr α→Prop
 | .lf=>True
 | .nd k v l r=>p k v∧l.all p∧r.all p
theorem Tr.look_ok {α:Type} {p:Nat→α→Prop} {t:Nat} {v:α}:∀ {T:Tr α},T.all p→T.look t=some v→p t v
 | .lf,_,h=>by cases h
 | .nd k u l r,ha,h=>by
  simp only[Tr.look,vM]at h
  split at h
  ·rename_i hb
   have:=yC hb
   subst this
   simp only[Option.some.injEq]at h
   subst h
   exact ha.1
  ·split at h
   ·exact Tr.look_ok ha.2.1 h
   ·exact Tr.look_ok ha.2.2 h
def ekOf (P:Program) (t:TypeId):Option EK :=
 match P.underlying t with
 | some (.int k)=>some (.int k)
 | some .bool=>some .bool
 | some .string=>some .string
 | _=>none
def Al2 (P:Program):Nat→List Field→Option (List EK)
 | _,[]=>some []
 | i,f::fs=>match ekOf P f.type,Al2 P (i+1) fs with
  | some k, some r => if f.name ≠ "_" ∧ f.offset = i then some (k :: r) else none
  | _,_=>none
theorem Al1 {P:Program}:∀ {fs:List Field} {i:Nat} {r:List EK},Al2 P i fs=some r→Apl P i fs r
 | [],i,r,h=>by simp only[Al2,Option.some.injEq]at h;subst h;trivial
 | f::fs,i,r,h=>by
  simp only[Al2]at h
  split at h
  ·rename_i k q hk hq
   split at h
   ·rename_i hc
    cases h
    refine⟨hc.1,hc.2,?_,Al1 hq⟩
    unfold ekOf at hk
    split at hk<;>first | (cases hk;assumption) | cases hk
   ·cases h
  ·cases h
def Oh (P:Program) (t:TypeId):Option (List EK) :=
 match P.underlying t with
 | some (.struct fs)=>if P.stoodInHeld t=false∧P.eqGuardType P.depth t=false then Al2 P 0 fs.toList else none
 | _=>none
theorem Ayh {P:Program} {t:TypeId} {r:List EK} (h:Oh P t=some r):EqOK P t r:=by
 unfold Oh at h
 split at h
 ·rename_i fs hfs
  split at h
  ·rename_i hc
   have hf:P.fieldsOf t=fs:=by simp[Program.fieldsOf,hfs]
   exact⟨by rw[hf];exact hfs,hc.1,hc.2,by rw[hf];exact Al1 h⟩
  ·cases h
 ·cases h
def Ap4 (fn:Func):Code:=fn.body.getD .skip
end Go.Sy
namespace Go.Sy
def Arb {α:Type 1}:List α→Nat→Bool
 | [],_=>true
 | _::_,0=>false
 | _::l,n+1=>Arb l n
theorem Ak5 {α:Type 1}:∀ {l:List α} {n:Nat},Arb l n=true→l.length≤n
 | [],_,_=>xP _
 | _::_,0,h=>by cases h
 | _::l,n+1,h=>Nat.succ_le_succ (Ak5 (l:=l) h)
theorem Xq {P:Program} (Γ:TyE P) (hm:P.follows .mixedOrders=true) (N:Nat) {f:FuncId} {fn:Func} {c:Code} {A:List SV} {H:Obs} {R:SV} {H':Obs} (hF:Fun P f fn c) {n:Nat} (hn':fn.ntmps=n) (hn:Arb A n=true)
  (h:∀ (F:Fr) (hF:∀ k,F.k0 k≠.new→k∈H.keys),Mv ⟨P,Γ.toTy,F,n,Aay P fn F R H',H.keys,hF⟩ Γ N [.code c] ⟨argσ A,mkh H⟩):Sy.Spec P f A H R H' :=
 Ask Γ.toTy hF.1 hF.2 hn' (Ak5 hn) λ F hF=>run Γ hm N (h F hF)
variable {C:Cx} {k:List KI} {s:SS}
theorem Mi {all:Array Oper} {o:Oper} {rest:List Oper} {f:FuncId} {fn:Func} {c:Code} {xs:List Operand} {ts:Array TypeId} {A:List SV} {R:SV} (hs:Sy.Spec C.P f A [] R []) (hf:Fun C.P f fn c) (h:o.op=.call ⟨.value (.func f),xs.toArray,ts⟩)
  (hA:A=xs.map (ev s)) (hok:(B7 [] A && R.inn [])=true) (hd:S9 C.n o=true) (hw:Ej C.n all o s=some true) (hg:G C (.ops all rest::k) (s.upd o.dst ⟨R,[],[]⟩)):G C (.ops all (o::rest)::k) s:=by
 have hid:∀ x:SV,x.ren (A2 [])=x:=λ x=>A9 x
 have hidL:∀ x:List SV,Jt (A2 []) x=x:=λ x=>Ig x
 have:=Ad (s:=s) (o:=o) [] h hf hs (by rw[hidL];exact hA) trivial (by simp_all[Kt,Ui,Agy,Obs.keys]) trivial
 rw[hid]at this
 exact Ag this hd hw hg
theorem Ayv {all:Array Oper} {done:List Stp} {o:Oper} {rest:List Oper} {f:FuncId} {fn:Func} {c:Code} {xs:List Operand} {ts:Array TypeId} {A:List SV} {R:SV} (hs:Sy.Spec C.P f A [] R []) (hf:Fun C.P f fn c) (h:o.op=.call ⟨.value (.func f),xs.toArray,ts⟩)
  (hA:A=xs.map (ev s)) (hok:(B7 [] A && R.inn [])=true) (hi:all[done.length]? = some o) (hw:Ej C.n all o s=some true) (hg:DR C k all (done++[⟨done.length,o,⟨R,[],[]⟩,true⟩]) rest (s.upd o.dst ⟨R,[],[]⟩)):DR C k all done (o::rest) s:=by
 have hid:∀ x:SV,x.ren (A2 [])=x:=λ x=>A9 x
 have hidL:∀ x:List SV,Jt (A2 []) x=x:=λ x=>Ig x
 have:=Ad (s:=s) (o:=o) [] h hf hs (by rw[hidL];exact hA) trivial (by simp_all[Kt,Ui,Agy,Obs.keys]) trivial
 rw[hid]at this
 exact Bs this hi hw hg (by simp[Iy,Ms,h])
theorem Art {all:Array Oper} {o:Oper} {rest:List Oper} (V:List Nat) {f:FuncId} {fn:Func} {c:Code} {xs:List Operand} {ts:Array TypeId} {A:List SV} {R:SV} (hs:Sy.Spec C.P f A [] R []) (hf:Fun C.P f fn c) (h:o.op=.call ⟨.value (.func f),xs.toArray,ts⟩)
  (hA:VwL s V (xs.map (ev s)) A) (hok:(B7 [] A && R.plain)=true) (hd:S9 C.n o=true) (hw:Ej C.n all o s=some true) (hg:G C (.ops all rest::k) (s.upd o.dst ⟨R,V,[]⟩)):G C (.ops all (o::rest)::k) s:=by
 simp only[zB]at hok
 exact Ag (Ht V h hf hs hA hok.1 hok.2) hd hw hg
def Hh (P:Program) (f:FuncId) (A:List SV) (R:SV):Prop:=(∃ fn c,Fun P f fn c)∧Sy.Spec P f A [] R []
theorem call0E {all:Array Oper} {o:Oper} {rest:List Oper} {f:FuncId} {B A:List SV} {R:SV} (hE:Qm C.P o s [] f B) (hs:Sy.Spec C.P f A [] R [])
  (hA:A=B) (hok:(B7 [] A && R.inn [])=true) (hd:S9 C.n o=true) (hw:Ej C.n all o s=some true) (hg:G C (.ops all rest::k) (s.upd o.dst ⟨R,[],[]⟩)):G C (.ops all (o::rest)::k) s:=by
 have hid:∀ x:SV,x.ren (A2 [])=x:=λ x=>A9 x
 have hidL:∀ x:List SV,Jt (A2 []) x=x:=λ x=>Ig x
 have:=Bz (s:=s) (o:=o) [] hE hs (by rw[hidL];exact hA) trivial (by simp_all[Kt,Ui,Agy,Obs.keys]) trivial
 rw[hid]at this
 exact Ag this hd hw hg
theorem Eg {all:Array Oper} {o:Oper} {rest:List Oper} {f:FuncId} {x:Operand} {xs:List Operand} {ts:Array TypeId} {first cap A:List SV} {R:SV} (hs:Hh C.P f A R) (h:o.op=.call ⟨.value x,xs.toArray,ts⟩) (hx:ev s x=.clo (.func f) first cap)
  (hA:A=first++xs.map (ev s)++cap) (hok:(B7 [] A && R.inn [])=true) (hd:S9 C.n o=true) (hw:Ej C.n all o s=some true) (hg:G C (.ops all rest::k) (s.upd o.dst ⟨R,[],[]⟩)):G C (.ops all (o::rest)::k) s:=by
 obtain ⟨⟨fn,c,hf⟩,hs⟩:=hs
 exact call0E (Cb h hx hf) hs hA hok hd hw hg
theorem A04 {all:Array Oper} {done:List Stp} {o:Oper} {rest:List Oper} {f:FuncId} {B A:List SV} {R:SV} (hE:Qm C.P o s [] f B) (hn:(Iy o || Ms o)=false) (hs:Sy.Spec C.P f A [] R [])
  (hA:A=B) (hok:(B7 [] A && R.inn [])=true) (hi:all[done.length]? = some o) (hw:Ej C.n all o s=some true) (hg:DR C k all (done++[⟨done.length,o,⟨R,[],[]⟩,true⟩]) rest (s.upd o.dst ⟨R,[],[]⟩)):DR C k all done (o::rest) s:=by
 have hid:∀ x:SV,x.ren (A2 [])=x:=λ x=>A9 x
 have hidL:∀ x:List SV,Jt (A2 []) x=x:=λ x=>Ig x
 have:=Bz (s:=s) (o:=o) [] hE hs (by rw[hidL];exact hA) trivial (by simp_all[Kt,Ui,Agy,Obs.keys]) trivial
 rw[hid]at this
 exact Bs this hi hw hg hn
theorem Ap1 {all:Array Oper} {done:List Stp} {o:Oper} {rest:List Oper} {f:FuncId} {x:Operand} {xs:List Operand} {ts:Array TypeId} {first cap A:List SV} {R:SV} (hs:Hh C.P f A R) (h:o.op=.call ⟨.value x,xs.toArray,ts⟩) (hx:ev s x=.clo (.func f) first cap)
  (hA:A=first++xs.map (ev s)++cap) (hok:(B7 [] A && R.inn [])=true) (hi:all[done.length]? = some o) (hw:Ej C.n all o s=some true) (hg:DR C k all (done++[⟨done.length,o,⟨R,[],[]⟩,true⟩]) rest (s.upd o.dst ⟨R,[],[]⟩)):DR C k all done (o::rest) s:=by
 obtain ⟨⟨fn,c,hf⟩,hs⟩:=hs
 exact A04 (Cb h hx hf) (by simp[Iy,Ms,h]) hs hA hok hi hw hg
theorem Ayu {all:Array Oper} {done:List Stp} {o:Oper} {rest:List Oper} (V:List Nat) {f:FuncId} {fn:Func} {c:Code} {xs:List Operand} {ts:Array TypeId} {A:List SV} {R:SV} (hs:Sy.Spec C.P f A [] R []) (hf:Fun C.P f fn c) (h:o.op=.call ⟨.value (.func f),xs.toArray,ts⟩)
  (hA:VwL s V (xs.map (ev s)) A) (hok:(B7 [] A && R.plain)=true) (hi:all[done.length]? = some o) (hw:Ej C.n all o s=some true) (hg:DR C k all (done++[⟨done.length,o,⟨R,V,[]⟩,true⟩]) rest (s.upd o.dst ⟨R,V,[]⟩)):DR C k all done (o::rest) s:=by
 simp only[zB]at hok
 exact Bs (Ht V h hf hs hA hok.1 hok.2) hi hw hg (by simp[Iy,Ms,h])
end Go.Sy
namespace Go.Sy
theorem Auy {P:Program} (w:World) (dT sT ty elem:TypeId) (d a:Option Addr) (dLen dCap sLen sCap:Nat) {i:TypeInfo} (hu:P.underlying dT=some (.slice elem)) (hq:P.info? elem=some i) (_hi:i.size=1) (hn:min sLen dLen=0) :
  (Builtin.copy_ #[dT,sT] ty #[.slice d dLen dCap,.slice a sLen sCap]).run P w=.ok (.int .i64 0) w:=by
 have hl:∀ (x:Addr),(loadCells x 0).run P w=.ok #[] w:=λ x=>by simpa using run_loadCells_list (P:=P) w x [] y_
 have hn':Nat.min sLen dLen=0:=hn
 cases d<;>cases a<;>simp[Builtin.copy_,run_underlying hu,Builtin.lenOf,Builtin.firstCells,sizeOf,typeInfo,hq,hn',storeCells,hl]<;>rfl
theorem Agk {P:Program} (w w':World) (dT sT ty elem:TypeId) (d a:Addr) (dLen dCap sLen sCap:Nat) {i:TypeInfo} (cs:List Value) (hu:P.underlying dT=some (.slice elem)) (hq:P.info? elem=some i) (hi:i.size=1) (hn:cs.length=min sLen dLen)
  (hsrc:∀ j v,cs[j]? = some v→w.cell? (a.add j)=some v) (hst:(storeCells d cs 0).run P w=.ok () w') :
  (Builtin.copy_ #[dT,sT] ty #[.slice (some d) dLen dCap,.slice (some a) sLen sCap]).run P w=.ok (.int .i64 cs.length) w':=by
 have hl:=run_loadCells_list (P:=P) w a cs hsrc
 have hn':cs.length=Nat.min sLen dLen:=hn
 simp[Builtin.copy_,run_underlying hu,Builtin.lenOf,Builtin.firstCells,sizeOf,typeInfo,hq,hi,← hn',hl,hst]
 rfl
theorem Y2 {P:Program} (Γ:Ty P) {o:Oper} {s:SS} {t:TypeId} {ti:TI} {et:TypeId} {eb k:Nat} {ez:List Value} {x y:Operand} {ks:List Nat} {α:Type} {e:α→SV} {l m:List α}
  (h:o.op=.call ⟨.builtin .copy,#[x,y],#[t,t]⟩) (ht:Γ.get t=some ti) (hk:ti.k=.slice et 1 eb ez) (hx:ev s x=.osl k) (ho':s.h k=.row 1 e l) (hs:AppSrc s 1 (ev s y) ks m.length (rowF e m)) :
  Good P o s ⟨.val (.int .i64 (min m.length l.length:Nat)),ks,[(k,.row 1 e (m.take l.length++l.drop m.length))]⟩:=by
 intro κ a w hi hr ho N Q hN
 have h1:=hr x (by simp[h,Op.operands,Call.operands])
 have h2:=hr y (by simp[h,Op.operands,Call.operands])
 have h3:=ho k (.inr (by simp[Up.ws]))
 rw[ho']at h3
 obtain ⟨hu,i,z,q1,q2,q3,q4,q5⟩:=Cg Γ ht hk
 have hsrc:=hs.src h2 (λ j hj=>ho j (.inl hj))
 have hlen:∃ ad cap,a.eval x=.slice ad l.length cap∧(l≠[]→∃ b c,κ k=.row b l.length c∧ad=some ⟨b,0,none⟩):=by
  have:=Ob.len_ok (ob:=.row 1 e l) (n:=l.length) rfl h3 (v:=a.eval x) (by rw[← hx];exact h1)
  obtain ⟨ad,cap,e1,e2⟩:=this
  exact⟨ad,cap,e1,λ hl=>e2 (by simpa using hl)⟩
 obtain ⟨ad,cap,e1,e2⟩:=hlen
 by_cases hz:min m.length l.length=0
 ·have hsame:m.take l.length++l.drop m.length=l:=by
   rcases vN m.length with h0 | h0
   ·have:m=[]:=vU.1 h0
    subst this
    simp
   ·have:l=[]:=vU.1 q_
    subst this
    simp
  have hsl:∃ a' c',a.eval y=.slice a' m.length c':=by
   rcases hsrc with ⟨h0,_,a',c',h4⟩ | ⟨b,off,c',news,h4,_⟩
   ·exact⟨a',c',by rw[h4,h0]⟩
   ·exact⟨_,_,h4⟩
  obtain ⟨a',c',h4⟩:=hsl
  have hrun:(execOp a.eval o).run P w=.ok (.value (.int .i64 (min m.length l.length:Nat))) w:=by
   have:=Auy (P:=P) w t t o.type et ad a' l.length cap m.length c' hu q1 q2 hz
   rw[hz]
   simp[execOp,h,resolve,invoke,builtin,e1,h4,this]
  simp only[Oper.wp,hrun,Oper.upon]
  refine hN _ κ w ((Ik [] κ hi).1.weaken y_) hi (by simp[Rd]) (λ p hp=>?_)
  simp only[zX]at hp
  subst hp
  rw[hsame]
  exact h3
 ·have hl:l≠[]:=by rintro rfl;simp at hz
  have h4:=h3.rowAt hl
  obtain ⟨b,cap',cs,T,fr,f1,f2,f3,f4,f5,f6⟩:=h4
  obtain ⟨b',c',g1,g2⟩:=e2 hl
  rw[f1]at g1
  cases g1
  rcases hsrc with ⟨h0,_⟩ | ⟨b2,off,c2,news,g3,g4,g5,g6,g7⟩
  ·simp[h0]at hz
  ·have hn:(news.take (min m.length l.length)).length=min m.length l.length:=by simp;omega
   obtain ⟨w',k1,k2,k3,k4,k5,k6,k7⟩:=C5 P b 0 T fr (news.take (min m.length l.length)) 0 cs w f2 f3 (by rw[hn];omega) (λ v hv=>g5 v (wB hv))
   have hc:=Agk (P:=P) w w' t t o.type et ⟨b,0,none⟩ ⟨b2,off,none⟩ l.length cap m.length c2 (news.take (min m.length l.length)) hu q1 q2 hn (λ j v hv=>by
    rw[Addr.add_lit]
    refine g6 j v ?_
    rw[vC]at hv
    split at hv
    ·exact hv
    ·cases hv) k1
   rw[hn]at hc
   have hrun:(execOp a.eval o).run P w=.ok (.value (.int .i64 (min m.length l.length:Nat))) w':=by
    subst g2
    simp[execOp,h,resolve,invoke,builtin,e1,g3,hc]
   simp only[Oper.wp,hrun,Oper.upon]
   obtain ⟨st,inv⟩:=Oo hi (k:=k) (b:=b) (by rw[f1];rfl) k3 k4 k5 k6 k7
   refine hN _ κ w' (st.weaken (by simp[Up.ws])) inv (by simp[Rd]) (λ p hp=>?_)
   simp only[zX]at hp
   subst hp
   have hll:(m.take l.length++l.drop m.length).length=l.length:=by simp;omega
   refine .inr ⟨b,cap',_,T,fr,by rw[hll];exact f1,k2,by rw[B6];exact f3,by rw[B6];exact f4,by rw[hll];exact f5,?_⟩
   rintro j x ⟨hj,rfl⟩
   rw[hll]at hj
   refine⟨by rw[hll];exact hj,?_⟩
   have hset:=Lg cs (news.take (min m.length l.length)) 0
   by_cases hjm:j<m.length
   ·obtain ⟨_,u,u1,u2,u3,u4⟩:=g7 j (e m[j]) ⟨hjm,rfl⟩
    refine⟨u,?_,u2,u3,λ i hi'=>?_⟩
    ·have:(m.take l.length++l.drop m.length)[j]=m[j]:=by
      rw[yL (by simp;omega),xV]
     rw[this]
     exact RdD.keep st.keeps _ _ u1
    ·have hi0:i=0:=by omega
     subst hi0
     simp only[Nat.mul_one,tS]at u4 ⊢
     rw[hset _ q_,zC q_,vC,zC q_]
     have:=u4 0 q_
     simpa using this
   ·obtain ⟨_,u,u1,u2,u3,u4⟩:=f6 j (e l[j]) ⟨hj,rfl⟩
    refine⟨u,?_,u2,u3,λ i hi'=>?_⟩
    ·have:(m.take l.length++l.drop m.length)[j]'(by rw[hll];exact hj)=l[j]:=by
      rw[yY (by simp;omega),wZ]
      congr 1
      simp;omega
     rw[this]
     exact RdD.keep st.keeps _ _ u1
    ·have hi0:i=0:=by omega
     subst hi0
     simp only[Nat.mul_one,tS]at u4 ⊢
     rw[hset _ q_,zA q_]
     have:=u4 0 q_
     simpa using this
def Amx (C:Cx) (n:Nat) (L:Nat→List (Nat × SV)) (O:Nat→Obs) (i:Nat) (a:Act) (w:World):Prop :=
 ∃ x':{j:Nat // j≤n},∃ κ,n-x'.1<n-i∧St C.F C.n (mkS (L x'.1) (O x'.1)) κ a w
theorem A5 {C:Cx} {k:List KI} {s:SS} {body:Code} (n:Nat) (L:Nat→List (Nat × SV)) (O:Nat→Obs) (ρ:List (Nat × Nat)) (hsub:Sub C s ρ (L 0) (O 0))
  (h:∀ i,i≤n→G C (.code body::.inv (Amx C n L O i)::k) (mkS (L i) (O i))):G C (.code (.loop body)::k) s :=
 Tk (α:={j:Nat // j≤n}) (λ x=>L x.1) (λ x=>O x.1) (λ x=>n-x.1) ⟨0,xP _⟩ ρ hsub (λ x=>h x.1 x.2)
theorem Ax {C:Cx} {k:List KI} {s:SS} {n:Nat} {L:Nat→List (Nat × SV)} {O:Nat→Obs} {i:Nat} (ρ:List (Nat × Nat)) (hi:i+1≤n) (hsub:Sub C s ρ (L (i+1)) (O (i+1))):G C (.inv (Amx C n L O i)::k) s :=
 U3 (α:={j:Nat // j≤n}) (L:=λ x=>L x.1) (O:=λ x=>O x.1) (μ:=λ x=>n-x.1) (x:=⟨i,by omega⟩) ⟨i+1,hi⟩ ρ (by simp only;omega) hsub
end Go.Sy
