/- Parts of a proof. -/
import Derived.Test.YticmobkdaneelaaGreatDoorYE2
import Derived.Deep.LoopGhost
set_option linter.all false
set_option linter.unusedVariables false
set_option linter.unusedSimpArgs false
set_option linter.deprecated false
namespace Go.Sy
mutual
def SV.ren(ρ:Nat→Nat):SV→SV
 | .ptr k o=>.ptr (ρ k) o
 | .rpt k sz i o=>.rpt (ρ k) sz i o
 | .osl k=>.osl (ρ k)
 | .agg l=>.agg (K0 ρ l)
 | .tup l=>.tup (K0 ρ l)
 | .ifc t x=>.ifc t (x.ren ρ)
 | .clo fn f l=>.clo fn (K0 ρ f) (K0 ρ l)
 | .top=>.top
 | .val v=>.val v
 | .sl sz e l=>.sl sz e l
 | .ref sz x o=>.ref sz x o
def K0(ρ:Nat→Nat):List SV→List SV
 |[]=>[]
 |x::l=>x.ren ρ::K0 ρ l
end
def Qs(K:List Nat)(k:Nat):Bool:=match K with
 |[]=>false
 |x::l=>Nat.beq x k||Qs l k
def memN_iff{K:List Nat}{k:Nat}:Qs K k=true↔k∈K:=by
 induction K with
 |nil=>simp[Qs]
 |cons x l ih=>
  have hb:Nat.beq x k=true↔x=k:=⟨yK,λh=>by subst h;simp⟩
  simp only[Qs,yM,yH,ih,hb];constructor
  ·rintro (h|h)
   ·exact .inl h.symm
   ·exact .inr h
  ·rintro (h|h)
   ·exact .inl h.symm
   ·exact .inr h
mutual
def SV.inn(K:List Nat):SV→Bool
 | .ptr k _=>Qs K k
 | .rpt k _ _ _=>Qs K k
 | .osl k=>Qs K k
 | .agg l=>Cd K l
 | .tup l=>Cd K l
 | .ifc _ x=>x.inn K
 | .clo _ f l=>Cd K f&&Cd K l
 |_=>true
def Cd(K:List Nat):List SV→Bool
 |[]=>true
 |x::l=>x.inn K&&Cd K l
end
def Ob.ren(ρ:Nat→Nat):Ob→Ob
 | .box l=>.box (K0 ρ l)
 | .rown sz e l i cl=>.rown sz e l i (K0 ρ cl)
 | .tbox T l=>.tbox T (K0 ρ l)
 |o=>o
def Ob.inn(K:List Nat):Ob→Bool
 | .box l=>Cd K l
 | .rown _ _ _ _ cl=>Cd K cl
 | .tbox _ l=>Cd K l
 |_=>true
structure Ren(ρ:Nat→Nat)(K:List Nat)(κ κ₂:Ka):Prop where
 ent:∀k,k∈K→κ₂ k=κ (ρ k)
mutual
theorem Rd.unren{ρ:Nat→Nat}{K:List Nat}{κ κ₂:Ka}{w:World}(r:Ren ρ K κ κ₂)(ho:∀b,b<w.heap.size→¬Own κ b→¬Own κ₂ b):∀(x:SV) (v:Value),x.inn K=true→Rd κ w (x.ren ρ) v→Rd κ₂ w x v
 | .top,_,_,_=>by simp[Rd]
 | .val u,v,_,h=>by simpa [Rd,SV.ren] using h
 | .agg l,v,hi,h=>by
  simp only[Rd,SV.ren,SV.inn]at h hi⊢;obtain ⟨cs,h1,h0,h2⟩:=h;exact⟨cs,h1,h0,RdL.unren r ho l cs hi h2⟩
 | .tup l,v,hi,h=>by
  simp only[Rd,SV.ren,SV.inn]at h hi⊢;obtain ⟨cs,h1,h2⟩:=h;exact⟨cs,h1,RdL.unren r ho l cs hi h2⟩
 | .sl sz e l,v,_,h=>by
  simp only[Rd,SV.ren]at h⊢;exact RdD.keep ⟨yG _,λ_ _ _=>rfl,ho⟩ _ _ h
 | .ref sz x off,v,_,h=>by
  simp only[Rd,SV.ren]at h⊢;exact RdD.keep ⟨yG _,λ_ _ _=>rfl,ho⟩ _ _ h
 | .ptr k off,v,hi,h=>by
  simp only[Rd,SV.ren,SV.inn]at h hi⊢;rw[r.ent k (memN_iff.1 hi)];exact h
 | .rpt k sz i off,v,hi,h=>by
  simp only[Rd,SV.ren,SV.inn]at h hi⊢;rw[r.ent k (memN_iff.1 hi)];exact h
 | .osl k,v,hi,h=>by
  simp only[Rd,SV.ren,SV.inn]at h hi⊢;rw[r.ent k (memN_iff.1 hi)];exact h
 | .ifc t x,v,hi,h=>by
  simp only[Rd,SV.ren,SV.inn]at h hi⊢;obtain ⟨u,h1,h2⟩:=h;exact⟨u,h1,Rd.unren r ho x u hi h2⟩
 | .clo fn first cap,v,hi,h=>by
  simp only[Rd,SV.ren,SV.inn,zE]at h hi⊢;obtain ⟨fs,cs,h1,h2,h3⟩:=h;exact⟨fs,cs,h1,RdL.unren r ho first fs hi.1 h2,RdL.unren r ho cap cs hi.2 h3⟩
theorem RdL.unren{ρ:Nat→Nat}{K:List Nat}{κ κ₂:Ka}{w:World}(r:Ren ρ K κ κ₂)(ho:∀b,b<w.heap.size→¬Own κ b→¬Own κ₂ b):∀(l:List SV) (vs:List Value),Cd K l=true→RdL κ w (K0 ρ l) vs→RdL κ₂ w l vs
 |[],_,_,h=>by simpa [RdL,K0] using h
 |x::l,vs,hi,h=>by
  simp only[RdL,K0,Cd,zE]at h hi⊢;obtain ⟨v,q,h1,h2,h3⟩:=h;exact⟨v,q,h1,Rd.unren r ho x v hi.1 h2,RdL.unren r ho l q hi.2 h3⟩
end
mutual
theorem Rd.ren{ρ:Nat→Nat}{K:List Nat}{κ κ₂:Ka}{w:World}(r:Ren ρ K κ κ₂)(ho:∀b,b<w.heap.size→¬Own κ₂ b→¬Own κ b):∀(x:SV) (v:Value),x.inn K=true→Rd κ₂ w x v→Rd κ w (x.ren ρ) v
 | .top,_,_,_=>by simp[Rd,SV.ren]
 | .val u,v,_,h=>by simpa [Rd,SV.ren] using h
 | .agg l,v,hi,h=>by
  simp only[Rd,SV.ren,SV.inn]at h hi⊢;obtain ⟨cs,h1,h0,h2⟩:=h;exact⟨cs,h1,h0,RdL.ren r ho l cs hi h2⟩
 | .tup l,v,hi,h=>by
  simp only[Rd,SV.ren,SV.inn]at h hi⊢;obtain ⟨cs,h1,h2⟩:=h;exact⟨cs,h1,RdL.ren r ho l cs hi h2⟩
 | .sl sz e l,v,_,h=>by
  simp only[Rd,SV.ren]at h⊢;exact RdD.keep ⟨yG _,λ_ _ _=>rfl,ho⟩ _ _ h
 | .ref sz x off,v,_,h=>by
  simp only[Rd,SV.ren]at h⊢;exact RdD.keep ⟨yG _,λ_ _ _=>rfl,ho⟩ _ _ h
 | .ptr k off,v,hi,h=>by
  simp only[Rd,SV.ren,SV.inn]at h hi⊢;rw[←r.ent k (memN_iff.1 hi)];exact h
 | .rpt k sz i off,v,hi,h=>by
  simp only[Rd,SV.ren,SV.inn]at h hi⊢;rw[←r.ent k (memN_iff.1 hi)];exact h
 | .osl k,v,hi,h=>by
  simp only[Rd,SV.ren,SV.inn]at h hi⊢;rw[←r.ent k (memN_iff.1 hi)];exact h
 | .ifc t x,v,hi,h=>by
  simp only[Rd,SV.ren,SV.inn]at h hi⊢;obtain ⟨u,h1,h2⟩:=h;exact⟨u,h1,Rd.ren r ho x u hi h2⟩
 | .clo fn first cap,v,hi,h=>by
  simp only[Rd,SV.ren,SV.inn,zE]at h hi⊢;obtain ⟨fs,cs,h1,h2,h3⟩:=h;exact⟨fs,cs,h1,RdL.ren r ho first fs hi.1 h2,RdL.ren r ho cap cs hi.2 h3⟩
theorem RdL.ren{ρ:Nat→Nat}{K:List Nat}{κ κ₂:Ka}{w:World}(r:Ren ρ K κ κ₂)(ho:∀b,b<w.heap.size→¬Own κ₂ b→¬Own κ b):∀(l:List SV) (vs:List Value),Cd K l=true→RdL κ₂ w l vs→RdL κ w (K0 ρ l) vs
 |[],_,_,h=>by simpa [RdL,K0] using h
 |x::l,vs,hi,h=>by
  simp only[RdL,K0,Cd,zE]at h hi⊢;obtain ⟨v,q,h1,h2,h3⟩:=h;exact⟨v,q,h1,Rd.ren r ho x v hi.1 h2,RdL.ren r ho l q hi.2 h3⟩
end
theorem RowAt.own{κ κ₂:Ka}{w:World}{k k₂ sz n:Nat}{f:Nat→SV→Prop}(h:RowAt κ w k sz n f)(he:κ₂ k₂=κ k)(ho:∀b,b<w.heap.size→¬Own κ b→¬Own κ₂ b):RowAt κ₂ w k₂ sz n f:=by
 obtain ⟨b,cap,cs,T,fr,h1,h2,h3,h4,h5,h6⟩:=h;refine⟨b,cap,cs,T,fr,he.trans h1,h2,h3,h4,h5,λi x hi=>?_⟩;obtain ⟨h0,u,h7,h8⟩:=h6 i x hi;exact⟨h0,u,RdD.keep ⟨yG _,λ_ _ _=>rfl,ho⟩ _ _ h7,h8⟩
theorem ObOK.unren{ρ:Nat→Nat}{K:List Nat}{κ κ₂:Ka}{w:World}(r:Ren ρ K κ κ₂)(ho:∀b,b<w.heap.size→¬Own κ b→¬Own κ₂ b){k:Nat}(hk:k∈K):∀{o:Ob},o.inn K=true→ObOK κ w (ρ k) (o.ren ρ)→ObOK κ₂ w k o
 | .fresh,_,h=>(r.ent k hk).trans h
 | .non,_,_=>trivial
 | .box l,hi,h=>by
  obtain ⟨b,cs,T,fr,h1,h2,h3,h4,h5⟩:=h;exact⟨b,cs,T,fr,(r.ent k hk).trans h1,h2,h3,h4,RdL.unren r ho l cs hi h5⟩
 | .tbox T l,hi,h=>by
  obtain ⟨b,cs,fr,h1,h2,h3,h4,h5⟩:=h;exact⟨b,cs,fr,(r.ent k hk).trans h1,h2,h3,h4,RdL.unren r ho l cs hi h5⟩
 | .trow T l,_,h=>h.imp (λh=>⟨(r.ent k hk).trans h.1,h.2⟩) (λ⟨h0,b,cap,cs,fr,h1,h2⟩=>⟨h0,b,cap,cs,fr,(r.ent k hk).trans h1,h2⟩)
 | .row sz e l,_,h=>h.imp (λh=>⟨(r.ent k hk).trans h.1,h.2⟩) (λh=>h.own (r.ent k hk) ho)
 | .lit sz l,_,h=>RowAt.own h (r.ent k hk) ho
 | .pin b n cap sz e l,_,h=>⟨(r.ent k hk).trans h.1,RowAt.own h.2 (r.ent k hk) ho⟩
 | .glob sz x g,_,h=>by
  simp only[Ob.ren,ObOK,Rd]at h⊢;exact RdD.keep ⟨yG _,λ_ _ _=>rfl,ho⟩ _ _ h
 | .dat v sz e l,_,h=>by
  simp only[Ob.ren,ObOK,Rd]at h⊢;exact RdD.keep ⟨yG _,λ_ _ _=>rfl,ho⟩ _ _ h
 | .rown sz e l i cl,hi,h=>by
  obtain ⟨b,cap,cs,T,fr,h1,h2,h3,h4,h5,h6,h7,us,u1,u2,u3,u4⟩:=h;refine⟨b,cap,cs,T,fr,(r.ent k hk).trans h1,h2,h3,h4,h5,λj x hj hx=>?_,h7,us,u1,u2,RdL.unren r ho cl us hi u3,u4⟩;obtain ⟨g0,u,g7,g8⟩:=h6 j x hj hx;exact⟨g0,u,RdD.keep ⟨yG _,λ_ _ _=>rfl,ho⟩ _ _ g7,g8⟩
theorem ObOK.ren{ρ:Nat→Nat}{K:List Nat}{κ κ₂:Ka}{w:World}(r:Ren ρ K κ κ₂)(ho:∀b,b<w.heap.size→¬Own κ₂ b→¬Own κ b){k:Nat}(hk:k∈K):∀{o:Ob},o.inn K=true→ObOK κ₂ w k o→ObOK κ w (ρ k) (o.ren ρ)
 | .fresh,_,h=>(r.ent k hk).symm.trans h
 | .non,_,_=>trivial
 | .box l,hi,h=>by
  obtain ⟨b,cs,T,fr,h1,h2,h3,h4,h5⟩:=h;exact⟨b,cs,T,fr,(r.ent k hk).symm.trans h1,h2,h3,h4,RdL.ren r ho l cs hi h5⟩
 | .tbox T l,hi,h=>by
  obtain ⟨b,cs,fr,h1,h2,h3,h4,h5⟩:=h;exact⟨b,cs,fr,(r.ent k hk).symm.trans h1,h2,h3,h4,RdL.ren r ho l cs hi h5⟩
 | .trow T l,_,h=>h.imp (λh=>⟨(r.ent k hk).symm.trans h.1,h.2⟩) (λ⟨h0,b,cap,cs,fr,h1,h2⟩=>⟨h0,b,cap,cs,fr,(r.ent k hk).symm.trans h1,h2⟩)
 | .row sz e l,_,h=>h.imp (λh=>⟨(r.ent k hk).symm.trans h.1,h.2⟩) (λh=>h.own (r.ent k hk).symm ho)
 | .lit sz l,_,h=>RowAt.own h (r.ent k hk).symm ho
 | .pin b n cap sz e l,_,h=>⟨(r.ent k hk).symm.trans h.1,RowAt.own h.2 (r.ent k hk).symm ho⟩
 | .glob sz x g,_,h=>by
  simp only[Ob.ren,ObOK,Rd]at h⊢;exact RdD.keep ⟨yG _,λ_ _ _=>rfl,ho⟩ _ _ h
 | .dat v sz e l,_,h=>by
  simp only[Ob.ren,ObOK,Rd]at h⊢;exact RdD.keep ⟨yG _,λ_ _ _=>rfl,ho⟩ _ _ h
 | .rown sz e l i cl,hi,h=>by
  obtain ⟨b,cap,cs,T,fr,h1,h2,h3,h4,h5,h6,h7,us,u1,u2,u3,u4⟩:=h;refine⟨b,cap,cs,T,fr,((r.ent k hk).symm).trans h1,h2,h3,h4,h5,λj x hj hx=>?_,h7,us,u1,u2,RdL.ren r ho cl us hi u3,u4⟩;obtain ⟨g0,u,g7,g8⟩:=h6 j x hj hx;exact⟨g0,u,RdD.keep ⟨yG _,λ_ _ _=>rfl,ho⟩ _ _ g7,g8⟩
abbrev Obs:=List (Nat×Ob)
def Obs.keys(H:Obs):List Nat:=H.map (·.1)
def Obs.ok(κ:Ka)(w:World)(H:Obs):Prop:=∀p∈H,ObOK κ w p.1 p.2
def Spec(P:Program)(f:FuncId)(A:List SV)(H:Obs)(R:SV)(H':Obs):Prop :=
 ∀(κ:Ka) (w:World) (vs:List Value),Inv κ w→(∀k,κ k≠.new→k∈H.keys)→RdL κ w A vs→H.ok κ w →
  Calls P f vs.toArray w λe w'=>∃v κ',e=.returned v∧Ctx ⟨w,κ,[]⟩ κ' w'∧Inv κ' w'∧Rd κ' w' R v∧H'.ok κ' w'
inductive KI
 |code (c:Code)
 |ops (all:Array Oper) (rest:List Oper)
 |blk (id:Nat)
 |inv (I:Act→World→Prop)
 |scp
def den(P:Program)(B:Exit→Act→World→Prop):List KI→Exit→Act→World→Prop
 |[]=>B
 | .code c::k=>Exit.then (c.wp P (den P B k)) (den P B k)
 | .ops all rest::k=>Exit.then (wpList P all (den P B k) rest) (den P B k)
 | .blk id::k=>Exit.inBlock id (den P B k)
 | .inv I::k=>Exit.then I (den P B k)
 | .scp::k=>Exit.noGoto (den P B k)
structure Cx where
 P:Program
 Γ:Ty P
 F:Fr
 n:Nat
 B:Exit→Act→World→Prop
 bn:List Nat
 hbn:∀k,F.k0 k≠.new→k∈bn
def G(C:Cx)(k:List KI)(s:SS):Prop:=∀κ a w,St C.F C.n s κ a w→den C.P C.B k .normal a w
theorem St.ev{F:Fr}{n:Nat}{s:SS}{κ:Ka}{a:Act}{w:World}(h:St F n s κ a w)(x:Operand):Rd κ w (ev s x) (a.eval x):=by
 cases x with
 |tmp t=>exact h.slot t
 |const v=>simp[Sy.ev,Act.eval,Rd]
 |global g=>simp[Sy.ev,Act.eval,Rd]
 |func f=>simp only[Sy.ev,Act.eval,Rd];exact⟨[],[],rfl,by simp[RdL],by simp[RdL]⟩
def Tx(h:Nat→Ob):List (Nat×Ob)→Nat→Ob
 |[]=>h
 |(k,o)::r=>Tx (upd h k o) r
def SS.upd(s:SS)(dst:Option Nat)(U:Up):SS:=⟨match dst with|some d=>Sy.upd s.σ d U.v|none=>s.σ,Tx s.h U.objs⟩
def Aeb{h:Nat→Ob}:∀{l:List (Nat×Ob)} {k:Nat},k∉l.map (·.1)→Tx h l k=h k
 |[],k,_=>rfl
 |(j,o)::r,k,hk=>by
  simp only[xV,yH,uC]at hk;rw[Tx,Aeb hk.2,Cp _ _ hk.1]
def Akc{κ:Ka}{w:World}:∀(l:List (Nat×Ob)) (h:Nat→Ob) (k:Nat),(∀p∈l,ObOK κ w p.1 p.2)→(k∉l.map (·.1)→ObOK κ w k (h k))→ObOK κ w k (Tx h l k)
 |[],h,k,_,h2=>h2 y_
 |(j,o)::r,h,k,h1,h2=>by
  refine Akc r (Sy.upd h j o) k (λp hp=>h1 p (by simp[hp])) (λhk=>?_);by_cases hj:k=j
  ·subst hj;rw[B1];exact h1 (k,o) y_
  ·rw[Cp _ _ hj];exact h2 (by simp[hj];simpa using hk)
theorem St.put{F:Fr}{n:Nat}{s:SS}{κ κ':Ka}{a:Act}{w w':World}(h:St F n s κ a w){dst:Option Nat}{U:Up}{v:Value}(hd:∀d,dst=some d→d<n)(st:Step (·∈U.ws) κ w κ' w')(hi:Inv κ' w')(hv:Rd κ' w' U.v v)(ho:∀x∈U.objs,ObOK κ' w' x.1 x.2):St F n (s.upd dst U) κ' (a.put dst v) w' where
 defers:=by cases dst<;>exact h.defers
 size:=by cases dst<;>simp[Act.put,h.size]
 inv:=hi
 ctx:=h.ctx.step hi st
 slot i:=by
  cases dst with
  |none=>exact Rd.step st _ _ (h.slot i)
  |some d=>
   have ab:=hd d rfl;by_cases hi':i=d
   ·subst hi';simp only[SS.upd,B1,Act.put];have hs:i<a.tmps.size:=by rw[h.size];exact ab
    simpa [hs] using hv
   ·simp only[SS.upd,Cp _ _ hi',Act.put];have:(a.tmps.setIfInBounds d v).getD i undef=a.tmps.getD i undef:=by
     simp[Array.getElem?_setIfInBounds_ne (Ne.symm hi')]
    rw[this];exact Rd.step st _ _ (h.slot i)
 obj k:=Akc _ _ _ ho (λhk=>ObOK.step st hk _ (h.obj k))
variable {C:Cx} {k:List KI} {s:SS}
theorem G_seq{x y:Code}(h:G C (.code x::.code y::k) s):G C (.code (.seq x y)::k) s:=λκ a w hs=>wp_seq (h κ a w hs)
theorem G_skip(h:G C k s):G C (.code .skip::k) s:=λκ a w hs=>wp_skip (h κ a w hs)
theorem A6p{id:Nat}{c:Code}(h:G C (.code c::.blk id::k) s):G C (.code (.block id c)::k) s:=λκ a w hs=>wp_block (h κ a w hs)
theorem G_blk{id:Nat}(h:G C k s):G C (.blk id::k) s:=λκ a w hs=>h κ a w hs
theorem A6m{c:Code}(h:G C (.code c::.scp::k) s):G C (.code (.scope c)::k) s:=λκ a w hs=>wp_scope_straight (h κ a w hs)
theorem G_scp(h:G C k s):G C (.scp::k) s:=λκ a w hs=>h κ a w hs
theorem A6n{l:Nat}(h:G C k s):G C (.code (.label l)::k) s:=λκ a w hs=>wp_label (h κ a w hs)
theorem G_nil(h:∀κ a w,St C.F C.n s κ a w→C.B .normal a w):G C [] s:=λκ a w hs=>h κ a w hs
theorem G_cond{c:Operand}{x y:Code}{b:Bool}(hc:ev s c=.val (.bool b))(ht:b=true→G C (.code x::k) s)(hf:b=false→G C (.code y::k) s):G C (.code (.cond c x y)::k) s:=λκ a w hs=>by
 have h:=hs.ev c;rw[hc]at h;exact wp_cond_split h.val (λhb=>ht hb κ a w hs) (λhb=>hf hb κ a w hs)
def Xg(id:Nat):List KI→Option (List KI)
 |[]=>none
 | .blk i::k=>bif Nat.beq i id then some k else Xg id k
 | .code _::k=>Xg id k
 | .ops _ _::k=>Xg id k
 | .inv _::k=>Xg id k
 | .scp::k=>Xg id k
theorem Q4{P:Program}{B:Exit→Act→World→Prop}{id:Nat}{a:Act}{w:World}:∀{k k':List KI},Xg id k=some k'→den P B k' .normal a w→den P B k (.exit id) a w
 |[],k',h,_=>by simp[Xg]at h
 | .blk i::k,k',h,hd=>by
  simp only[Xg,uA]at h;split at h
  ·rename_i hb;have:=yK hb;subst this;simp only[Option.some.injEq]at h;subst h;simp only[den,Exit.inBlock,if_true];exact hd
  ·rename_i hb;have ag:id≠i:=λe=>hb (by subst e;simp)
   simp only[den,Exit.inBlock,zD ag];exact Q4 h hd
 | .code _::k,k',h,hd=>Q4 (k:=k) h hd
 | .ops _ _::k,k',h,hd=>Q4 (k:=k) h hd
 | .inv _::k,k',h,hd=>Q4 (k:=k) h hd
 | .scp::k,k',h,hd=>Q4 (k:=k) h hd
theorem G_exit{id:Nat}{k':List KI}(h:Xg id k=some k')(hg:G C k' s):G C (.code (.exit id)::k) s:=λκ a w hs=>wp_exit (Q4 h (hg κ a w hs))
theorem Wb{P:Program}{B:Exit→Act→World→Prop}{a:Act}{w:World}:∀{k:List KI},B .ret a w→den P B k .ret a w
 |[],h=>h
 | .blk _::k,h=>Wb (k:=k) h
 | .code _::k,h=>Wb (k:=k) h
 | .ops _ _::k,h=>Wb (k:=k) h
 | .inv _::k,h=>Wb (k:=k) h
 | .scp::k,h=>Wb (k:=k) h
theorem A62(h:∀κ a w,St C.F C.n s κ a w→C.B .ret a w):G C (.code .ret::k) s:=λκ a w hs=>wp_ret (Wb (h κ a w hs))
theorem A4m{id:Nat}{ops:Array Oper}(h:G C (.ops ops ops.toList::k) s):G C (.code (.region id ops false)::k) s:=λκ a w hs=>wp_region_list (h κ a w hs)
theorem Azp{all:Array Oper}(h:G C k s):G C (.ops all []::k) s:=λκ a w hs=>wpList_nil (P:=C.P) (ops:=all) (h κ a w hs)
def Yq(all:Array Oper)(s:SS)(g:Option (Nat×Bool))(b:Bool):Prop :=
 match g with
 |none=>b=true
 |some (j,want)=>∃d,((all[j]?).bind (·.dst))=some d∧((∃c,s.σ d=.val (.bool c)∧b=(c==want))∨(s.σ d=.val undef∧b=false))
theorem Vu{F:Fr}{n:Nat}{κ:Ka}{a:Act}{w:World}(h:St F n s κ a w){all:Array Oper}{o:Oper}{b:Bool}(hd:∀j want,o.guard=some (j,want)→∀d,((all[j]?).bind (·.dst))=some d→d<n)(hw:Yq all s o.guard b):Region.wanted o (yielded all a.tmps)=b:=by
 unfold Yq at hw;unfold Region.wanted;cases hg:o.guard with
 |none=>rw[hg]at hw;simp[hw]
 |some p=>
  obtain ⟨j,want⟩:=p;rw[hg]at hw;obtain ⟨d,h1,h2⟩:=hw;have ab:=hd j want hg d h1;have mc:=h.slot d;have bf:a.tmps[d]? = some (a.tmps.getD d undef):=by simp[h.size,ab]
  simp only[yielded,h1,Option.bind_some,bf];rcases h2 with ⟨c,h3,rfl⟩|⟨h3,rfl⟩
  ·rw[h3]at mc;rw[mc.val];rfl
  ·rw[h3]at mc;rw[mc.val];rfl
theorem G_op{all:Array Oper}{o:Oper}{rest:List Oper}{U:Up}(hg:Good C.P o s U)(hw:∀κ a w,St C.F C.n s κ a w→Region.wanted o (yielded all a.tmps)=true)(hd:∀d,o.dst=some d→d<C.n)(h:G C (.ops all rest::k) (s.upd o.dst U)):G C (.ops all (o::rest)::k) s:=λκ a w hs=>
 wpList_step λK hK=>by
  rw[zG (hw κ a w hs)];exact hg κ a w hs.inv (λx _=>hs.ev x) (λj _=>hs.obj j) K _ (λv κ' w' st hi hv ho=>hK _ _ (h κ' _ w' (hs.put hd st hi hv ho)))
theorem Azq{all:Array Oper}{o:Oper}{rest:List Oper}(hw:∀κ a w,St C.F C.n s κ a w→Region.wanted o (yielded all a.tmps)=false)(hd:∀d,o.dst=some d→d<C.n)(h:G C (.ops all rest::k) (s.upd o.dst ⟨.val undef,[],[]⟩)):G C (.ops all (o::rest)::k) s:=λκ a w hs=>
 wpList_step λK hK=>by
  rw[zD (by rw[hw κ a w hs];simp)];exact hK _ _ (h κ _ w (hs.put (U:=⟨.val undef,[],[]⟩) hd (Step.refl _ κ w) hs.inv (by simp[Rd]) (λp hp=>by cases hp)))
def Bd:List (Nat×Nat)→Nat→Nat
 |[],k=>k
 |(a,b)::r,k=>bif Nat.beq a k then b else Bd r k
def mkσ:List (Nat×SV)→Nat→SV
 |[],_=>.top
 |(i,x)::r,j=>bif Nat.beq i j then x else mkσ r j
def mkh:List (Nat×Ob)→Nat→Ob
 |[],_=>.fresh
 |(i,x)::r,j=>bif Nat.beq i j then x else mkh r j
def mkS(L:List (Nat×SV))(O:Obs):SS:=⟨mkσ L,mkh O⟩
def Aun(ρ:List (Nat×Nat))(K:List Nat)(s:SS):List (Nat×SV)→Prop
 |[]=>True
 |(i,x)::r=>x.ren (Bd ρ)=s.σ i∧x.inn K=true∧Aun ρ K s r
def Azo(ρ:List (Nat×Nat))(K:List Nat)(s:SS):Obs→Prop
 |[]=>True
 |(i,x)::r=>(x.ren (Bd ρ)=s.h (Bd ρ i)∨x=.non)∧x.inn K=true∧Azo ρ K s r
def Wu(ρ:List (Nat×Nat))(bn:List Nat):List Nat→Bool
 |[]=>bn.all λk=>Nat.beq (Bd ρ k) k
 |k::r=>(r.all λj=>Nat.beq j k||!(Nat.beq (Bd ρ j) (Bd ρ k)))&&Wu ρ bn r
theorem Vy{ρ:List (Nat×Nat)}{bn:List Nat}:∀{K:List Nat},Wu ρ bn K=true→(∀i∈K,∀j∈K,Bd ρ i=Bd ρ j→i=j)∧∀k∈bn,Bd ρ k=k
 | [],h=>⟨by simp,λ k hk=>by
   simp only[Wu,yZ]at h;exact yK (h k hk)⟩
 |k::r,h=>by
  simp only[Wu,zE,yZ,yM,yU]at h;obtain ⟨h1,h2⟩:=h;obtain ⟨h3,h4⟩:=Vy h2;refine⟨λi hi j hj e=>?_,h4⟩;simp only[yH]at hi hj;rcases hi with rfl|hi<;>rcases hj with rfl|hj
  ·rfl
  ·rcases h1 j hj with h|h
   ·exact(yK h).symm
   ·rw[e]at h;simp at h
  ·rcases h1 i hi with h|h
   ·exact yK h
   ·rw[e]at h;simp at h
  ·exact h3 i hi j hj e
def Y3(κ:Ka)(ρ:Nat→Nat)(K:List Nat):Ka:=⟨λk=>bif Qs K k then κ (ρ k) else .new,κ.M⟩
theorem Y2{κ:Ka}{ρ:Nat→Nat}{K:List Nat}{k:Nat}(h:k∈K):Y3 κ ρ K k=κ (ρ k):=by simp[Y3,memN_iff.2 h]
theorem Ang{κ:Ka}{ρ:Nat→Nat}{K:List Nat}{k:Nat}(h:k∉K):Y3 κ ρ K k=.new:=by
 have:Qs K k=false:=by
  cases hm:Qs K k with
  |false=>rfl
  |true=>exact zY (memN_iff.1 hm) h
 simp[Y3,this]
theorem K1{κ:Ka}{ρ:Nat→Nat}{K:List Nat}{k b:Nat}(h:(Y3 κ ρ K k).block? = some b):k∈K∧(κ (ρ k)).block? = some b:=by
 by_cases hk:k∈K
 ·rw[Y2 hk]at h;exact⟨hk,h⟩
 ·rw[Ang hk]at h;cases h
theorem Y1{κ:Ka}{ρ:Nat→Nat}{K:List Nat}(b:Nat)(h:¬Own κ b):¬Own (Y3 κ ρ K) b:=by
 rintro (⟨k,hk⟩|hk)
 ·exact h (.inl ⟨_,(K1 hk).2⟩)
 ·exact h (.inr hk)
theorem A01{κ:Ka}{w:World}{ρ:Nat→Nat}{K:List Nat}(hi:Inv κ w)(gz:∀i∈K,∀j∈K,ρ i=ρ j→i=j):Inv (Y3 κ ρ K) w :=
 ⟨λ i j b h1 h2=>by
   obtain ⟨a1,a2⟩:=K1 h1;obtain ⟨b1,b2⟩:=K1 h2;exact gz i a1 j b1 (hi.inj _ _ b a2 b2),
  λ k b h=>hi.bnd _ b (K1 h).2,λ k b h=>hi.apart _ b (K1 h).2,hi.mbnd⟩
theorem A02{F:Fr}{κ:Ka}{w:World}{ρ:Nat→Nat}{K bn:List Nat}(c:Ctx F κ w)(hbn:∀k,F.k0 k≠.new→k∈bn)(hK:∀k∈bn,k∈K∧ρ k=k):Ctx F (Y3 κ ρ K) w :=
 ⟨c.size,c.os,c.tape,c.output,c.M,c.old,λ k b h=>c.own _ b (K1 h).2,λ k hk=>by
  obtain ⟨h1,h2⟩:=hK k (hbn k hk);rw[Y2 h1,h2];exact c.nam k hk⟩
def Akg(bn K:List Nat):Bool:=bn.all (Qs K)
structure Sub(C:Cx)(s:SS)(ρ:List (Nat×Nat))(L:List (Nat×SV))(O:Obs):Prop where
 slots:Aun ρ O.keys s L
 objs:Azo ρ O.keys s O
 names:Wu ρ C.bn O.keys=true∧Akg C.bn O.keys=true
theorem Sub.st{s:SS}{ρ:List (Nat×Nat)}{L:List (Nat×SV)}{O:Obs}(h:Sub C s ρ L O){κ:Ka}{a:Act}{w:World}(hs:St C.F C.n s κ a w):St C.F C.n (mkS L O) (Y3 κ (Bd ρ) O.keys) a w:=by
 obtain ⟨gz,hbn⟩:=Vy h.names.1;have bc:∀k∈C.bn,k∈O.keys:=λk hk=>by
  have:=h.names.2;simp only[Akg,yZ]at this;exact memN_iff.1 (this k hk)
 have kc:Ren (Bd ρ) O.keys κ (Y3 κ (Bd ρ) O.keys):=⟨λk hk=>Y2 hk⟩
 refine⟨hs.defers,hs.size,A01 hs.inv gz,A02 hs.ctx C.hbn (λk hk=>⟨bc k hk,hbn k hk⟩),?_,?_⟩
 ·intro i;have h1:=h.slots;revert h1;simp only[mkS];generalize hL:L=L';clear hL
  induction L' with
  |nil=>intro _;simp[mkσ,Rd]
  |cons p r ih=>
   obtain ⟨j,x⟩:=p;intro h1;simp only[Aun]at h1;simp only[mkσ,uA];split
   ·rename_i hb;have:=yK hb;subst this;have h2:=hs.slot j;rw[←h1.1]at h2;exact Rd.unren kc (λb _=>Y1 b) _ _ h1.2.1 h2
   ·exact ih h1.2.2
 ·intro i;have h1:=h.objs;have hK:∀p∈O,p.1∈O.keys:=λp hp=>yS.2 ⟨p,hp,rfl⟩
  have key:∀O':Obs,(∀p∈O',p.1∈O.keys)→Azo ρ O.keys s O'→(i∈O'.map (·.1)→ObOK (Y3 κ (Bd ρ) O.keys) w i (mkh O' i))∧(i∉O'.map (·.1)→mkh O' i=.fresh):=by
   intro O'
   induction O' with
   |nil=>intro _ _;exact⟨by simp,λ_=>rfl⟩
   |cons p r ih=>
    obtain ⟨j,x⟩:=p;intro hk h1;simp only[Azo]at h1;obtain ⟨h2,h3⟩:=ih (λp hp=>hk p (by simp[hp])) h1.2.2;simp only[mkh,uA,xV,yH,uC];constructor
    ·intro hm;split
     ·rename_i hb;have:=yK hb;subst this;rcases h1.1 with h4|h4
      ·have h5:=hs.obj (Bd ρ j);rw[←h4]at h5;exact ObOK.unren kc (λb _=>Y1 b) (hk (j,x) y_) h1.2.1 h5
      ·rw[h4];trivial
     ·rename_i hb;exact h2 (hm.resolve_left (λe=>hb (by subst e;simp)))
    ·rintro ⟨dt,de⟩;rw[zD (λhb=>dt (yK hb).symm)];exact h3 de
  obtain ⟨h2,h3⟩:=key O hK h1;by_cases hi:i∈O.map (·.1)
  ·exact h2 hi
  ·simp only[mkS];rw[h3 hi];exact Ang hi
theorem Vr{body:Code}{α:Type}(L:α→List (Nat×SV))(O:α→Obs)(μ:α→Nat)(x₀:α)(ρ:List (Nat×Nat))(bc:Sub C s ρ (L x₀) (O x₀))(h:∀x,G C (.code body::.inv (λa w=>∃x' κ,μ x'<μ x∧St C.F C.n (mkS (L x') (O x')) κ a w)::k) (mkS (L x) (O x))):G C (.code (.loop body)::k) s:=λκ a w hs=>by
 refine wp_loop_ghost (λm a w=>∃x κ,μ x=m∧St C.F C.n (mkS (L x) (O x)) κ a w) (μ x₀) ⟨x₀,_,E,bc.st hs⟩ ?_;rintro m a' w' ⟨x,κ',rfl,v8⟩;refine wp_mono (h x κ' a' w' v8) ?_;intro e a'' xu hq;cases e with
 |normal=>
  obtain ⟨x',κ'',h1,h2⟩:=hq;exact⟨μ x',h1,x',κ'',E,h2⟩
 |exit id=>exact hq
 |goto l=>exact hq
 |ret=>exact hq
 |panic c=>exact hq
 |outgrown=>exact hq
theorem Xk{α:Type}{L:α→List (Nat×SV)}{O:α→Obs}{μ:α→Nat}{x:α}(x':α)(ρ:List (Nat×Nat))(hμ:μ x'<μ x)(bc:Sub C s ρ (L x') (O x')):G C (.inv (λa w=>∃x' κ,μ x'<μ x∧St C.F C.n (mkS (L x') (O x')) κ a w)::k) s:=λ_ _ _ hs=>⟨x',_,hμ,bc.st hs⟩
variable {C:Cx} {k:List KI} {s:SS}
inductive ResV(Γ:TypeId→Option TI)(s:SS):ResultVar→SV→Prop
 |tmp {t:Nat}:ResV Γ s (.tmp t) (s.σ t)
 |cell {a:Nat} {t:TypeId} {k off:Nat} {l:List SV} {i:TI} {x:SV} (h1:s.σ a=.ptr k off) (h2:s.h k=.box l) (h3:Γ t=some i) (h4:M0 i l off=some x):ResV Γ s (.cell a t) x
inductive ResVs(Γ:TypeId→Option TI)(s:SS):List ResultVar→List SV→Prop
 |nil:ResVs Γ s [] []
 |cons {r:ResultVar} {rs:List ResultVar} {x:SV} {xs:List SV} (h:ResV Γ s r x) (hs:ResVs Γ s rs xs):ResVs Γ s (r::rs) (x::xs)
def Ah4:List SV→SV
 |[x]=>x
 |xs=>.tup xs
theorem A0z{F:Fr}{n:Nat}{κ:Ka}{a:Act}{w:World}{P:Program}{Γ:Ty P}(hs:St F n s κ a w){r:ResultVar}{x:SV}(h:ResV Γ.get s r x):∃v,(match r with| .tmp t=>(pure (a.tmps.getD t undef):Sem Value)| .cell b t=>do loadVar t (←asAddr (a.tmps.getD b undef))).run P w=.ok v w∧Rd κ w x v:=by
 cases h with
 | @tmp t=>exact⟨_,rfl,hs.slot t⟩
 | @cell b t k off l i x h1 h2 h3 h4=>
  have hp:=hs.slot b;have ho:=hs.obj k;rw[h2]at ho;obtain ⟨bb,e1,e2⟩:=ho.cellsAt;rw[h1]at hp;simp only[Rd,e1]at hp;obtain ⟨v,e3,e4⟩:=Ms (P:=P) Γ h3 e2 h4;rw[wE]at e3;refine⟨v,?_,e4⟩;simp only[hp,Sem.run_bind,asAddr,Sem.run_pure,Result.andThen_ok,e3]
theorem Uk{F:Fr}{n:Nat}{κ:Ka}{a:Act}{w:World}{P:Program}{Γ:Ty P}(hs:St F n s κ a w){fn:Func}{rs:List ResultVar}(hf:fn.results=rs.toArray){xs:List SV}(h:ResVs Γ.get s rs xs):∃v,(results fn a.tmps).run P w=.ok v w∧Rd κ w (Ah4 xs) v:=by
 have key:∀(rs:List ResultVar) (xs:List SV),ResVs Γ.get s rs xs→∃vs:List Value,(rs.mapM (λ(r:ResultVar)=>match r with| .tmp t=>(pure (a.tmps.getD t undef):Sem Value)| .cell b t=>do loadVar t (←asAddr (a.tmps.getD b undef)))).run P w=.ok vs w∧RdL κ w xs vs:=by
  intro rs xs h
  induction h with
  |nil=>exact⟨[],by simp,by simp[RdL]⟩
  | @cons r rs x xs h v8 ih=>
   obtain ⟨v,h1,h2⟩:=A0z (P:=P) (Γ:=Γ) hs h;obtain ⟨vs,h3,h4⟩:=ih;refine⟨v::vs,?_,by simp only[RdL];exact⟨v,vs,E,h2,h4⟩⟩;simp only[List.mapM_cons,Sem.run_bind,h1,Result.andThen_ok,h3,Sem.run_pure]
 obtain ⟨vs,h1,h2⟩:=key rs xs h;have au:(fn.results.mapM (λ(r:ResultVar)=>match r with| .tmp t=>(pure (a.tmps.getD t undef):Sem Value)| .cell b t=>do loadVar t (←asAddr (a.tmps.getD b undef)))).run P w=.ok vs.toArray w:=by
  rw[hf,Array.mapM_eq_mapM_toList];simp only[Sem.run_map,h1,Result.andThen_ok]
 refine⟨if h:vs.toArray.size=1 then vs.toArray[0] else .tuple vs.toArray,?_,?_⟩
 ·unfold results;rw[Sem.run_bind];change ((Sem.run P (fn.results.mapM (λ(r:ResultVar)=>match r with| .tmp t=>(pure (a.tmps.getD t undef):Sem Value)| .cell b t=>do loadVar t (←asAddr (a.tmps.getD b undef)))) w).andThen λq w'=>Sem.run P (pure (if h:q.size=1 then q[0] else Value.tuple q)) w')=_;rw[au];rfl
 ·have hlen:=h2.length
  match xs,hlen,h2 with
  |[],hlen,h2=>
   simp only[RdL]at h2;subst h2;simp[Ah4,Rd,RdL]
  |[x],hlen,h2=>
   simp only[RdL]at h2;obtain ⟨v,r,rfl,h3,rfl⟩:=h2;simpa [Ah4] using h3
  |x::y::xs,hlen,h2=>
   have ag:vs.toArray.size≠1:=by simp at hlen⊢;omega
   rw[dif_neg ag];simp only[Ah4,Rd];exact⟨vs,E,h2⟩
def argσ(A:List SV):Nat→SV:=λi=>match If A i with|some x=>x|none=>.val undef
theorem RdL.getD{κ:Ka}{w:World}:∀{A:List SV} {vs:List Value} (m i:Nat),RdL κ w A vs→Rd κ w (argσ A i) ((vs++List.replicate m undef).getD i undef)
 |[],vs,m,i,h=>by
  simp only[RdL]at h;subst h;have:argσ [] i=.val undef:=by cases i<;>rfl
  rw[this];simp only[Rd,wC,wH,List.getElem?_replicate];split<;>rfl
 |x::A,vs,m,0,h=>by
  simp only[RdL]at h;obtain ⟨v,r,rfl,h1,h2⟩:=h;simpa [argσ,If] using h1
 |x::A,vs,m,i+1,h=>by
  simp only[RdL]at h;obtain ⟨v,r,rfl,h1,h2⟩:=h;have:=RdL.getD (i:=i) m h2;simpa [argσ,If] using this
def Wo(P:Program)(fn:Func)(F:Fr)(R:SV)(H':Obs):Exit→Act→World→Prop:=match F.ds with
 |[]=>bodyPost P fn λe w'=>∃v κ',e=.returned v∧Ctx F κ' w'∧Inv κ' w'∧Rd κ' w' R v∧H'.ok κ' w'
 |_=>λ_ _ _=>True
theorem Ast{κ:Ka}{w:World}:∀{O:Obs} {i:Nat},(∀p∈O,ObOK κ w p.1 p.2)→(i∉O.map (·.1)→κ i=.new)→ObOK κ w i (mkh O i)
 |[],i,_,h=>h y_
 |(j,x)::r,i,h1,h2=>by
  simp only[mkh,uA];split
  ·rename_i hb;have:=yK hb;subst this;exact h1 (j,x) y_
  ·rename_i hb;exact Ast (λ p hp=>h1 p (by simp[hp])) (λ hi=>h2 (by
    simp only[xV,yH,uC];exact⟨λ e=>hb (by subst e;simp),hi⟩))
theorem Awx{P:Program}(Γ:Ty P){f:FuncId}{fn:Func}{c:Code}{A:List SV}{H:Obs}{R:SV}{H':Obs}(hf:P.funcs[f]? = some fn)(hb:fn.body=some c){n:Nat}(lj:fn.ntmps=n)(hn:A.length≤n)(h:∀(F:Fr) (hF:∀k,F.k0 k≠.new→k∈H.keys),G ⟨P,Γ,F,n,Wo P fn F R H',H.keys,hF⟩ [.code c] ⟨argσ A,mkh H⟩):Spec P f A H R H':=by
 subst lj;intro κ w vs hi a6 hA hH;refine calls_of_wp hf hb ?_;have hlen:=hA.length;refine h ⟨w,κ,[]⟩ a6 κ _ w ⟨E,?_,hi,Ctx.refl κ w,?_,?_⟩
 ·simp;omega
 ·intro i;have:=hA.getD (fn.ntmps-vs.length) i;have he:(vs.toArray++Array.replicate (fn.ntmps-vs.length) undef)=(vs++List.replicate (fn.ntmps-vs.length) undef).toArray:=by simp
  show Rd κ w _ ((vs.toArray++Array.replicate (fn.ntmps-vs.toArray.size) undef).getD i undef);rw[uY,he];simpa using this
 ·intro k;exact Ast hH (λhk=>Classical.byContradiction λag=>hk (a6 k ag))
theorem Au7{P:Program}{fn:Func}{F:Fr}{R:SV}{H':Obs}{Γ:Ty P}{n:Nat}{bn:List Nat}{hbn:∀k,F.k0 k≠.new→k∈bn}{rs:List ResultVar}(hf:fn.results=rs.toArray){xs:List SV}(hx:ResVs Γ.get s rs xs)(ρ:List (Nat×Nat))(L:Obs)(hL:∀p∈H',p∈L)(hR:R.ren (Bd ρ)=Ah4 xs)(my:R.inn L.keys=true)(bc:Sub ⟨P,Γ,F,n,Wo P fn F R H',bn,hbn⟩ s ρ [] L){κ:Ka}{a:Act}{w:World}(hs:St F n s κ a w):Wo P fn F R H' .ret a w∧Wo P fn F R H' .normal a w:=by
 obtain ⟨v,h1,h2⟩:=Uk (P:=P) (Γ:=Γ) hs hf hx;have cn:=bc.st hs;have kc:Ren (Bd ρ) L.keys κ (Y3 κ (Bd ρ) L.keys):=⟨λk hk=>Y2 hk⟩
 rw[←hR]at h2;have h3:=Rd.unren kc (λb _=>Y1 b) _ _ my h2;have hO:H'.ok (Y3 κ (Bd ρ) L.keys) w:=λp hp=>by
  have hpL:=hL p hp;have h1:=bc.objs;have key:∀O':Obs,(∀q∈O',q.1∈L.keys)→Azo ρ L.keys s O'→∀q∈O',ObOK (Y3 κ (Bd ρ) L.keys) w q.1 q.2:=by
   intro O'
   induction O' with
   |nil=>intro _ _ q hq;cases hq
   |cons q r ih=>
    obtain ⟨j,x⟩:=q;intro hk hm q hq;simp only[Azo]at hm;rcases yH.1 hq with rfl|hq
    ·rcases hm.1 with h4|h4
     ·have h5:=hs.obj (Bd ρ j);rw[←h4]at h5;exact ObOK.unren kc (λb _=>Y1 b) (hk (j,x) y_) hm.2.1 h5
     ·show ObOK _ _ j x;rw[h4];trivial
    ·exact ih (λq hq=>hk q (by simp[hq])) hm.2.2 q hq
  exact key L (λq hq=>yS.2 ⟨q,hq,E⟩) h1 p hpL
 have gv:∃v' κ',Ending.returned v=.returned v'∧Ctx F κ' w∧Inv κ' w∧Rd κ' w R v'∧H'.ok κ' w:=⟨v,_,rfl,cn.ctx,cn.inv,h3,hO⟩
 have h0:=hs.defers;unfold Wo;cases hd:F.ds with
 |nil=>
  rw[hd]at h0;exact⟨⟨h0,v,h1,gv⟩,⟨h0,v,h1,gv⟩⟩
 |cons=>exact⟨trivial,trivial⟩
theorem G_set(d:Nat){x:SV}(h:∀κ w v,Rd κ w (s.σ d) v→Rd κ w x v)(hg:G C k ⟨upd s.σ d x,s.h⟩):G C k s:=λκ a w hs=>
 hg κ a w ⟨hs.defers,hs.size,hs.inv,hs.ctx,λ i=>by
  show Rd κ w (upd s.σ d x i) _;by_cases hi:i=d
  ·subst hi;rw[B1];exact h κ w _ (hs.slot i)
  ·rw[Cp _ _ hi];exact hs.slot i,hs.obj⟩
theorem Ag4(d:Nat){sz:Nat}{α:Type}{e:α→SV}{l:List α}{svs:List SV}(h:s.h d=.lit sz svs)(hl:l.map e=svs)(hg:G C k ⟨s.σ,upd s.h d (.row sz e l)⟩):G C k s:=λκ a w hs=>
 hg κ a w ⟨hs.defers,hs.size,hs.inv,hs.ctx,hs.slot,λ i=>by
  show ObOK κ w i (upd s.h d (.row sz e l) i);by_cases hi:i=d
  ·subst hi;rw[B1];have:=hs.obj i;rw[h]at this;obtain ⟨b,cap,cs,T,fr,e1,e2,e3,e4,e5,e6⟩:=this;have hlen:l.length=svs.length:=by rw[←hl];simp
   exact .inr ⟨b,cap,cs,T,fr,by rw[hlen];exact e1,e2,e3,e4,by omega,λi x hx=>by rw[hlen];exact e6 i x (Qm hl i x hx)⟩
  ·rw[Cp _ _ hi];exact hs.obj i⟩
theorem B7(i d sz:Nat){α:Type}(e:α→SV)(h:s.σ i=.val (.slice none 0 0))(hd:s.h d=.fresh)(hg:G C k ⟨upd s.σ i (.osl d),upd s.h d (.row sz e [])⟩):G C k s:=λκ a w hs=>by
 have a6:κ d=.new:=by have:=hs.obj d;rwa [hd]at this
 obtain ⟨st,inv⟩:=J9 hs.inv a6 (e:=.nil) (Grew.refl w) (λb hb=>by cases hb);refine hg (Ec κ d .nil) a w ⟨hs.defers,hs.size,inv,hs.ctx.step inv st,λj=>?_,λj=>?_⟩
 ·show Rd _ w (upd s.σ i (.osl d) j) _;by_cases hj:j=i
  ·subst hj;rw[B1];have:=hs.slot j;rw[h]at this;simp[Rd,Az,this.val]
  ·rw[Cp _ _ hj];exact Rd.step st _ _ (hs.slot j)
 ·show ObOK _ w j (upd s.h d (.row sz e []) j);by_cases hj:j=d
  ·subst hj;rw[B1];exact .inl ⟨Az _ _ _,rfl⟩
  ·rw[Cp _ _ hj];exact ObOK.step st hj _ (hs.obj j)
def freezeσ(σ:Nat→SV)(x:SV):List Nat→Nat→SV
 |[]=>σ
 |i::r=>freezeσ (upd σ i x) x r
theorem RowAt.freeze{κ κ':Ka}{w:World}{d sz:Nat}{α:Type}{e:α→SV}{l:List α}(h:RowAt κ w d sz l.length (rowF e l)){v:Value}(hv:Rd κ w (.osl d) v)(ho:∀b,b<w.heap.size→¬Own κ b→¬Own κ' b)(hd:∀b,(κ d).block? = some b→b<w.heap.size∧¬Own κ' b):Rd κ' w (.sl sz e l) v:=by
 obtain ⟨b,cap,cs,T,fr,e1,e2,e3,e4,e5,e6⟩:=h;simp only[Rd,e1]at hv;obtain ⟨h1,h2⟩:=hd b (by rw[e1];rfl);simp only[Rd,RdD];refine .inr ⟨b,0,cap,hv,e5,h2,h1,λi hi=>?_⟩;obtain ⟨h0,u,u1,u2,u3,u4⟩:=e6 i (e l[i]) ⟨hi,rfl⟩;refine⟨u,RdD.keep ⟨yG _,λ_ _ _=>rfl,ho⟩ _ _ u1,u2,u3,λj hj=>?_⟩;rw[wE,cell_of_row w b _ cs.toArray T fr e2];simpa using u4 j hj
theorem freezeσ_ok{κ:Ka}{w:World}{a:Act}{x:SV}:∀(r:List Nat) (σ:Nat→SV) (i:Nat),Rd κ w (σ i) (a.tmps.getD i undef)→(i∈r→Rd κ w x (a.tmps.getD i undef))→Rd κ w (freezeσ σ x r i) (a.tmps.getD i undef)
 |[],σ,i,h,_=>h
 |j::r,σ,i,h,h'=>by
  refine freezeσ_ok r (upd σ j x) i ?_ (λhi=>h' (by simp[hi]));by_cases hj:i=j
  ·subst hj;rw[B1];exact h' y_
  ·rw[Cp _ _ hj];exact h
variable {C:Cx} {k:List KI} {s:SS}
structure Fun(P:Program)(f:FuncId)(fn:Func)(c:Code):Prop where
 has:P.funcs[f]? = some fn
 body:fn.body=some c
 name : (fn.name == "runtime.NumGoroutine") = false
theorem Md{P:Program}{f:FuncId}{fn:Func}{c:Code}(h:Fun P f fn c)(args:Array Value)(w:World):(callFunc f args).run P w=.ok (.enter f args) w:=by
 have hn : ¬fn.name = "runtime.NumGoroutine" := by simpa using h.name
 simp[callFunc,h.has,hn,h.body]
theorem Spec.at{P:Program}{f:FuncId}{A:List SV}{H:Obs}{R:SV}{H':Obs}(h:Spec P f A H R H'){ρ:Nat→Nat}(gz:∀i∈H'.keys,∀j∈H'.keys,ρ i=ρ j→i=j)(om:∀k∈H.keys,k∈H'.keys)(xv:Cd H.keys A=true)(hHn:∀p∈H,p.2.inn H.keys=true)(my:R.inn H'.keys=true)(hHn':∀p∈H',p.2.inn H'.keys=true){κ:Ka}{w:World}{vs:List Value}(hi:Inv κ w)(hA:RdL κ w (K0 ρ A) vs)(hH:∀p∈H,ObOK κ w (ρ p.1) (p.2.ren ρ))(a6:∀k∈H'.keys,k∉H.keys→κ (ρ k)=.new):Calls P f vs.toArray w λe w'=>∃v κ',e=.returned v∧Step (λn=>∃k∈H'.keys,ρ k=n) κ w κ' w'∧Inv κ' w'∧Rd κ' w' (R.ren ρ) v∧∀p∈H',ObOK κ' w' (ρ p.1) (p.2.ren ρ):=by
 let κc:Ka:=⟨λk=>if k∈H.keys then κ (ρ k) else .new,λb=>κ.M b∨∃n,(∀k∈H.keys,ρ k≠n)∧(κ n).block? = some b⟩
 have rl:∀k,k∈H.keys→κc k=κ (ρ k):=λk hk=>by simp[κc,hk]
 have m4:∀k,k∉H.keys→κc k=.new:=λk hk=>by simp[κc,hk]
 have od:∀k b,(κc k).block? = some b→k∈H.keys∧(κ (ρ k)).block? = some b:=λk b hb=>by
  by_cases hk:k∈H.keys
  ·rw[rl k hk]at hb;exact⟨hk,hb⟩
  ·rw[m4 k hk]at hb;cases hb
 have hic:Inv κc w:=by
  refine⟨λi j b h1 h2=>?_,λj b h1=>hi.bnd _ b (od j b h1).2,λj b h1 hm=>?_,λb hm=>?_⟩
  ·obtain ⟨a1,a2⟩:=od i b h1;obtain ⟨b1,b2⟩:=od j b h2;exact gz i (om i a1) j (om j b1) (hi.inj _ _ b a2 b2)
  ·obtain ⟨a1,a2⟩:=od j b h1;rcases hm with hm|⟨n,hn,hm⟩
   ·exact hi.apart _ b a2 hm
   ·exact hn j a1 (hi.inj _ _ b a2 hm)
  ·rcases hm with hm|⟨n,_,hm⟩
   ·exact hi.mbnd b hm
   ·exact hi.bnd n b hm
 have nh:∀b,b<w.heap.size→¬Own κ b→¬Own κc b:=by
  rintro b _ hn (⟨j,hj⟩|(hm|⟨n,_,hm⟩))
  ·exact hn (.inl ⟨_,(od j b hj).2⟩)
  ·exact hn (.inr hm)
  ·exact hn (.inl ⟨n,hm⟩)
 have kc:Ren ρ H.keys κ κc:=⟨λk hk=>rl k hk⟩
 have hA':RdL κc w A vs:=RdL.unren kc nh A vs xv hA;have hH':Obs.ok κc w H:=λp hp=>ObOK.unren kc nh (yS.2 ⟨p,hp,rfl⟩) (hHn p hp) (hH p hp)
 refine(h κc w vs hic (λj hj=>Classical.byContradiction λhn=>hj (m4 j hn)) hA' hH').mono ?_;rintro e w' ⟨v,κd,rfl,bx,hid,hR,hO⟩
 let pick:Nat→Option Nat:=λn=>H'.keys.find? (λk=>decide (ρ k=n))
 let κ':Ka:=⟨λn=>match pick n with|some k=>κd k|none=>κ n,κ.M⟩
 have ig:∀k,k∈H'.keys→pick (ρ k)=some k:=λk hk=>by
  cases hf:pick (ρ k) with
  |none=>
   have:=List.find?_eq_none.1 hf k hk;simp at this
  |some j=>
   have h1:=List.find?_some hf;have h2:=List.mem_of_find?_eq_some hf;rw[gz j h2 k hk (zK h1)]
 have ec:∀n,(∀k∈H'.keys,ρ k≠n)→pick n=none:=λn hn=>List.find?_eq_none.2 (λk hk=>by simpa using hn k hk)
 have fg:∀k,k∈H'.keys→κ' (ρ k)=κd k:=λk hk=>by show (match pick (ρ k) with|some k=>κd k|none=>κ (ρ k))=κd k;rw[ig k hk]
 have dg:∀n,(∀k∈H'.keys,ρ k≠n)→κ' n=κ n:=λn hn=>by show (match pick n with|some k=>κd k|none=>κ n)=κ n;rw[ec n hn]
 have cz:∀n,(∃k∈H'.keys,ρ k=n)∨(∀k∈H'.keys,ρ k≠n):=λn=>by
  by_cases hn:∃k∈H'.keys,ρ k=n
  ·exact .inl hn
  ·exact .inr (λk hk e=>hn ⟨k,hk,e⟩)
 have hMd:κd.M=κc.M:=bx.M;have um:∀b,b<w.heap.size→(∀j,(κc j).block? ≠ some b)→w'.heap[b]? = w.heap[b]?:=λb hb hn=>bx.old b hb hn
 have tj:∀j b,(κd j).block? = some b→w.heap.size≤b∨∃i∈H.keys,(κ (ρ i)).block? = some b:=λj b hj=>by
  rcases bx.own j b hj with h1|⟨i,h1⟩
  ·exact .inl h1
  ·exact .inr ⟨i,od i b h1⟩
 have gu:Step (λn=>∃k∈H'.keys,ρ k=n) κ w κ' w':=by
  refine⟨bx.size,bx.os,bx.tape,bx.output,E,λb hm=>?_,λb hb hn=>?_,λn b hn hb=>?_,λn hn=>dg n (λk hk e=>hn ⟨k,hk,e⟩),?_,?_⟩
  ·exact um b (hi.mbnd b hm) (λj hj=>hi.apart _ b (od j b hj).2 hm)
  ·exact um b hb (λj hj=>hn (.inl ⟨_,(od j b hj).2⟩))
  ·refine um b (hi.bnd n b hb) (λj hj=>?_);obtain ⟨a1,a2⟩:=od j b hj;exact hn ⟨j,om j a1,hi.inj _ _ b a2 hb⟩
  ·rintro n ⟨j,hj,rfl⟩;rw[fg j hj];by_cases hjH:j∈H.keys
   ·by_cases xw:κ (ρ j)=.new
    ·exact .inl xw
    ·have:=bx.nam j (by show κc j≠.new;rw[rl j hjH];exact xw);rw[←rl j hjH];exact .inr this
   ·exact .inl (a6 j hj hjH)
  ·rintro b (⟨n,hn⟩|hn)
   ·rcases cz n with ⟨j,hj,rfl⟩|ag
    ·rw[fg j hj]at hn;rcases tj j b hn with h1|⟨i,_,h1⟩
     ·exact .inr h1
     ·exact .inl (.inl ⟨_,h1⟩)
    ·rw[dg n ag]at hn;exact .inl (.inl ⟨n,hn⟩)
   ·exact .inl (.inr hn)
 have hinv:Inv κ' w':=by
  have mixed:∀j∈H'.keys,∀n,(∀k∈H'.keys,ρ k≠n)→∀b,(κd j).block? = some b→(κ n).block? = some b→False:=λj hj n hn b h1 h2=>by
   rcases tj j b h1 with h3|⟨i,hi',h3⟩
   ·have:=hi.bnd n b h2;omega
   ·exact hn i (om i hi') (hi.inj _ _ b h3 h2)
  refine⟨λm n b h1 h2=>?_,λn b h1=>?_,λn b h1 hm=>?_,λb hm=>yV (hi.mbnd b hm) bx.size⟩
  ·rcases cz m with ⟨i,hi',rfl⟩|hm<;>rcases cz n with ⟨j,hj,rfl⟩|hn
   ·rw[fg i hi']at h1;rw[fg j hj]at h2;rw[hid.inj i j b h1 h2]
   ·rw[fg i hi']at h1;rw[dg n hn]at h2;exact(mixed i hi' n hn b h1 h2).elim
   ·rw[dg m hm]at h1;rw[fg j hj]at h2;exact(mixed j hj m hm b h2 h1).elim
   ·rw[dg m hm]at h1;rw[dg n hn]at h2;exact hi.inj m n b h1 h2
  ·rcases cz n with ⟨j,hj,rfl⟩|hn
   ·rw[fg j hj]at h1;exact hid.bnd j b h1
   ·rw[dg n hn]at h1;exact yV (hi.bnd n b h1) bx.size
  ·rcases cz n with ⟨j,hj,rfl⟩|hn
   ·rw[fg j hj]at h1;exact hid.apart j b h1 (by rw[hMd];exact .inl hm)
   ·rw[dg n hn]at h1;exact hi.apart n b h1 hm
 have tl:Ren ρ H'.keys κ' κd:=⟨λk hk=>(fg k hk).symm⟩
 have tm:∀b,b<w'.heap.size→¬Own κd b→¬Own κ' b:=by
  rintro b _ hn (⟨n,h1⟩|h1)
  ·rcases cz n with ⟨j,hj,rfl⟩|ag
   ·rw[fg j hj]at h1;exact hn (.inl ⟨j,h1⟩)
   ·rw[dg n ag]at h1;exact hn (.inr (by rw[hMd];exact .inr ⟨n,λk hk=>ag k (om k hk),h1⟩))
  ·exact hn (.inr (by rw[hMd];exact .inl h1))
 exact⟨v,κ',E,gu,hinv,Rd.ren tl tm R v my hR,λp hp=>ObOK.ren tl tm (yS.2 ⟨p,hp,E⟩) (hHn' p hp) (hO p hp)⟩
def L6(A:List SV)(H:Obs)(R:SV)(H':Obs)(ρ:List (Nat×Nat)):Bool :=
 Wu ρ [] H'.keys&&Akg H.keys H'.keys&&Cd H.keys A&&(H.all λp=>p.2.inn H.keys)&&R.inn H'.keys&&(H'.all λp=>p.2.inn H'.keys)
def Zg(s:SS)(ρ:List (Nat×Nat))(K:List Nat):List Nat→Prop
 |[]=>True
 |k::r=>(Qs K k=true∨s.h (Bd ρ k)=.fresh)∧Zg s ρ K r
def Aai(s:SS)(ρ:List (Nat×Nat)):Obs→Prop
 |[]=>True
 |(i,x)::r=>x.ren (Bd ρ)=s.h (Bd ρ i)∧Aai s ρ r
def O8(ρ:List (Nat×Nat)):Obs→Obs
 |[]=>[]
 |(i,x)::r=>(Bd ρ i,x.ren (Bd ρ))::O8 ρ r
theorem Qo(ρ:List (Nat×Nat)):∀H:Obs,O8 ρ H=H.map λp=>(Bd ρ p.1,p.2.ren (Bd ρ))
 |[]=>rfl
 |(i,x)::r=>by simp[O8,Qo ρ r]
def Tm(P:Program)(o:Oper)(s:SS)(rd:List Nat)(f:FuncId)(B:List SV):Prop :=
 ∀(κ:Ka) (a:Act) (w:World),(∀x∈o.op.operands,Rd κ w (ev s x) (a.eval x))→(∀k∈rd,ObOK κ w k (s.h k))→∃vs:List Value,(execOp a.eval o).run P w=.ok (.enter f vs.toArray) w∧RdL κ w B vs
theorem Vd{P:Program}{o:Oper}{s:SS}{f:FuncId}{fn:Func}{c:Code}{xs:List Operand}{ts:Array TypeId}(h:o.op=.call ⟨.value (.func f),xs.toArray,ts⟩)(hf:Fun P f fn c):Tm P o s [] f (xs.map (ev s)) :=
 λκ a w hr _=>by
  refine⟨xs.map a.eval,?_,O2 xs (λx hx=>hr x (by simp[h,Op.operands,Call.operands,hx]))⟩;have:=Md hf (xs.map a.eval).toArray w;simp[execOp,h,resolve,Act.eval,Deferred.ofValue,invoke]at this⊢;exact this
theorem Aq{P:Program}{o:Oper}{s:SS}{f:FuncId}{fn:Func}{c:Code}{x:Operand}{xs:List Operand}{ts:Array TypeId}{first cap:List SV}(h:o.op=.call ⟨.value x,xs.toArray,ts⟩)(hx:ev s x=.clo (.func f) first cap)(hf:Fun P f fn c):Tm P o s [] f (first++xs.map (ev s)++cap) :=
 λκ a w hr _=>by
  have h1:=hr x (by simp[h,Op.operands,Call.operands]);rw[hx]at h1;simp only[Rd]at h1;obtain ⟨fs,cs,e1,e2,e3⟩:=h1;refine⟨fs++xs.map a.eval++cs,?_,RdL.append (RdL.append e2 (O2 xs (λy hy=>hr y (by simp[h,Op.operands,Call.operands,hy])))) e3⟩;have:=Md hf (fs++xs.map a.eval++cs).toArray w;simp only[execOp,h,resolve,Deferred.ofValue,invoke,e1,Sem.run_bind,Sem.run_pure,Result.andThen_ok]at this⊢;rw[←this];simp
theorem Ap{P:Program}{o:Oper}{s:SS}{f:FuncId}{rd:List Nat}{B:List SV}{A:List SV}{H:Obs}{R:SV}{H':Obs}(ρ:List (Nat×Nat))(hE:Tm P o s rd f B)(hs:Spec P f A H R H')(hA:K0 (Bd ρ) A=B)(hH:Aai s ρ H)(ar:L6 A H R H' ρ=true)(a6:Zg s ρ H.keys H'.keys):Good P o s ⟨R.ren (Bd ρ),rd,O8 ρ H'⟩:=by
 intro κ a w hi hr ho N Q hN;simp only[L6,zE,yZ]at ar;obtain ⟨⟨⟨⟨⟨c1,c2⟩,c3⟩,c4⟩,c5⟩,c6⟩:=ar;obtain ⟨gz,_⟩:=Vy c1;have om:∀k∈H.keys,k∈H'.keys:=λk hk=>by
  simp only[Akg,yZ]at c2;exact memN_iff.1 (c2 k hk)
 have kl:∀k∈H'.keys,Bd ρ k∈(Up.mk (R.ren (Bd ρ)) rd (O8 ρ H')).ws:=λk hk=>by
  obtain ⟨p,hp,rfl⟩:=yS.1 hk;simp only[Up.ws,Qo,List.map_map,yS];exact⟨p,hp,E⟩
 obtain ⟨vs,au,pl⟩:=hE κ a w hr (λk hk=>ho k (.inl hk));have jv:RdL κ w (K0 (Bd ρ) A) vs:=by rw[hA];exact pl
 have hHk:∀H0:Obs,(∀p∈H0,p∈H)→Aai s ρ H0→∀p∈H0,ObOK κ w (Bd ρ p.1) (p.2.ren (Bd ρ)):=by
  intro H0
  induction H0 with
  |nil=>intro _ _ p hp;cases hp
  |cons q r ih=>
   obtain ⟨i,x⟩:=q;intro bc he p hp;simp only[Aai]at he;rcases yH.1 hp with rfl|hp
   ·have hk:i∈H.keys:=yS.2 ⟨(i,x),bc _ y_,rfl⟩;rw[he.1];exact ho _ (.inr (kl i (om i hk)))
   ·exact ih (λq hq=>bc q (by simp[hq])) he.2 p hp
 have hnk:∀k∈H'.keys,k∉H.keys→κ (Bd ρ k)=.new:=by
  have key:∀K:List Nat,(∀k∈K,k∈H'.keys)→Zg s ρ H.keys K→∀k∈K,k∉H.keys→κ (Bd ρ k)=.new:=by
   intro K
   induction K with
   |nil=>intro _ _ k hk;cases hk
   |cons j r ih=>
    intro bc hn k hk jn;simp only[Zg]at hn;rcases yH.1 hk with rfl|hk
    ·rcases hn.1 with h1|h1
     ·exact zY (memN_iff.1 h1) jn
     ·have:=ho _ (.inr (kl k (bc k y_)));rw[h1]at this;exact this
    ·exact ih (λk hk=>bc k (by simp[hk])) hn.2 k hk jn
  exact key _ (λ_ hk=>hk) a6
 have d8:=hs.at (ρ:=Bd ρ) gz om c3 (λp hp=>c4 p hp) c5 (λp hp=>c6 p hp) hi jv (hHk H (λ_ hp=>hp) hH) hnk;simp only[Oper.wp,au,Oper.upon];refine d8.mono ?_;rintro e w' ⟨v,κ',rfl,st,inv,hv,hO⟩;refine hN v κ' w' (st.weaken ?_) inv hv (λp hp=>?_)
 ·rintro n ⟨j,hj,rfl⟩;exact kl j hj
 ·simp only[Qo,yS]at hp;obtain ⟨q,hq,rfl⟩:=hp;exact hO q hq
def Jh(κ:Ka):List Nat→Ka
 |[]=>κ
 |n::V=>Jh (Ec κ n .dead) V
theorem Avj(κ:Ka):∀V:List Nat,(Jh κ V).M=κ.M
 |[]=>rfl
 |n::V=>by rw[Jh,Avj];rfl
theorem Jr{w:World}:∀(V:List Nat) (κ:Ka),Inv κ w→Step (·∈V) κ w (Jh κ V) w∧Inv (Jh κ V) w
 |[],κ,hi=>⟨Step.refl _ κ w,hi⟩
 |n::V,κ,hi=>by
  have h1:=Ju (κ:=κ) (w:=w) (some n);have h2:=Lr hi (some n);obtain ⟨h3,h4⟩:=Jr V (Ec κ n .dead) h2;exact⟨(h1.weaken (λj hj=>by simp only[Option.some.injEq]at hj;subst hj;simp)).trans (h3.weaken (λj hj=>by simp[hj])),h4⟩
theorem Afp(κ:Ka):∀(V:List Nat) (n:Nat),n∈V∨κ n=.dead→Jh κ V n=.dead
 |[],n,h=>h.resolve_left y_
 |m::V,n,h=>by
  rw[Jh];apply Afp;by_cases hm:n=m
  ·subst hm;right;exact Az _ _ _
  ·rcases h with h|h
   ·left;simpa [hm] using h
   ·right;rw[B8 _ _ hm];exact h
theorem Afo(κ:Ka):∀(V:List Nat) (n:Nat),n∉V→Jh κ V n=κ n
 |[],n,_=>rfl
 |m::V,n,h=>by
  simp only[yH,uC]at h;rw[Jh,Afo _ V n h.2,B8 _ _ h.1]
theorem Ai1{κ:Ka}{w:World}(hi:Inv κ w){V:List Nat}{n b:Nat}(hn:n∈V)(hb:(κ n).block? = some b):¬Own (Jh κ V) b:=by
 rintro (⟨j,hj⟩|hj)
 ·by_cases hjV:j∈V
  ·rw[Afp κ V j (.inl hjV)]at hj;cases hj
  ·rw[Afo κ V j hjV]at hj;exact hjV (by rw[hi.inj j n b hj hb];exact hn)
 ·rw[Avj]at hj;exact hi.apart n b hb hj
mutual
inductive Vw(s:SS)(V:List Nat):SV→SV→Prop
 |refl (x:SV):Vw s V x x
 |row {n sz:Nat} {α:Type} {e:α→SV} {l:List α} (h:s.h n=.row sz e l) (hn:Qs V n=true):Vw s V (.osl n) (.sl sz e l)
 |lit {n sz:Nat} {α:Type} {e:α→SV} {l:List α} {svs:List SV} (h:s.h n=.lit sz svs) (hl:l.map e=svs) (hn:Qs V n=true):Vw s V (.osl n) (.sl sz e l)
 |nil {sz:Nat} {α:Type} {e:α→SV}:Vw s V (.val (.slice none 0 0)) (.sl sz e [])
 |box {n sz o:Nat} {y:SV} {l:List SV} (h:s.h n=.box l) (hl:cellsOf y=l) (hc:(y.boxed&&y.data&&Nat.beq l.length sz)=true) (hn:Qs V n=true):Vw s V (.ptr n o) (.ref sz y o)
 |agg {l m:List SV} (h:VwL s V l m):Vw s V (.agg l) (.agg m)
inductive VwL(s:SS)(V:List Nat):List SV→List SV→Prop
 |nil:VwL s V [] []
 |cons {x y:SV} {l m:List SV} (h:Vw s V x y) (hs:VwL s V l m):VwL s V (x::l) (y::m)
end
def Aqi{κ κ':Ka}{w:World}{d sz:Nat}{l:List SV}{x:SV}(h:ObOK κ w d (.box l))(hl:cellsOf x=l)(hb:x.boxed=true)(bg:l.length=sz)(ho:∀b,b<w.heap.size→¬Own κ b→¬Own κ' b)(pn:∀b,(κ d).block? = some b→b<w.heap.size∧¬Own κ' b)(xx:x.data=true)(o:Nat)(v:Value)(hv:Rd κ w (.ptr d o) v):Rd κ' w (.ref sz x o) v:=by
 obtain ⟨b,cs,T,fr,e1,e2,e3,e4,e5⟩:=h;simp only[Rd,e1]at hv;obtain ⟨h1,h2⟩:=pn b (by rw[e1];rfl);rw[←hl]at e5;obtain ⟨u,f1,f2⟩:=Rd.of_cells hb e4 e5;simp only[Rd,RdD];refine⟨b,0,u,by rw[wE];exact hv,h2,h1,RdD.keep ⟨yG _,λ_ _ _=>rfl,ho⟩ _ _ (Rd.data _ _ xx f1),?_,by rw[f2];exact e4,λj hj=>?_⟩
 ·have:=e5.length;rw[←bg,←hl,←this,←f2];simp
 ·rw[wE,cell_of_row w b _ cs.toArray T fr e2,←f2]
def Av5{V:List Nat}{κ:Ka}{w:World}(hi:Inv κ w){n sz:Nat}{α:Type}{e:α→SV}{l:List α}(hn:n∈V)(h:(κ n=.nil∧l=[])∨RowAt κ w n sz l.length (rowF e l)){v:Value}(hv:Rd κ w (.osl n) v):Rd (Jh κ V) w (.sl sz e l) v:=by
 rcases h with ⟨h1,rfl⟩|h1
 ·simp only[Rd,h1]at hv;simp only[Rd,RdD];exact .inl ⟨by simp,none,0,hv⟩
 ·exact h1.freeze hv (Jr V κ hi).1.keeps.out (λb hb=>⟨hi.bnd n b hb,Ai1 hi hn hb⟩)
mutual
theorem Vw.rd{s:SS}{V:List Nat}{κ:Ka}{w:World}(hi:Inv κ w)(ho:∀n∈V,ObOK κ w n (s.h n)):∀{x y:SV} (_:Vw s V x y) {v:Value},Rd κ w x v→Rd (Jh κ V) w y v
 |_,_,.refl x,_,hv=>Rd.step (Jr V κ hi).1 _ _ hv
 |_,_,.row h hn,_,hv=>by
  have h1:=ho _ (memN_iff.1 hn);rw[h]at h1;exact Av5 hi (memN_iff.1 hn) h1 hv
 |_,_,.lit (l:=l) h hl hn,_,hv=>by
  have h1:=ho _ (memN_iff.1 hn);rw[h]at h1;obtain ⟨b,cap,cs,T,fr,e1,e2,e3,e4,e5,e6⟩:=h1;refine Av5 hi (memN_iff.1 hn) (.inr ?_) hv;have hlen:=zH List.length hl;simp only[xF]at hlen;exact⟨b,cap,cs,T,fr,by rw[hlen];exact e1,e2,e3,e4,by omega,λi x hx=>by rw[hlen];exact e6 i x (Qm hl i x hx)⟩
 |_,_,.nil,_,hv=>by
  simp only[Rd,RdD];exact .inl ⟨by simp,none,0,hv.val⟩
 |_,_,.box h hl hc hn,_,hv=>by
  have h1:=ho _ (memN_iff.1 hn);rw[h]at h1;simp only[zE]at hc;exact Aqi h1 hl hc.1.1 (yK hc.2) (Jr V κ hi).1.keeps.out (λb hb=>⟨hi.bnd _ b hb,Ai1 hi (memN_iff.1 hn) hb⟩) hc.1.2 _ _ hv
 |_,_,.agg h,_,hv=>by
  simp only[Rd]at hv⊢;obtain ⟨cs,h1,h2,h3⟩:=hv;exact⟨cs,h1,h2,VwL.rd hi ho h h3⟩
theorem VwL.rd{s:SS}{V:List Nat}{κ:Ka}{w:World}(hi:Inv κ w)(ho:∀n∈V,ObOK κ w n (s.h n)):∀{l m:List SV} (_:VwL s V l m) {vs:List Value},RdL κ w l vs→RdL (Jh κ V) w m vs
 |_,_,.nil,_,hv=>by simpa [RdL] using hv
 |_,_,.cons h hs,_,hv=>by
  simp only[RdL]at hv⊢;obtain ⟨v,r,h1,h2,h3⟩:=hv;exact⟨v,r,h1,Vw.rd hi ho h h2,VwL.rd hi ho hs h3⟩
end
def Auj(ρ:List (Nat×Nat))(K V:List Nat):Bool:=K.all λk=>!(Qs V (Bd ρ k))
def Ov{P:Program}{o:Oper}{s:SS}{f:FuncId}{B:List SV}{A:List SV}{H:Obs}{R:SV}{H':Obs}(ρ:List (Nat×Nat))(V:List Nat)(hE:Tm P o s [] f B)(hs:Spec P f A H R H')(hA:VwL s V B (K0 (Bd ρ) A))(hH:Aai s ρ H)(ar:L6 A H R H' ρ=true)(a6:Zg s ρ H.keys H'.keys)(hV:Auj ρ H'.keys V=true):Good P o s ⟨R.ren (Bd ρ),[],V.map (λn=>(n,.non))++O8 ρ H'⟩:=by
 intro κ a w hi hr ho N Q hN;simp only[L6,zE,yZ]at ar;obtain ⟨⟨⟨⟨⟨c1,c2⟩,c3⟩,c4⟩,c5⟩,c6⟩:=ar;obtain ⟨gz,_⟩:=Vy c1;have om:∀k∈H.keys,k∈H'.keys:=λk hk=>by
  simp only[Akg,yZ]at c2;exact memN_iff.1 (c2 k hk)
 have hVa:∀k∈H'.keys,Bd ρ k∉V:=λk hk hm=>by
  simp only[Auj,yZ]at hV;have:=hV k hk;rw[memN_iff.2 hm]at this;cases this
 have uo:∀k∈H'.keys,Bd ρ k∈(Up.mk (R.ren (Bd ρ)) [] (V.map (λn=>(n,Ob.non))++O8 ρ H')).ws:=λk hk=>by
  obtain ⟨p,hp,rfl⟩:=yS.1 hk;simp only[Up.ws,Qo,wU,List.map_map,yI,yS];exact .inr ⟨p,hp,E⟩
 have xy:∀n∈V,n∈(Up.mk (R.ren (Bd ρ)) [] (V.map (λn=>(n,Ob.non))++O8 ρ H')).ws:=λn hn=>by
  simp only[Up.ws,wU,List.map_map,yI,yS];exact .inl ⟨n,hn,E⟩
 have hoV:∀n∈V,ObOK κ w n (s.h n):=λn hn=>ho n (.inr (xy n hn))
 obtain ⟨st0,inv0⟩:=Jr V κ hi;obtain ⟨vs,au,pl⟩:=hE κ a w hr (λk hk=>by cases hk);have jv:RdL (Jh κ V) w (K0 (Bd ρ) A) vs:=hA.rd hi hoV pl;have hHk:∀H0:Obs,(∀p∈H0,p∈H)→Aai s ρ H0→∀p∈H0,ObOK (Jh κ V) w (Bd ρ p.1) (p.2.ren (Bd ρ)):=by
  intro H0
  induction H0 with
  |nil=>intro _ _ p hp;cases hp
  |cons q r ih=>
   obtain ⟨i,x⟩:=q;intro bc he p hp;simp only[Aai]at he;rcases yH.1 hp with rfl|hp
   ·have hk:i∈H.keys:=yS.2 ⟨(i,x),bc _ y_,rfl⟩;rw[he.1];exact ObOK.step st0 (hVa i (om i hk)) _ (ho _ (.inr (uo i (om i hk))))
   ·exact ih (λq hq=>bc q (by simp[hq])) he.2 p hp
 have hnk:∀k∈H'.keys,k∉H.keys→(Jh κ V) (Bd ρ k)=.new:=by
  have key:∀K:List Nat,(∀k∈K,k∈H'.keys)→Zg s ρ H.keys K→∀k∈K,k∉H.keys→(Jh κ V) (Bd ρ k)=.new:=by
   intro K
   induction K with
   |nil=>intro _ _ k hk;cases hk
   |cons j r ih=>
    intro bc hn k hk jn;simp only[Zg]at hn;rcases yH.1 hk with rfl|hk
    ·rcases hn.1 with h1|h1
     ·exact zY (memN_iff.1 h1) jn
     ·have:=ho _ (.inr (uo k (bc k y_)));rw[h1]at this;rw[Afo κ V _ (hVa k (bc k y_))];exact this
    ·exact ih (λk hk=>bc k (by simp[hk])) hn.2 k hk jn
  exact key _ (λ_ hk=>hk) a6
 have d8:=hs.at (ρ:=Bd ρ) gz om c3 (λp hp=>c4 p hp) c5 (λp hp=>c6 p hp) inv0 jv (hHk H (λ_ hp=>hp) hH) hnk;simp only[Oper.wp,au,Oper.upon];refine d8.mono ?_;rintro e w' ⟨v,κ',rfl,st,inv,hv,hO⟩;refine hN v κ' w' ((st0.weaken xy).trans (st.weaken ?_)) inv hv (λp hp=>?_)
 ·rintro n ⟨j,hj,rfl⟩;exact uo j hj
 ·rcases yI.1 hp with hp|hp
  ·obtain ⟨n,_,rfl⟩:=yS.1 hp;trivial
  ·simp only[Qo,yS]at hp;obtain ⟨q,hq,rfl⟩:=hp;exact hO q hq
mutual
def SV.plain:SV→Bool
 | .top=>true
 | .val _=>true
 | .agg l=>Ae7 l
 | .tup l=>Ae7 l
 |_=>false
def Ae7:List SV→Bool
 |[]=>true
 |x::l=>x.plain&&Ae7 l
end
mutual
theorem Rd.plain{κ κ':Ka}{w w':World}:∀(x:SV) (v:Value),x.plain=true→Rd κ w x v→Rd κ' w' x v
 | .top,_,_,_=>by simp[Rd]
 | .val u,v,_,h=>by simpa [Rd] using h
 | .agg l,v,hp,h=>by
  simp only[Rd,SV.plain]at h hp⊢;obtain ⟨cs,h1,h0,h2⟩:=h;exact⟨cs,h1,h0,RdL.plain l cs hp h2⟩
 | .tup l,v,hp,h=>by
  simp only[Rd,SV.plain]at h hp⊢;obtain ⟨cs,h1,h2⟩:=h;exact⟨cs,h1,RdL.plain l cs hp h2⟩
 | .sl _ _ _,_,hp,_=>by simp[SV.plain]at hp
 | .ref _ _ _,_,hp,_=>by simp[SV.plain]at hp
 | .ptr _ _,_,hp,_=>by simp[SV.plain]at hp
 | .rpt _ _ _ _,_,hp,_=>by simp[SV.plain]at hp
 | .osl _,_,hp,_=>by simp[SV.plain]at hp
 | .ifc _ _,_,hp,_=>by simp[SV.plain]at hp
 | .clo _ _ _,_,hp,_=>by simp[SV.plain]at hp
theorem RdL.plain{κ κ':Ka}{w w':World}:∀(l:List SV) (vs:List Value),Ae7 l=true→RdL κ w l vs→RdL κ' w' l vs
 |[],_,_,h=>by simpa [RdL] using h
 |x::l,vs,hp,h=>by
  simp only[RdL,Ae7,zE]at h hp⊢;obtain ⟨v,r,h1,h2,h3⟩:=h;exact⟨v,r,h1,Rd.plain x v hp.1 h2,RdL.plain l r hp.2 h3⟩
end
mutual
theorem Bj:∀x:SV,x.ren id=x
 | .ptr _ _=>rfl
 | .rpt _ _ _ _=>rfl
 | .osl _=>rfl
 | .agg l=>by simp only[SV.ren,Jm l]
 | .tup l=>by simp only[SV.ren,Jm l]
 | .ifc t x=>by simp only[SV.ren,Bj x]
 | .clo fn f l=>by simp only[SV.ren,Jm f,Jm l]
 | .top=>rfl
 | .val _=>rfl
 | .sl _ _ _=>rfl
 | .ref _ _ _=>rfl
theorem Jm:∀l:List SV,K0 id l=l
 |[]=>rfl
 |x::l=>by simp only[K0,Bj x,Jm l]
end
def Hj{P:Program}{o:Oper}{s:SS}{f:FuncId}{rd:List Nat}{B:List SV}{A:List SV}{R:SV}(V:List Nat)(hE:Tm P o s rd f B)(hs:Spec P f A [] R [])(hA:VwL s V B A)(xv:Cd [] A=true)(hR:R.plain=true):Good P o s ⟨R,V++rd,[]⟩:=by
 intro κ a w hi hr ho N Q hN;have hoV:∀n∈V,ObOK κ w n (s.h n):=λn hn=>ho n (.inl (by simp[hn]))
 obtain ⟨st0,inv0⟩:=Jr V κ hi;obtain ⟨vs,au,pl⟩:=hE κ a w hr (λk hk=>ho k (.inl (by simp[hk])));have jv:RdL (Jh κ V) w A vs:=hA.rd hi hoV pl
 let κc:Ka:=⟨λ_=>.new,Own (Jh κ V)⟩
 have hic:Inv κc w:=by
  refine⟨λi j b h1 _=>?_,λj b h1=>?_,λj b h1=>?_,λb hb=>?_⟩
  ·cases h1
  ·cases h1
  ·cases h1
  ·rcases hb with ⟨j,hj⟩|hj
   ·exact inv0.bnd j b hj
   ·exact inv0.mbnd b hj
 have nh:∀b,b<w.heap.size→¬Own (Jh κ V) b→¬Own κc b:=by
  rintro b _ hn (⟨j,hj⟩|hj)
  ·cases hj
  ·exact hn hj
 have hA':RdL κc w A vs:=RdL.unren (ρ:=id) (K:=[]) (κ:=Jh κ V) ⟨λk hk=>by cases hk⟩ nh A _ xv (by rw[Jm];exact jv);have d8:=hs κc w _ hic (λj hj=>zY rfl hj) hA' (λp hp=>by cases hp);simp only[Oper.wp,au,Oper.upon];refine d8.mono ?_;rintro e w' ⟨v,κ',rfl,bx,inv,hv,_⟩;have dw:∀b,b<w.heap.size→w'.heap[b]? = w.heap[b]?:=λb hb=>bx.old b hb (λj hj=>by cases hj)
 refine hN v κ w' ⟨bx.size,bx.os,bx.tape,bx.output,E,λb hb=>dw b (hi.mbnd b hb),λb hb _=>dw b hb,λj b _ hb=>dw b (hi.bnd j b hb),λ_ _=>rfl,λ_ _=>.inr (.inl E),λ_ hb=>.inl hb⟩
  ⟨hi.inj,λj b hb=>yV (hi.bnd j b hb) bx.size,hi.apart,λb hb=>yV (hi.mbnd b hb) bx.size⟩ (Rd.plain _ _ hR hv) (λp hp=>by cases hp)
def Ad{P:Program}{o:Oper}{s:SS}{f:FuncId}{fn:Func}{c:Code}{xs:List Operand}{ts:Array TypeId}{A:List SV}{H:Obs}{R:SV}{H':Obs}(ρ:List (Nat×Nat))(h:o.op=.call ⟨.value (.func f),xs.toArray,ts⟩)(hf:Fun P f fn c)(hs:Spec P f A H R H')(hA:K0 (Bd ρ) A=xs.map (ev s))(hH:Aai s ρ H)(ar:L6 A H R H' ρ=true)(a6:Zg s ρ H.keys H'.keys):Good P o s ⟨R.ren (Bd ρ),[],O8 ρ H'⟩ :=
 Ap ρ (Vd h hf) hs hA hH ar a6
def Af2{P:Program}{o:Oper}{s:SS}{f:FuncId}{fn:Func}{c:Code}{xs:List Operand}{ts:Array TypeId}{A:List SV}{H:Obs}{R:SV}{H':Obs}(ρ:List (Nat×Nat))(V:List Nat)(h:o.op=.call ⟨.value (.func f),xs.toArray,ts⟩)(hf:Fun P f fn c)(hs:Spec P f A H R H')(hA:VwL s V (xs.map (ev s)) (K0 (Bd ρ) A))(hH:Aai s ρ H)(ar:L6 A H R H' ρ=true)(a6:Zg s ρ H.keys H'.keys)(hV:Auj ρ H'.keys V=true):Good P o s ⟨R.ren (Bd ρ),[],V.map (λn=>(n,.non))++O8 ρ H'⟩ :=
 Ov ρ V (Vd h hf) hs hA hH ar a6 hV
def Iu{P:Program}{o:Oper}{s:SS}{f:FuncId}{fn:Func}{c:Code}{xs:List Operand}{ts:Array TypeId}{A:List SV}{R:SV}(V:List Nat)(h:o.op=.call ⟨.value (.func f),xs.toArray,ts⟩)(hf:Fun P f fn c)(hs:Spec P f A [] R [])(hA:VwL s V (xs.map (ev s)) A)(xv:Cd [] A=true)(hR:R.plain=true):Good P o s ⟨R,V,[]⟩ :=
 by simpa using Hj V (Vd h hf) hs hA xv hR
end Go.Sy
