/-
  Sy9 Sy10 Sy11 Sy12 Sy13 Sy14 Sy15 Sy16 Sy17 Sy18: parts of a proof, joined by program.
-/
import Derived.Test.YtcflgpijohhfbaaGreatXS1
import Derived.Still
import Derived.Laws.IdiomStrings
import Derived.Laws.StructEq
import Derived.KernelRfl
set_option linter.all false
set_option linter.unusedVariables false
set_option linter.unusedSimpArgs false
set_option linter.deprecated false
namespace Go.Sy
variable {C:Cx} {k:List KI} {s:SS}
inductive ResV (Γ:TypeId→Option TI) (s:SS):ResultVar→SV→Prop
 | tmp {t:Nat}:ResV Γ s (.tmp t) (s.σ t)
 | cell {a:Nat} {t:TypeId} {k off:Nat} {l:List SV} {i:TI} {x:SV} (h1:s.σ a=.ptr k off) (h2:s.h k=.box l) (h3:Γ t=some i) (h4:Jz i l off=some x):ResV Γ s (.cell a t) x
inductive ResVs (Γ:TypeId→Option TI) (s:SS):List ResultVar→List SV→Prop
 | nil:ResVs Γ s [] []
 | cons {r:ResultVar} {rs:List ResultVar} {x:SV} {xs:List SV} (h:ResV Γ s r x) (hs:ResVs Γ s rs xs):ResVs Γ s (r::rs) (x::xs)
def Ahj:List SV→SV
 | [x]=>x
 | xs=>.tup xs
theorem Aqb {F:Fr} {n:Nat} {κ:Ka} {a:Act} {w:World} {P:Program} {Γ:Ty P} (hs:St F n s κ a w) {r:ResultVar} {x:SV} (h:ResV Γ.get s r x) :
  ∃ v,(match r with | .tmp t=>(pure (a.tmps.getD t undef):Sem Value) | .cell b t=>do loadVar t (← asAddr (a.tmps.getD b undef))).run P w=.ok v w∧Rd κ w x v:=by
 cases h with
 | @tmp t=>exact⟨_,rfl,hs.slot t⟩
 | @cell b t k off l i x h1 h2 h3 h4 =>
  have hp:=hs.slot b
  have ho:=hs.obj k
  rw[h2]at ho
  obtain ⟨bb,e1,e2⟩:=ho.cellsAt
  rw[h1]at hp
  simp only[Rd,e1]at hp
  obtain ⟨v,e3,e4⟩:=Jp (P:=P) Γ h3 e2 h4
  rw[Nat.zero_add]at e3
  refine⟨v,?_,e4⟩
  simp only[hp,Sem.run_bind,asAddr,Sem.run_pure,Result.andThen_ok,e3]
theorem Afn {F:Fr} {n:Nat} {κ:Ka} {a:Act} {w:World} {P:Program} {Γ:Ty P} (hs:St F n s κ a w) {fn:Func} {rs:List ResultVar} (hf:fn.results=rs.toArray) {xs:List SV} (h:ResVs Γ.get s rs xs) :
  ∃ v,(results fn a.tmps).run P w=.ok v w∧Rd κ w (Ahj xs) v:=by
 have key:∀ (rs:List ResultVar) (xs:List SV),ResVs Γ.get s rs xs→∃ vs:List Value,(rs.mapM (fun (r:ResultVar)=>match r with | .tmp t=>(pure (a.tmps.getD t undef):Sem Value) | .cell b t=>do loadVar t (← asAddr (a.tmps.getD b undef)))).run P w=.ok vs w∧RdL κ w xs vs:=by
  intro rs xs h
  induction h with
  | nil=>exact⟨[],by simp,by simp[RdL]⟩
  | @cons r rs x xs h hs' ih =>
   obtain ⟨v,h1,h2⟩:=Aqb (P:=P) (Γ:=Γ) hs h
   obtain ⟨vs,h3,h4⟩:=ih
   refine⟨v::vs,?_,by simp only[RdL];exact⟨v,vs,E,h2,h4⟩⟩
   simp only[List.mapM_cons,Sem.run_bind,h1,Result.andThen_ok,h3,Sem.run_pure]
 obtain ⟨vs,h1,h2⟩:=key rs xs h
 have hrun:(fn.results.mapM (fun (r:ResultVar)=>match r with | .tmp t=>(pure (a.tmps.getD t undef):Sem Value) | .cell b t=>do loadVar t (← asAddr (a.tmps.getD b undef)))).run P w=.ok vs.toArray w:=by
  rw[hf,Array.mapM_eq_mapM_toList]
  simp only[Sem.run_map,h1,Result.andThen_ok]
 refine⟨if h:vs.toArray.size=1 then vs.toArray[0] else .tuple vs.toArray,?_,?_⟩
 ·unfold results
  rw[Sem.run_bind]
  change ((Sem.run P (fn.results.mapM (fun (r:ResultVar)=>match r with | .tmp t=>(pure (a.tmps.getD t undef):Sem Value) | .cell b t=>do loadVar t (← asAddr (a.tmps.getD b undef)))) w).andThen fun q w'=>Sem.run P (pure (if h:q.size=1 then q[0] else Value.tuple q)) w')=_
  rw[hrun]
  rfl
 ·have hlen:=h2.length
  match xs,hlen,h2 with
  | [],hlen,h2 =>
   simp only[RdL]at h2
   subst h2
   simp[Ahj,Rd,RdL]
  | [x],hlen,h2 =>
   simp only[RdL]at h2
   obtain ⟨v,r,rfl,h3,rfl⟩:=h2
   simpa [Ahj] using h3
  | x::y::xs,hlen,h2 =>
   have hne:vs.toArray.size≠1:=by simp at hlen ⊢;omega
   rw[dif_neg hne]
   simp only[Ahj,Rd]
   exact⟨vs,E,h2⟩
def argσ (A:List SV):Nat→SV:=fun i=>match Ei A i with | some x=>x | none=>.val undef
theorem RdL.getD {κ:Ka} {w:World}:∀ {A:List SV} {vs:List Value} (m i:Nat),RdL κ w A vs→Rd κ w (argσ A i) ((vs++List.replicate m undef).getD i undef)
 | [],vs,m,i,h=>by
  simp only[RdL]at h
  subst h
  have:argσ [] i=.val undef:=by cases i<;>rfl
  rw[this]
  simp only[Rd,List.nil_append,List.getD_eq_getElem?_getD,List.getElem?_replicate]
  split<;>rfl
 | x::A,vs,m,0,h=>by
  simp only[RdL]at h
  obtain ⟨v,r,rfl,h1,h2⟩:=h
  simpa [argσ,Ei] using h1
 | x::A,vs,m,i+1,h=>by
  simp only[RdL]at h
  obtain ⟨v,r,rfl,h1,h2⟩:=h
  have:=RdL.getD (i:=i) m h2
  simpa [argσ,Ei] using this
def Xt (P:Program) (fn:Func) (F:Fr) (R:SV) (H':Obs):Exit→Act→World→Prop:=match F.ds with
 | []=>bodyPost P fn fun e w'=>∃ v κ',e=.returned v∧Ctx F κ' w'∧Inv κ' w'∧Rd κ' w' R v∧H'.ok κ' w'
 | _=>fun _ _ _=>True
theorem Aq2 {κ:Ka} {w:World}:∀ {O:Obs} {i:Nat},(∀ p∈O,ObOK κ w p.1 p.2)→(i∉O.map (·.1)→κ i=.new)→ObOK κ w i (mkh O i)
 | [],i,_,h=>h y_
 | (j,x)::r,i,h1,h2=>by
  simp only[mkh,Bool.cond_eq_ite]
  split
  ·rename_i hb
   have:=Nat.eq_of_beq_eq_true hb
   subst this
   exact h1 (j,x) y_
  ·rename_i hb
   exact Aq2 (fun p hp=>h1 p (by simp[hp])) (fun hi=>h2 (by
    simp only[List.map_cons,List.mem_cons,not_or]
    exact⟨fun e=>hb (by subst e;simp),hi⟩))
theorem Amx {P:Program} (Γ:Ty P) {f:FuncId} {fn:Func} {c:Code} {A:List SV} {H:Obs} {R:SV} {H':Obs} (hf:P.funcs[f]? = some fn) (hb:fn.body=some c) {n:Nat} (hn':fn.ntmps=n) (hn:A.length≤n)
  (h:∀ (F:Fr) (hF:∀ k,F.k0 k≠.new→k∈H.keys),G ⟨P,Γ,F,n,Xt P fn F R H',H.keys,hF⟩ [.code c] ⟨argσ A,mkh H⟩):Spec P f A H R H':=by
 subst hn'
 intro κ w vs hi hnew hA hH
 refine calls_of_wp hf hb ?_
 have hlen:=hA.length
 refine h ⟨w,κ,[]⟩ hnew κ _ w ⟨E,?_,hi,Ctx.refl κ w,?_,?_⟩
 ·simp;omega
 ·intro i
  have:=hA.getD (fn.ntmps-vs.length) i
  have he:(vs.toArray++Array.replicate (fn.ntmps-vs.length) undef)=(vs++List.replicate (fn.ntmps-vs.length) undef).toArray:=by simp
  show Rd κ w _ ((vs.toArray++Array.replicate (fn.ntmps-vs.toArray.size) undef).getD i undef)
  rw[List.size_toArray,he]
  simpa using this
 ·intro k
  exact Aq2 hH (fun hk=>Classical.byContradiction fun hne=>hk (hnew k hne))
theorem Alh {P:Program} {fn:Func} {F:Fr} {R:SV} {H':Obs} {Γ:Ty P} {n:Nat} {bn:List Nat} {hbn:∀ k,F.k0 k≠.new→k∈bn} {rs:List ResultVar} (hf:fn.results=rs.toArray) {xs:List SV} (hx:ResVs Γ.get s rs xs)
  (ρ:List (Nat × Nat)) (L:Obs) (hL:∀ p∈H',p∈L) (hR:R.ren (Az ρ)=Ahj xs) (hRn:R.inn L.keys=true) (hsub:Sub ⟨P,Γ,F,n,Xt P fn F R H',bn,hbn⟩ s ρ [] L) {κ:Ka} {a:Act} {w:World} (hs:St F n s κ a w) :
  Xt P fn F R H' .ret a w∧Xt P fn F R H' .normal a w:=by
 obtain ⟨v,h1,h2⟩:=Afn (P:=P) (Γ:=Γ) hs hf hx
 have hst:=hsub.st hs
 have hren:Ren (Az ρ) L.keys κ (Ts κ (Az ρ) L.keys):=⟨fun k hk=>Tq hk⟩
 rw[← hR]at h2
 have h3:=Rd.unren hren (fun b _=>Tp b) _ _ hRn h2
 have hO:H'.ok (Ts κ (Az ρ) L.keys) w:=fun p hp=>by
  have hpL:=hL p hp
  have h1:=hsub.objs
  have key:∀ O':Obs,(∀ q∈O',q.1∈L.keys)→Ao8 ρ L.keys s O'→∀ q∈O',ObOK (Ts κ (Az ρ) L.keys) w q.1 q.2:=by
   intro O'
   induction O' with
   | nil=>intro _ _ q hq;cases hq
   | cons q r ih =>
    obtain ⟨j,x⟩:=q
    intro hk hm q hq
    simp only[Ao8]at hm
    rcases List.mem_cons.1 hq with rfl | hq
    ·rcases hm.1 with h4 | h4
     ·have h5:=hs.obj (Az ρ j)
      rw[← h4]at h5
      exact ObOK.unren hren (fun b _=>Tp b) (hk (j,x) y_) hm.2.1 h5
     ·show ObOK _ _ j x
      rw[h4];trivial
    ·exact ih (fun q hq=>hk q (by simp[hq])) hm.2.2 q hq
  exact key L (fun q hq=>List.mem_map.2 ⟨q,hq,E⟩) h1 p hpL
 have hfin:∃ v' κ',Ending.returned v=.returned v'∧Ctx F κ' w∧Inv κ' w∧Rd κ' w R v'∧H'.ok κ' w:=⟨v,_,rfl,hst.ctx,hst.inv,h3,hO⟩
 have h0:=hs.defers
 unfold Xt
 cases hd:F.ds with
 | nil =>
  rw[hd]at h0
  exact⟨⟨h0,v,h1,hfin⟩,⟨h0,v,h1,hfin⟩⟩
 | cons=>exact⟨trivial,trivial⟩
theorem G_set (d:Nat) {x:SV} (h:∀ κ w v,Rd κ w (s.σ d) v→Rd κ w x v) (hg:G C k ⟨upd s.σ d x,s.h⟩):G C k s:=fun κ a w hs =>
 hg κ a w ⟨hs.defers,hs.size,hs.inv,hs.ctx,fun i=>by
  show Rd κ w (upd s.σ d x i) _
  by_cases hi:i=d
  ·subst hi;rw[Bi];exact h κ w _ (hs.slot i)
  ·rw[B6 _ _ hi];exact hs.slot i,hs.obj⟩
theorem Ahz (d:Nat) {sz:Nat} {α:Type} {e:α→SV} {l:List α} {svs:List SV} (h:s.h d=.lit sz svs) (hl:l.map e=svs) (hg:G C k ⟨s.σ,upd s.h d (.row sz e l)⟩):G C k s:=fun κ a w hs =>
 hg κ a w ⟨hs.defers,hs.size,hs.inv,hs.ctx,hs.slot,fun i=>by
  show ObOK κ w i (upd s.h d (.row sz e l) i)
  by_cases hi:i=d
  ·subst hi
   rw[Bi]
   have:=hs.obj i
   rw[h]at this
   obtain ⟨b,cap,cs,T,fr,e1,e2,e3,e4,e5,e6⟩:=this
   have hlen:l.length=svs.length:=by rw[← hl];simp
   exact .inr ⟨b,cap,cs,T,fr,by rw[hlen];exact e1,e2,e3,e4,by omega,fun i x hx=>by rw[hlen];exact e6 i x (K8 hl i x hx)⟩
  ·rw[B6 _ _ hi];exact hs.obj i⟩
theorem Cc (i d sz:Nat) {α:Type} (e:α→SV) (h:s.σ i=.val (.slice none 0 0)) (hd:s.h d=.fresh) (hg:G C k ⟨upd s.σ i (.osl d),upd s.h d (.row sz e [])⟩):G C k s:=fun κ a w hs=>by
 have hnew:κ d=.new:=by have:=hs.obj d;rwa [hd]at this
 obtain ⟨st,inv⟩:=Hu hs.inv hnew (e:=.nil) (Grew.refl w) (fun b hb=>by cases hb)
 refine hg (C4 κ d .nil) a w ⟨hs.defers,hs.size,inv,hs.ctx.step inv st,fun j=>?_,fun j=>?_⟩
 ·show Rd _ w (upd s.σ i (.osl d) j) _
  by_cases hj:j=i
  ·subst hj
   rw[Bi]
   have:=hs.slot j
   rw[h]at this
   simp[Rd,Ar,this.val]
  ·rw[B6 _ _ hj];exact Rd.step st _ _ (hs.slot j)
 ·show ObOK _ w j (upd s.h d (.row sz e []) j)
  by_cases hj:j=d
  ·subst hj;rw[Bi];exact .inl ⟨Ar _ _ _,rfl⟩
  ·rw[B6 _ _ hj];exact ObOK.step st hj _ (hs.obj j)
def freezeσ (σ:Nat→SV) (x:SV):List Nat→Nat→SV
 | []=>σ
 | i::r=>freezeσ (upd σ i x) x r
theorem RowAt.freeze {κ κ':Ka} {w:World} {d sz:Nat} {α:Type} {e:α→SV} {l:List α} (h:RowAt κ w d sz l.length (rowF e l)) {v:Value} (hv:Rd κ w (.osl d) v) (ho:∀ b,b<w.heap.size→¬ Own κ b→¬ Own κ' b) (hd:∀ b,(κ d).block? = some b→b<w.heap.size∧¬ Own κ' b):Rd κ' w (.sl sz e l) v:=by
 obtain ⟨b,cap,cs,T,fr,e1,e2,e3,e4,e5,e6⟩:=h
 simp only[Rd,e1]at hv
 obtain ⟨h1,h2⟩:=hd b (by rw[e1];rfl)
 simp only[Rd,RdD]
 refine .inr ⟨b,0,cap,hv,e5,h2,h1,fun i hi=>?_⟩
 obtain ⟨h0,u,u1,u2,u3,u4⟩:=e6 i (e l[i]) ⟨hi,rfl⟩
 refine⟨u,RdD.keep ⟨Nat.le_refl _,fun _ _ _=>rfl,ho⟩ _ _ u1,u2,u3,fun j hj=>?_⟩
 rw[Nat.zero_add,cell_of_row w b _ cs.toArray T fr e2]
 simpa using u4 j hj
theorem freezeσ_ok {κ:Ka} {w:World} {a:Act} {x:SV}:∀ (r:List Nat) (σ:Nat→SV) (i:Nat),Rd κ w (σ i) (a.tmps.getD i undef)→(i∈r→Rd κ w x (a.tmps.getD i undef))→Rd κ w (freezeσ σ x r i) (a.tmps.getD i undef)
 | [],σ,i,h,_=>h
 | j::r,σ,i,h,h'=>by
  refine freezeσ_ok r (upd σ j x) i ?_ (fun hi=>h' (by simp[hi]))
  by_cases hj:i=j
  ·subst hj;rw[Bi];exact h' y_
  ·rw[B6 _ _ hj];exact h
end Go.Sy
namespace Go.Sy
variable {C:Cx} {k:List KI} {s:SS}
structure Fun (P:Program) (f:FuncId) (fn:Func) (c:Code):Prop where
 has:P.funcs[f]? = some fn
 body:fn.body=some c
 name : (fn.name == "runtime.NumGoroutine") = false
theorem Ja {P:Program} {f:FuncId} {fn:Func} {c:Code} (h:Fun P f fn c) (args:Array Value) (w:World):(callFunc f args).run P w=.ok (.enter f args) w:=by
 have hn : ¬ fn.name = "runtime.NumGoroutine" := by simpa using h.name
 simp[callFunc,h.has,hn,h.body]
theorem Spec.at {P:Program} {f:FuncId} {A:List SV} {H:Obs} {R:SV} {H':Obs} (h:Spec P f A H R H') {ρ:Nat→Nat} (hinj:∀ i∈H'.keys,∀ j∈H'.keys,ρ i=ρ j→i=j) (hHH:∀ k∈H.keys,k∈H'.keys)
  (hAn:By H.keys A=true) (hHn:∀ p∈H,p.2.inn H.keys=true) (hRn:R.inn H'.keys=true) (hHn':∀ p∈H',p.2.inn H'.keys=true)
  {κ:Ka} {w:World} {vs:List Value} (hi:Inv κ w) (hA:RdL κ w (Ie ρ A) vs) (hH:∀ p∈H,ObOK κ w (ρ p.1) (p.2.ren ρ)) (hnew:∀ k∈H'.keys,k∉H.keys→κ (ρ k)=.new) :
  Calls P f vs.toArray w fun e w'=>∃ v κ',e=.returned v∧Step (fun n=>∃ k∈H'.keys,ρ k=n) κ w κ' w'∧Inv κ' w'∧Rd κ' w' (R.ren ρ) v∧∀ p∈H',ObOK κ' w' (ρ p.1) (p.2.ren ρ):=by
 let κc:Ka:=⟨fun k=>if k∈H.keys then κ (ρ k) else .new,fun b=>κ.M b∨∃ n,(∀ k∈H.keys,ρ k≠n)∧(κ n).block? = some b⟩
 have hc1:∀ k,k∈H.keys→κc k=κ (ρ k):=fun k hk=>by simp[κc,hk]
 have hc2:∀ k,k∉H.keys→κc k=.new:=fun k hk=>by simp[κc,hk]
 have hcb:∀ k b,(κc k).block? = some b→k∈H.keys∧(κ (ρ k)).block? = some b:=fun k b hb=>by
  by_cases hk:k∈H.keys
  ·rw[hc1 k hk]at hb;exact⟨hk,hb⟩
  ·rw[hc2 k hk]at hb;cases hb
 have hic:Inv κc w:=by
  refine⟨fun i j b h1 h2=>?_,fun j b h1=>hi.bnd _ b (hcb j b h1).2,fun j b h1 hm=>?_,fun b hm=>?_⟩
  ·obtain ⟨a1,a2⟩:=hcb i b h1
   obtain ⟨b1,b2⟩:=hcb j b h2
   exact hinj i (hHH i a1) j (hHH j b1) (hi.inj _ _ b a2 b2)
  ·obtain ⟨a1,a2⟩:=hcb j b h1
   rcases hm with hm | ⟨n,hn,hm⟩
   ·exact hi.apart _ b a2 hm
   ·exact hn j a1 (hi.inj _ _ b a2 hm)
  ·rcases hm with hm | ⟨n,_,hm⟩
   ·exact hi.mbnd b hm
   ·exact hi.bnd n b hm
 have hown:∀ b,b<w.heap.size→¬ Own κ b→¬ Own κc b:=by
  rintro b _ hn (⟨j,hj⟩ | (hm | ⟨n,_,hm⟩))
  ·exact hn (.inl ⟨_,(hcb j b hj).2⟩)
  ·exact hn (.inr hm)
  ·exact hn (.inl ⟨n,hm⟩)
 have hren:Ren ρ H.keys κ κc:=⟨fun k hk=>hc1 k hk⟩
 have hA':RdL κc w A vs:=RdL.unren hren hown A vs hAn hA
 have hH':Obs.ok κc w H:=fun p hp=>ObOK.unren hren hown (List.mem_map.2 ⟨p,hp,rfl⟩) (hHn p hp) (hH p hp)
 refine(h κc w vs hic (fun j hj=>Classical.byContradiction fun hn=>hj (hc2 j hn)) hA' hH').mono ?_
 rintro e w' ⟨v,κd,rfl,hctx,hid,hR,hO⟩
 let pick:Nat→Option Nat:=fun n=>H'.keys.find? (fun k=>decide (ρ k=n))
 let κ':Ka:=⟨fun n=>match pick n with | some k=>κd k | none=>κ n,κ.M⟩
 have hp1:∀ k,k∈H'.keys→pick (ρ k)=some k:=fun k hk=>by
  cases hf:pick (ρ k) with
  | none =>
   have:=List.find?_eq_none.1 hf k hk
   simp at this
  | some j =>
   have h1:=List.find?_some hf
   have h2:=List.mem_of_find?_eq_some hf
   rw[hinj j h2 k hk (of_decide_eq_true h1)]
 have hp2:∀ n,(∀ k∈H'.keys,ρ k≠n)→pick n=none:=fun n hn=>List.find?_eq_none.2 (fun k hk=>by simpa using hn k hk)
 have hk1:∀ k,k∈H'.keys→κ' (ρ k)=κd k:=fun k hk=>by show (match pick (ρ k) with | some k=>κd k | none=>κ (ρ k))=κd k;rw[hp1 k hk]
 have hk2:∀ n,(∀ k∈H'.keys,ρ k≠n)→κ' n=κ n:=fun n hn=>by show (match pick n with | some k=>κd k | none=>κ n)=κ n;rw[hp2 n hn]
 have hcase:∀ n,(∃ k∈H'.keys,ρ k=n)∨(∀ k∈H'.keys,ρ k≠n):=fun n=>by
  by_cases hn:∃ k∈H'.keys,ρ k=n
  ·exact .inl hn
  ·exact .inr (fun k hk e=>hn ⟨k,hk,e⟩)
 have hMd:κd.M=κc.M:=hctx.M
 have hold:∀ b,b<w.heap.size→(∀ j,(κc j).block? ≠ some b)→w'.heap[b]? = w.heap[b]?:=fun b hb hn=>hctx.old b hb hn
 have hback:∀ j b,(κd j).block? = some b→w.heap.size≤b∨∃ i∈H.keys,(κ (ρ i)).block? = some b:=fun j b hj=>by
  rcases hctx.own j b hj with h1 | ⟨i,h1⟩
  ·exact .inl h1
  ·exact .inr ⟨i,hcb i b h1⟩
 have hstep:Step (fun n=>∃ k∈H'.keys,ρ k=n) κ w κ' w':=by
  refine⟨hctx.size,hctx.os,hctx.tape,hctx.output,E,fun b hm=>?_,fun b hb hn=>?_,fun n b hn hb=>?_,fun n hn=>hk2 n (fun k hk e=>hn ⟨k,hk,e⟩),?_,?_⟩
  ·exact hold b (hi.mbnd b hm) (fun j hj=>hi.apart _ b (hcb j b hj).2 hm)
  ·exact hold b hb (fun j hj=>hn (.inl ⟨_,(hcb j b hj).2⟩))
  ·refine hold b (hi.bnd n b hb) (fun j hj=>?_)
   obtain ⟨a1,a2⟩:=hcb j b hj
   exact hn ⟨j,hHH j a1,hi.inj _ _ b a2 hb⟩
  ·rintro n ⟨j,hj,rfl⟩
   rw[hk1 j hj]
   by_cases hjH:j∈H.keys
   ·by_cases hnw:κ (ρ j)=.new
    ·exact .inl hnw
    ·have:=hctx.nam j (by show κc j≠.new;rw[hc1 j hjH];exact hnw)
     rw[← hc1 j hjH]
     exact .inr this
   ·exact .inl (hnew j hj hjH)
  ·rintro b (⟨n,hn⟩ | hn)
   ·rcases hcase n with ⟨j,hj,rfl⟩ | hne
    ·rw[hk1 j hj]at hn
     rcases hback j b hn with h1 | ⟨i,_,h1⟩
     ·exact .inr h1
     ·exact .inl (.inl ⟨_,h1⟩)
    ·rw[hk2 n hne]at hn
     exact .inl (.inl ⟨n,hn⟩)
   ·exact .inl (.inr hn)
 have hinv:Inv κ' w':=by
  have mixed:∀ j∈H'.keys,∀ n,(∀ k∈H'.keys,ρ k≠n)→∀ b,(κd j).block? = some b→(κ n).block? = some b→False:=fun j hj n hn b h1 h2=>by
   rcases hback j b h1 with h3 | ⟨i,hi',h3⟩
   ·have:=hi.bnd n b h2;omega
   ·exact hn i (hHH i hi') (hi.inj _ _ b h3 h2)
  refine⟨fun m n b h1 h2=>?_,fun n b h1=>?_,fun n b h1 hm=>?_,fun b hm=>Nat.lt_of_lt_of_le (hi.mbnd b hm) hctx.size⟩
  ·rcases hcase m with ⟨i,hi',rfl⟩ | hm<;>rcases hcase n with ⟨j,hj,rfl⟩ | hn
   ·rw[hk1 i hi']at h1
    rw[hk1 j hj]at h2
    rw[hid.inj i j b h1 h2]
   ·rw[hk1 i hi']at h1
    rw[hk2 n hn]at h2
    exact(mixed i hi' n hn b h1 h2).elim
   ·rw[hk2 m hm]at h1
    rw[hk1 j hj]at h2
    exact(mixed j hj m hm b h2 h1).elim
   ·rw[hk2 m hm]at h1
    rw[hk2 n hn]at h2
    exact hi.inj m n b h1 h2
  ·rcases hcase n with ⟨j,hj,rfl⟩ | hn
   ·rw[hk1 j hj]at h1;exact hid.bnd j b h1
   ·rw[hk2 n hn]at h1;exact Nat.lt_of_lt_of_le (hi.bnd n b h1) hctx.size
  ·rcases hcase n with ⟨j,hj,rfl⟩ | hn
   ·rw[hk1 j hj]at h1
    exact hid.apart j b h1 (by rw[hMd];exact .inl hm)
   ·rw[hk2 n hn]at h1;exact hi.apart n b h1 hm
 have hren':Ren ρ H'.keys κ' κd:=⟨fun k hk=>(hk1 k hk).symm⟩
 have hown':∀ b,b<w'.heap.size→¬ Own κd b→¬ Own κ' b:=by
  rintro b _ hn (⟨n,h1⟩ | h1)
  ·rcases hcase n with ⟨j,hj,rfl⟩ | hne
   ·rw[hk1 j hj]at h1;exact hn (.inl ⟨j,h1⟩)
   ·rw[hk2 n hne]at h1
    exact hn (.inr (by rw[hMd];exact .inr ⟨n,fun k hk=>hne k (hHH k hk),h1⟩))
  ·exact hn (.inr (by rw[hMd];exact .inl h1))
 exact⟨v,κ',E,hstep,hinv,Rd.ren hren' hown' R v hRn hR,fun p hp=>ObOK.ren hren' hown' (List.mem_map.2 ⟨p,hp,E⟩) (hHn' p hp) (hO p hp)⟩
def I4 (A:List SV) (H:Obs) (R:SV) (H':Obs) (ρ:List (Nat × Nat)):Bool :=
 Qz ρ [] H'.keys && Ac0 H.keys H'.keys && By H.keys A && (H.all fun p=>p.2.inn H.keys) && R.inn H'.keys && (H'.all fun p=>p.2.inn H'.keys)
def T6 (s:SS) (ρ:List (Nat × Nat)) (K:List Nat):List Nat→Prop
 | []=>True
 | k::r=>(Le K k=true∨s.h (Az ρ k)=.fresh)∧T6 s ρ K r
def Vb (s:SS) (ρ:List (Nat × Nat)):Obs→Prop
 | []=>True
 | (i,x)::r=>x.ren (Az ρ)=s.h (Az ρ i)∧Vb s ρ r
def Ks (ρ:List (Nat × Nat)):Obs→Obs
 | []=>[]
 | (i,x)::r=>(Az ρ i,x.ren (Az ρ))::Ks ρ r
theorem La (ρ:List (Nat × Nat)):∀ H:Obs,Ks ρ H=H.map fun p=>(Az ρ p.1,p.2.ren (Az ρ))
 | []=>rfl
 | (i,x)::r=>by simp[Ks,La ρ r]
def Ml (P:Program) (o:Oper) (s:SS) (rd:List Nat) (f:FuncId) (B:List SV):Prop :=
 ∀ (κ:Ka) (a:Act) (w:World),(∀ x∈o.op.operands,Rd κ w (ev s x) (a.eval x))→(∀ k∈rd,ObOK κ w k (s.h k))→∃ vs:List Value,(execOp a.eval o).run P w=.ok (.enter f vs.toArray) w∧RdL κ w B vs
theorem Ow {P:Program} {o:Oper} {s:SS} {f:FuncId} {fn:Func} {c:Code} {xs:List Operand} {ts:Array TypeId} (h:o.op=.call ⟨.value (.func f),xs.toArray,ts⟩) (hf:Fun P f fn c):Ml P o s [] f (xs.map (ev s)) :=
 fun κ a w hr _=>by
  refine⟨xs.map a.eval,?_,Ko xs (fun x hx=>hr x (by simp[h,Op.operands,Call.operands,hx]))⟩
  have:=Ja hf (xs.map a.eval).toArray w
  simp[execOp,h,resolve,Act.eval,Deferred.ofValue,invoke]at this ⊢
  exact this
theorem B4 {P:Program} {o:Oper} {s:SS} {f:FuncId} {fn:Func} {c:Code} {x:Operand} {xs:List Operand} {ts:Array TypeId} {first cap:List SV} (h:o.op=.call ⟨.value x,xs.toArray,ts⟩) (hx:ev s x=.clo (.func f) first cap) (hf:Fun P f fn c) :
  Ml P o s [] f (first++xs.map (ev s)++cap) :=
 fun κ a w hr _=>by
  have h1:=hr x (by simp[h,Op.operands,Call.operands])
  rw[hx]at h1
  simp only[Rd]at h1
  obtain ⟨fs,cs,e1,e2,e3⟩:=h1
  refine⟨fs++xs.map a.eval++cs,?_,RdL.append (RdL.append e2 (Ko xs (fun y hy=>hr y (by simp[h,Op.operands,Call.operands,hy])))) e3⟩
  have:=Ja hf (fs++xs.map a.eval++cs).toArray w
  simp only[execOp,h,resolve,Deferred.ofValue,invoke,e1,Sem.run_bind,Sem.run_pure,Result.andThen_ok]at this ⊢
  rw[← this]
  simp
theorem Bs {P:Program} {o:Oper} {s:SS} {f:FuncId} {rd:List Nat} {B:List SV} {A:List SV} {H:Obs} {R:SV} {H':Obs} (ρ:List (Nat × Nat)) (hE:Ml P o s rd f B) (hs:Spec P f A H R H')
  (hA:Ie (Az ρ) A=B) (hH:Vb s ρ H) (hok:I4 A H R H' ρ=true) (hnew:T6 s ρ H.keys H'.keys):Good P o s ⟨R.ren (Az ρ),rd,Ks ρ H'⟩:=by
 intro κ a w hi hr ho N Q hN
 simp only[I4,Bool.and_eq_true,List.all_eq_true]at hok
 obtain ⟨⟨⟨⟨⟨c1,c2⟩,c3⟩,c4⟩,c5⟩,c6⟩:=hok
 obtain ⟨hinj,_⟩:=Qa c1
 have hHH:∀ k∈H.keys,k∈H'.keys:=fun k hk=>by
  simp only[Ac0,List.all_eq_true]at c2
  exact memN_iff.1 (c2 k hk)
 have hws:∀ k∈H'.keys,Az ρ k∈(Up.mk (R.ren (Az ρ)) rd (Ks ρ H')).ws:=fun k hk=>by
  obtain ⟨p,hp,rfl⟩:=List.mem_map.1 hk
  simp only[Up.ws,La,List.map_map,List.mem_map]
  exact⟨p,hp,E⟩
 obtain ⟨vs,hrun,hxs⟩:=hE κ a w hr (fun k hk=>ho k (.inl hk))
 have hvs:RdL κ w (Ie (Az ρ) A) vs:=by rw[hA];exact hxs
 have hHk:∀ H0:Obs,(∀ p∈H0,p∈H)→Vb s ρ H0→∀ p∈H0,ObOK κ w (Az ρ p.1) (p.2.ren (Az ρ)):=by
  intro H0
  induction H0 with
  | nil=>intro _ _ p hp;cases hp
  | cons q r ih =>
   obtain ⟨i,x⟩:=q
   intro hsub he p hp
   simp only[Vb]at he
   rcases List.mem_cons.1 hp with rfl | hp
   ·have hk:i∈H.keys:=List.mem_map.2 ⟨(i,x),hsub _ y_,rfl⟩
    rw[he.1]
    exact ho _ (.inr (hws i (hHH i hk)))
   ·exact ih (fun q hq=>hsub q (by simp[hq])) he.2 p hp
 have hnk:∀ k∈H'.keys,k∉H.keys→κ (Az ρ k)=.new:=by
  have key:∀ K:List Nat,(∀ k∈K,k∈H'.keys)→T6 s ρ H.keys K→∀ k∈K,k∉H.keys→κ (Az ρ k)=.new:=by
   intro K
   induction K with
   | nil=>intro _ _ k hk;cases hk
   | cons j r ih =>
    intro hsub hn k hk hkn
    simp only[T6]at hn
    rcases List.mem_cons.1 hk with rfl | hk
    ·rcases hn.1 with h1 | h1
     ·exact absurd (memN_iff.1 h1) hkn
     ·have:=ho _ (.inr (hws k (hsub k y_)))
      rw[h1]at this
      exact this
    ·exact ih (fun k hk=>hsub k (by simp[hk])) hn.2 k hk hkn
  exact key _ (fun _ hk=>hk) hnew
 have hcall:=hs.at (ρ:=Az ρ) hinj hHH c3 (fun p hp=>c4 p hp) c5 (fun p hp=>c6 p hp) hi hvs (hHk H (fun _ hp=>hp) hH) hnk
 simp only[Oper.wp,hrun,Oper.upon]
 refine hcall.mono ?_
 rintro e w' ⟨v,κ',rfl,st,inv,hv,hO⟩
 refine hN v κ' w' (st.weaken ?_) inv hv (fun p hp=>?_)
 ·rintro n ⟨j,hj,rfl⟩
  exact hws j hj
 ·simp only[La,List.mem_map]at hp
  obtain ⟨q,hq,rfl⟩:=hp
  exact hO q hq
def E9 (κ:Ka):List Nat→Ka
 | []=>κ
 | n::V=>E9 (C4 κ n .dead) V
theorem Alu (κ:Ka):∀ V:List Nat,(E9 κ V).M=κ.M
 | []=>rfl
 | n::V=>by rw[E9,Alu];rfl
theorem Hg {w:World}:∀ (V:List Nat) (κ:Ka),Inv κ w→Step (·∈V) κ w (E9 κ V) w∧Inv (E9 κ V) w
 | [],κ,hi=>⟨Step.refl _ κ w,hi⟩
 | n::V,κ,hi=>by
  have h1:=Hl (κ:=κ) (w:=w) (some n)
  have h2:=Iu hi (some n)
  obtain ⟨h3,h4⟩:=Hg V (C4 κ n .dead) h2
  exact⟨(h1.weaken (fun j hj=>by simp only[Option.some.injEq]at hj;subst hj;simp)).trans (h3.weaken (fun j hj=>by simp[hj])),h4⟩
theorem Y9 (κ:Ka):∀ (V:List Nat) (n:Nat),n∈V∨κ n=.dead→E9 κ V n=.dead
 | [],n,h=>h.resolve_left y_
 | m::V,n,h=>by
  rw[E9]
  apply Y9
  by_cases hm:n=m
  ·subst hm;right;exact Ar _ _ _
  ·rcases h with h | h
   ·left;simpa [hm] using h
   ·right;rw[Bt _ _ hm];exact h
theorem Y8 (κ:Ka):∀ (V:List Nat) (n:Nat),n∉V→E9 κ V n=κ n
 | [],n,_=>rfl
 | m::V,n,h=>by
  simp only[List.mem_cons,not_or]at h
  rw[E9,Y8 _ V n h.2,Bt _ _ h.1]
theorem Ab1 {κ:Ka} {w:World} (hi:Inv κ w) {V:List Nat} {n b:Nat} (hn:n∈V) (hb:(κ n).block? = some b):¬ Own (E9 κ V) b:=by
 rintro (⟨j,hj⟩ | hj)
 ·by_cases hjV:j∈V
  ·rw[Y9 κ V j (.inl hjV)]at hj;cases hj
  ·rw[Y8 κ V j hjV]at hj
   exact hjV (by rw[hi.inj j n b hj hb];exact hn)
 ·rw[Alu]at hj;exact hi.apart n b hb hj
mutual
inductive Vw (s:SS) (V:List Nat):SV→SV→Prop
 | refl (x:SV):Vw s V x x
 | row {n sz:Nat} {α:Type} {e:α→SV} {l:List α} (h:s.h n=.row sz e l) (hn:Le V n=true):Vw s V (.osl n) (.sl sz e l)
 | lit {n sz:Nat} {α:Type} {e:α→SV} {l:List α} {svs:List SV} (h:s.h n=.lit sz svs) (hl:l.map e=svs) (hn:Le V n=true):Vw s V (.osl n) (.sl sz e l)
 | nil {sz:Nat} {α:Type} {e:α→SV}:Vw s V (.val (.slice none 0 0)) (.sl sz e [])
 | box {n sz o:Nat} {y:SV} {l:List SV} (h:s.h n=.box l) (hl:cellsOf y=l) (hc:(y.boxed && y.data && Nat.beq l.length sz)=true) (hn:Le V n=true):Vw s V (.ptr n o) (.ref sz y o)
 | agg {l m:List SV} (h:VwL s V l m):Vw s V (.agg l) (.agg m)
inductive VwL (s:SS) (V:List Nat):List SV→List SV→Prop
 | nil:VwL s V [] []
 | cons {x y:SV} {l m:List SV} (h:Vw s V x y) (hs:VwL s V l m):VwL s V (x::l) (y::m)
end
theorem Aho {κ κ':Ka} {w:World} {d sz:Nat} {l:List SV} {x:SV} (h:ObOK κ w d (.box l)) (hl:cellsOf x=l) (hb:x.boxed=true) (hsz:l.length=sz) (ho:∀ b,b<w.heap.size→¬ Own κ b→¬ Own κ' b)
  (hdead:∀ b,(κ d).block? = some b→b<w.heap.size∧¬ Own κ' b) (hxd:x.data=true) (o:Nat) (v:Value) (hv:Rd κ w (.ptr d o) v):Rd κ' w (.ref sz x o) v:=by
 obtain ⟨b,cs,T,fr,e1,e2,e3,e4,e5⟩:=h
 simp only[Rd,e1]at hv
 obtain ⟨h1,h2⟩:=hdead b (by rw[e1];rfl)
 rw[← hl]at e5
 obtain ⟨u,f1,f2⟩:=Rd.of_cells hb e4 e5
 simp only[Rd,RdD]
 refine⟨b,0,u,by rw[Nat.zero_add];exact hv,h2,h1,RdD.keep ⟨Nat.le_refl _,fun _ _ _=>rfl,ho⟩ _ _ (Rd.data _ _ hxd f1),?_,by rw[f2];exact e4,fun j hj=>?_⟩
 ·have:=e5.length
  rw[← hsz,← hl,← this,← f2]
  simp
 ·rw[Nat.zero_add,cell_of_row w b _ cs.toArray T fr e2,← f2]
theorem Amb {V:List Nat} {κ:Ka} {w:World} (hi:Inv κ w) {n sz:Nat} {α:Type} {e:α→SV} {l:List α} (hn:n∈V) (h:(κ n=.nil∧l=[])∨RowAt κ w n sz l.length (rowF e l)) {v:Value} (hv:Rd κ w (.osl n) v) :
  Rd (E9 κ V) w (.sl sz e l) v:=by
 rcases h with ⟨h1,rfl⟩ | h1
 ·simp only[Rd,h1]at hv
  simp only[Rd,RdD]
  exact .inl ⟨by simp,none,0,hv⟩
 ·exact h1.freeze hv (Hg V κ hi).1.keeps.out (fun b hb=>⟨hi.bnd n b hb,Ab1 hi hn hb⟩)
mutual
theorem Vw.rd {s:SS} {V:List Nat} {κ:Ka} {w:World} (hi:Inv κ w) (ho:∀ n∈V,ObOK κ w n (s.h n)):∀ {x y:SV} (_:Vw s V x y) {v:Value},Rd κ w x v→Rd (E9 κ V) w y v
 | _,_,.refl x,_,hv=>Rd.step (Hg V κ hi).1 _ _ hv
 | _,_,.row h hn,_,hv=>by
  have h1:=ho _ (memN_iff.1 hn)
  rw[h]at h1
  exact Amb hi (memN_iff.1 hn) h1 hv
 | _,_,.lit (l:=l) h hl hn,_,hv=>by
  have h1:=ho _ (memN_iff.1 hn)
  rw[h]at h1
  obtain ⟨b,cap,cs,T,fr,e1,e2,e3,e4,e5,e6⟩:=h1
  refine Amb hi (memN_iff.1 hn) (.inr ?_) hv
  have hlen:=congrArg List.length hl
  simp only[List.length_map]at hlen
  exact⟨b,cap,cs,T,fr,by rw[hlen];exact e1,e2,e3,e4,by omega,fun i x hx=>by rw[hlen];exact e6 i x (K8 hl i x hx)⟩
 | _,_,.nil,_,hv=>by
  simp only[Rd,RdD]
  exact .inl ⟨by simp,none,0,hv.val⟩
 | _,_,.box h hl hc hn,_,hv=>by
  have h1:=ho _ (memN_iff.1 hn)
  rw[h]at h1
  simp only[Bool.and_eq_true]at hc
  exact Aho h1 hl hc.1.1 (Nat.eq_of_beq_eq_true hc.2) (Hg V κ hi).1.keeps.out (fun b hb=>⟨hi.bnd _ b hb,Ab1 hi (memN_iff.1 hn) hb⟩) hc.1.2 _ _ hv
 | _,_,.agg h,_,hv=>by
  simp only[Rd]at hv ⊢
  obtain ⟨cs,h1,h2,h3⟩:=hv
  exact⟨cs,h1,h2,VwL.rd hi ho h h3⟩
theorem VwL.rd {s:SS} {V:List Nat} {κ:Ka} {w:World} (hi:Inv κ w) (ho:∀ n∈V,ObOK κ w n (s.h n)):∀ {l m:List SV} (_:VwL s V l m) {vs:List Value},RdL κ w l vs→RdL (E9 κ V) w m vs
 | _,_,.nil,_,hv=>by simpa [RdL] using hv
 | _,_,.cons h hs,_,hv=>by
  simp only[RdL]at hv ⊢
  obtain ⟨v,r,h1,h2,h3⟩:=hv
  exact⟨v,r,h1,Vw.rd hi ho h h2,VwL.rd hi ho hs h3⟩
end
def Aks (ρ:List (Nat × Nat)) (K V:List Nat):Bool:=K.all fun k=>!(Le V (Az ρ k))
theorem Hq {P:Program} {o:Oper} {s:SS} {f:FuncId} {B:List SV} {A:List SV} {H:Obs} {R:SV} {H':Obs} (ρ:List (Nat × Nat)) (V:List Nat) (hE:Ml P o s [] f B) (hs:Spec P f A H R H')
  (hA:VwL s V B (Ie (Az ρ) A)) (hH:Vb s ρ H) (hok:I4 A H R H' ρ=true) (hnew:T6 s ρ H.keys H'.keys) (hV:Aks ρ H'.keys V=true):Good P o s ⟨R.ren (Az ρ),[],V.map (fun n=>(n,.non))++Ks ρ H'⟩:=by
 intro κ a w hi hr ho N Q hN
 simp only[I4,Bool.and_eq_true,List.all_eq_true]at hok
 obtain ⟨⟨⟨⟨⟨c1,c2⟩,c3⟩,c4⟩,c5⟩,c6⟩:=hok
 obtain ⟨hinj,_⟩:=Qa c1
 have hHH:∀ k∈H.keys,k∈H'.keys:=fun k hk=>by
  simp only[Ac0,List.all_eq_true]at c2
  exact memN_iff.1 (c2 k hk)
 have hVa:∀ k∈H'.keys,Az ρ k∉V:=fun k hk hm=>by
  simp only[Aks,List.all_eq_true]at hV
  have:=hV k hk
  rw[memN_iff.2 hm]at this
  cases this
 have hws2:∀ k∈H'.keys,Az ρ k∈(Up.mk (R.ren (Az ρ)) [] (V.map (fun n=>(n,Ob.non))++Ks ρ H')).ws:=fun k hk=>by
  obtain ⟨p,hp,rfl⟩:=List.mem_map.1 hk
  simp only[Up.ws,La,List.map_append,List.map_map,List.mem_append,List.mem_map]
  exact .inr ⟨p,hp,E⟩
 have hws1:∀ n∈V,n∈(Up.mk (R.ren (Az ρ)) [] (V.map (fun n=>(n,Ob.non))++Ks ρ H')).ws:=fun n hn=>by
  simp only[Up.ws,List.map_append,List.map_map,List.mem_append,List.mem_map]
  exact .inl ⟨n,hn,E⟩
 have hoV:∀ n∈V,ObOK κ w n (s.h n):=fun n hn=>ho n (.inr (hws1 n hn))
 obtain ⟨st0,inv0⟩:=Hg V κ hi
 obtain ⟨vs,hrun,hxs⟩:=hE κ a w hr (fun k hk=>by cases hk)
 have hvs:RdL (E9 κ V) w (Ie (Az ρ) A) vs:=hA.rd hi hoV hxs
 have hHk:∀ H0:Obs,(∀ p∈H0,p∈H)→Vb s ρ H0→∀ p∈H0,ObOK (E9 κ V) w (Az ρ p.1) (p.2.ren (Az ρ)):=by
  intro H0
  induction H0 with
  | nil=>intro _ _ p hp;cases hp
  | cons q r ih =>
   obtain ⟨i,x⟩:=q
   intro hsub he p hp
   simp only[Vb]at he
   rcases List.mem_cons.1 hp with rfl | hp
   ·have hk:i∈H.keys:=List.mem_map.2 ⟨(i,x),hsub _ y_,rfl⟩
    rw[he.1]
    exact ObOK.step st0 (hVa i (hHH i hk)) _ (ho _ (.inr (hws2 i (hHH i hk))))
   ·exact ih (fun q hq=>hsub q (by simp[hq])) he.2 p hp
 have hnk:∀ k∈H'.keys,k∉H.keys→(E9 κ V) (Az ρ k)=.new:=by
  have key:∀ K:List Nat,(∀ k∈K,k∈H'.keys)→T6 s ρ H.keys K→∀ k∈K,k∉H.keys→(E9 κ V) (Az ρ k)=.new:=by
   intro K
   induction K with
   | nil=>intro _ _ k hk;cases hk
   | cons j r ih =>
    intro hsub hn k hk hkn
    simp only[T6]at hn
    rcases List.mem_cons.1 hk with rfl | hk
    ·rcases hn.1 with h1 | h1
     ·exact absurd (memN_iff.1 h1) hkn
     ·have:=ho _ (.inr (hws2 k (hsub k y_)))
      rw[h1]at this
      rw[Y8 κ V _ (hVa k (hsub k y_))]
      exact this
    ·exact ih (fun k hk=>hsub k (by simp[hk])) hn.2 k hk hkn
  exact key _ (fun _ hk=>hk) hnew
 have hcall:=hs.at (ρ:=Az ρ) hinj hHH c3 (fun p hp=>c4 p hp) c5 (fun p hp=>c6 p hp) inv0 hvs (hHk H (fun _ hp=>hp) hH) hnk
 simp only[Oper.wp,hrun,Oper.upon]
 refine hcall.mono ?_
 rintro e w' ⟨v,κ',rfl,st,inv,hv,hO⟩
 refine hN v κ' w' ((st0.weaken hws1).trans (st.weaken ?_)) inv hv (fun p hp=>?_)
 ·rintro n ⟨j,hj,rfl⟩
  exact hws2 j hj
 ·rcases List.mem_append.1 hp with hp | hp
  ·obtain ⟨n,_,rfl⟩:=List.mem_map.1 hp
   trivial
  ·simp only[La,List.mem_map]at hp
   obtain ⟨q,hq,rfl⟩:=hp
   exact hO q hq
mutual
def SV.plain:SV→Bool
 | .top=>true
 | .val _=>true
 | .agg l=>Yt l
 | .tup l=>Yt l
 | _=>false
def Yt:List SV→Bool
 | []=>true
 | x::l=>x.plain && Yt l
end
mutual
theorem Rd.plain {κ κ':Ka} {w w':World}:∀ (x:SV) (v:Value),x.plain=true→Rd κ w x v→Rd κ' w' x v
 | .top,_,_,_=>by simp[Rd]
 | .val u,v,_,h=>by simpa [Rd] using h
 | .agg l,v,hp,h=>by
  simp only[Rd,SV.plain]at h hp ⊢
  obtain ⟨cs,h1,h0,h2⟩:=h
  exact⟨cs,h1,h0,RdL.plain l cs hp h2⟩
 | .tup l,v,hp,h=>by
  simp only[Rd,SV.plain]at h hp ⊢
  obtain ⟨cs,h1,h2⟩:=h
  exact⟨cs,h1,RdL.plain l cs hp h2⟩
 | .sl _ _ _,_,hp,_=>by simp[SV.plain]at hp
 | .ref _ _ _,_,hp,_=>by simp[SV.plain]at hp
 | .ptr _ _,_,hp,_=>by simp[SV.plain]at hp
 | .rpt _ _ _ _,_,hp,_=>by simp[SV.plain]at hp
 | .osl _,_,hp,_=>by simp[SV.plain]at hp
 | .ifc _ _,_,hp,_=>by simp[SV.plain]at hp
 | .clo _ _ _,_,hp,_=>by simp[SV.plain]at hp
theorem RdL.plain {κ κ':Ka} {w w':World}:∀ (l:List SV) (vs:List Value),Yt l=true→RdL κ w l vs→RdL κ' w' l vs
 | [],_,_,h=>by simpa [RdL] using h
 | x::l,vs,hp,h=>by
  simp only[RdL,Yt,Bool.and_eq_true]at h hp ⊢
  obtain ⟨v,r,h1,h2,h3⟩:=h
  exact⟨v,r,h1,Rd.plain x v hp.1 h2,RdL.plain l r hp.2 h3⟩
end
mutual
theorem A5:∀ x:SV,x.ren id=x
 | .ptr _ _=>rfl
 | .rpt _ _ _ _=>rfl
 | .osl _=>rfl
 | .agg l=>by simp only[SV.ren,Hb l]
 | .tup l=>by simp only[SV.ren,Hb l]
 | .ifc t x=>by simp only[SV.ren,A5 x]
 | .clo fn f l=>by simp only[SV.ren,Hb f,Hb l]
 | .top=>rfl
 | .val _=>rfl
 | .sl _ _ _=>rfl
 | .ref _ _ _=>rfl
theorem Hb:∀ l:List SV,Ie id l=l
 | []=>rfl
 | x::l=>by simp only[Ie,A5 x,Hb l]
end
theorem D3 {P:Program} {o:Oper} {s:SS} {f:FuncId} {rd:List Nat} {B:List SV} {A:List SV} {R:SV} (V:List Nat) (hE:Ml P o s rd f B) (hs:Spec P f A [] R [])
  (hA:VwL s V B A) (hAn:By [] A=true) (hR:R.plain=true):Good P o s ⟨R,V++rd,[]⟩:=by
 intro κ a w hi hr ho N Q hN
 have hoV:∀ n∈V,ObOK κ w n (s.h n):=fun n hn=>ho n (.inl (by simp[hn]))
 obtain ⟨st0,inv0⟩:=Hg V κ hi
 obtain ⟨vs,hrun,hxs⟩:=hE κ a w hr (fun k hk=>ho k (.inl (by simp[hk])))
 have hvs:RdL (E9 κ V) w A vs:=hA.rd hi hoV hxs
 let κc:Ka:=⟨fun _=>.new,Own (E9 κ V)⟩
 have hic:Inv κc w:=by
  refine⟨fun i j b h1 _=>?_,fun j b h1=>?_,fun j b h1=>?_,fun b hb=>?_⟩
  ·cases h1
  ·cases h1
  ·cases h1
  ·rcases hb with ⟨j,hj⟩ | hj
   ·exact inv0.bnd j b hj
   ·exact inv0.mbnd b hj
 have hown:∀ b,b<w.heap.size→¬ Own (E9 κ V) b→¬ Own κc b:=by
  rintro b _ hn (⟨j,hj⟩ | hj)
  ·cases hj
  ·exact hn hj
 have hA':RdL κc w A vs:=RdL.unren (ρ:=id) (K:=[]) (κ:=E9 κ V) ⟨fun k hk=>by cases hk⟩ hown A _ hAn (by rw[Hb];exact hvs)
 have hcall:=hs κc w _ hic (fun j hj=>absurd rfl hj) hA' (fun p hp=>by cases hp)
 simp only[Oper.wp,hrun,Oper.upon]
 refine hcall.mono ?_
 rintro e w' ⟨v,κ',rfl,hctx,inv,hv,_⟩
 have hall:∀ b,b<w.heap.size→w'.heap[b]? = w.heap[b]?:=fun b hb=>hctx.old b hb (fun j hj=>by cases hj)
 refine hN v κ w' ⟨hctx.size,hctx.os,hctx.tape,hctx.output,E,fun b hb=>hall b (hi.mbnd b hb),fun b hb _=>hall b hb,fun j b _ hb=>hall b (hi.bnd j b hb),fun _ _=>rfl,fun _ _=>.inr (.inl E),fun _ hb=>.inl hb⟩
  ⟨hi.inj,fun j b hb=>Nat.lt_of_lt_of_le (hi.bnd j b hb) hctx.size,hi.apart,fun b hb=>Nat.lt_of_lt_of_le (hi.mbnd b hb) hctx.size⟩ (Rd.plain _ _ hR hv) (fun p hp=>by cases hp)
theorem Ad {P:Program} {o:Oper} {s:SS} {f:FuncId} {fn:Func} {c:Code} {xs:List Operand} {ts:Array TypeId} {A:List SV} {H:Obs} {R:SV} {H':Obs} (ρ:List (Nat × Nat)) (h:o.op=.call ⟨.value (.func f),xs.toArray,ts⟩) (hf:Fun P f fn c) (hs:Spec P f A H R H')
  (hA:Ie (Az ρ) A=xs.map (ev s)) (hH:Vb s ρ H) (hok:I4 A H R H' ρ=true) (hnew:T6 s ρ H.keys H'.keys):Good P o s ⟨R.ren (Az ρ),[],Ks ρ H'⟩ :=
 Bs ρ (Ow h hf) hs hA hH hok hnew
theorem Ajx {P:Program} {o:Oper} {s:SS} {f:FuncId} {fn:Func} {c:Code} {xs:List Operand} {ts:Array TypeId} {A:List SV} {H:Obs} {R:SV} {H':Obs} (ρ:List (Nat × Nat)) (V:List Nat) (h:o.op=.call ⟨.value (.func f),xs.toArray,ts⟩) (hf:Fun P f fn c) (hs:Spec P f A H R H')
  (hA:VwL s V (xs.map (ev s)) (Ie (Az ρ) A)) (hH:Vb s ρ H) (hok:I4 A H R H' ρ=true) (hnew:T6 s ρ H.keys H'.keys) (hV:Aks ρ H'.keys V=true):Good P o s ⟨R.ren (Az ρ),[],V.map (fun n=>(n,.non))++Ks ρ H'⟩ :=
 Hq ρ V (Ow h hf) hs hA hH hok hnew hV
theorem Eu {P:Program} {o:Oper} {s:SS} {f:FuncId} {fn:Func} {c:Code} {xs:List Operand} {ts:Array TypeId} {A:List SV} {R:SV} (V:List Nat) (h:o.op=.call ⟨.value (.func f),xs.toArray,ts⟩) (hf:Fun P f fn c) (hs:Spec P f A [] R [])
  (hA:VwL s V (xs.map (ev s)) A) (hAn:By [] A=true) (hR:R.plain=true):Good P o s ⟨R,V,[]⟩ :=
 by simpa using D3 V (Ow h hf) hs hA hAn hR
end Go.Sy
namespace Go.Sy
theorem SS.ext' {s t:SS} (h1:∀ i,s.σ i=t.σ i) (h2:∀ k,s.h k=t.h k):s=t:=by
 obtain ⟨a,b⟩:=s
 obtain ⟨c,d⟩:=t
 have e1:a=c:=funext h1
 have e2:b=d:=funext h2
 rw[e1,e2]
structure Stp where
 i:Nat
 o:Oper
 U:Up
 want:Bool
def Ob.shp:Ob→Nat × Option Nat × Option (Nat × SV × Nat)
 | .box _=>(1,none,none)
 | .row _ _ l=>(0,some l.length,none)
 | .lit _ svs=>(0,some svs.length,none)
 | .glob sz x g=>(2,none,some (sz,x,g))
 | .rown _ _ l _ _=>(0,some l.length,none)
 | _=>(0,none,none)
theorem Ob.shp_len {x y:Ob} {n:Nat} (h:x.shp=y.shp) (hy:y.len=some n):x.len=some n:=by
 cases x<;>cases y<;>simp_all[Ob.shp,Ob.len]
theorem Ob.shp_box {x:Ob} {l:List SV} (h:x.shp=(Ob.box l).shp):∃ m,x=.box m:=by
 cases x<;>simp_all[Ob.shp]
def Hp (o:Oper):Bool:=match o.op with | .indexAddr ..=>true | _=>false
def Kx (o:Oper):Bool:=match o.op with | .store ..=>true | _=>false
def Ame (P:Program) (o:Oper) (s:SS) (U:Up):Prop :=
 ∀ (κ:Ka) (a:Act) (w:World),Inv κ w→(∀ x∈o.op.operands,Rd κ w (ev s x) (a.eval x))→(∀ k,k∈U.rd∨k∈U.ws→ObOK κ w k (s.h k)) →
  ∀ (N:Act→World→Prop) (Q:Exit→Act→World→Prop),
   (∀ v κ' w',Step (fun k=>k∈U.ws∨k∈U.rd) κ w κ' w'→Inv κ' w'→Rd κ' w' U.v v→(∀ x∈U.objs,ObOK κ' w' x.1 x.2)→(∀ k,k∈U.rd→k∉U.ws→ObOK κ' w' k (s.h k))→N (a.put o.dst v) w')→o.wp P a w N Q
theorem Good.two {P:Program} {o:Oper} {s:SS} {U:Up} (h:Good P o s U):Ame P o s U:=fun κ a w hi hr ho N Q hN =>
 h κ a w hi hr ho N Q fun v κ' w' st inv hv hob=>hN v κ' w' (st.weaken fun _ hk=>.inl hk) inv hv hob fun k hk hw=>ObOK.step st hw _ (ho k (.inl hk))
theorem Good.keep {P:Program} {o:Oper} {s:SS} {U:Up} (h:Good P o s U) (hk:∀ p∈U.objs,s.h p.1=p.2):Ame P o s ⟨U.v,U.rd++U.ws,[]⟩:=fun κ a w hi hr ho N Q hN =>
 h κ a w hi hr (fun k hk'=>ho k (.inl (by simpa using hk'))) N Q fun v κ' w' st inv hv hob=>hN v κ' w' (st.weaken fun k hk'=>.inr (by simp[hk'])) inv hv (fun x hx=>by cases hx) fun k hk1 _=>by
  by_cases hw:k∈U.ws
  ·obtain ⟨p,hp,rfl⟩:=List.mem_map.1 hw
   rw[hk p hp]
   exact hob p hp
  ·exact ObOK.step st hw _ (ho k (.inl hk1))
theorem St.put2 {F:Fr} {n:Nat} {s:SS} {κ κ':Ka} {a:Act} {w w':World} (h:St F n s κ a w) {dst:Option Nat} {U:Up} {v:Value} (hd:∀ d,dst=some d→d<n)
  (st:Step (fun k=>k∈U.ws∨k∈U.rd) κ w κ' w') (hi:Inv κ' w') (hv:Rd κ' w' U.v v) (ho:∀ x∈U.objs,ObOK κ' w' x.1 x.2) (hr:∀ k,k∈U.rd→k∉U.ws→ObOK κ' w' k (s.h k)):St F n (s.upd dst U) κ' (a.put dst v) w' where
 defers:=by cases dst<;>exact h.defers
 size:=by cases dst<;>simp[Act.put,h.size]
 inv:=hi
 ctx:=h.ctx.step hi st
 slot i:=by
  cases dst with
  | none=>exact Rd.step st _ _ (h.slot i)
  | some d =>
   have hlt:=hd d rfl
   by_cases hi':i=d
   ·subst hi'
    simp only[SS.upd,Bi,Act.put]
    have hs:i<a.tmps.size:=by rw[h.size];exact hlt
    simpa [hs] using hv
   ·simp only[SS.upd,B6 _ _ hi',Act.put]
    have:(a.tmps.setIfInBounds d v).getD i undef=a.tmps.getD i undef:=by
     simp[Array.getElem?_setIfInBounds_ne (Ne.symm hi')]
    rw[this]
    exact Rd.step st _ _ (h.slot i)
 obj k:=Acx _ _ _ ho (fun hk=>by
  by_cases h2:k∈U.rd
  ·exact hr k h2 hk
  ·exact ObOK.step st (fun h3=>h3.elim hk h2) _ (h.obj k))
structure GoodX (P:Program) (o:Oper) (s:SS) (U:Up):Prop where
 good:Ame P o s U
 idx:Hp o=true→U.objs=[]∧∀ s':SS,(∀ x∈o.op.operands,ev s' x=ev s x)→(∀ k∈U.rd,(s'.h k).shp=(s.h k).shp)→Good P o s' U
 st:Kx o=true→∀ p∈U.objs,p.2.shp=(s.h p.1).shp
theorem GoodX.of {P:Program} {o:Oper} {s:SS} {U:Up} (h:Good P o s U) (hn:(Hp o || Kx o)=false):GoodX P o s U:=by
 simp only[Bool.or_eq_false_iff]at hn
 exact⟨h.two,fun h1=>by (rw[hn.1]at h1;cases h1),fun h1=>by (rw[hn.2]at h1;cases h1)⟩
theorem GoodX.of2 {P:Program} {o:Oper} {s:SS} {U:Up} (h:Ame P o s U) (hn:(Hp o || Kx o)=false):GoodX P o s U:=by
 simp only[Bool.or_eq_false_iff]at hn
 exact⟨h,fun h1=>by (rw[hn.1]at h1;cases h1),fun h1=>by (rw[hn.2]at h1;cases h1)⟩
def Stp.ok (P:Program) (all:Array Oper) (s:SS) (t:Stp):Prop :=
 all[t.i]? = some t.o∧Tg all s t.o.guard t.want∧(t.want=true→GoodX P t.o s t.U)∧(t.want=false→t.U=⟨.val undef,[],[]⟩)
def Ar9 (K L:List Nat):Bool:=K.all fun k=>!(Le L k)
theorem Aeb {K L:List Nat} (h:Ar9 K L=true):∀ k∈K,k∉L:=fun k hk hl=>by
 simp only[Ar9,List.all_eq_true]at h
 have:=h k hk
 rw[memN_iff.2 hl]at this
 cases this
def O4 (all:Array Oper) (p t:Stp):Bool :=
 p.o.apart all t.o && Ar9 p.U.ws t.U.ws && (Ar9 p.U.ws t.U.rd || (Kx p.o && Hp t.o)) && (Ar9 t.U.ws p.U.rd || (Kx t.o && Hp p.o))
def Aux (all:Array Oper):Nat→Nat→Oper→Bool
 | 0,_,_=>false
 | n+1,i,o=>o.after.toList.any fun e=>Region.binds .any e && (Nat.beq e.on i || (match all[e.on]? with | some u=>Aux all n i u | none=>false))
def aft (all:Array Oper) (p t:Stp):Bool:=Aux all 4 p.i t.o
def Cl (all:Array Oper) (listed:Array Bool):Prop:=∀ i o,all[i]? = some o→listed.getD i true=true→∀ e∈o.after,Region.binds .any e=true→listed.getD e.on false=true
theorem Alz {listed:Array Bool} {i:Nat} (h:listed.getD i false=true):listed.getD i true=true:=by
 simp only[Array.getD_eq_getD_getElem?]at h ⊢
 cases hh:listed[i]? with
 | none=>rw[hh]at h;cases h
 | some b=>rw[hh]at h;exact h
theorem Xc {all:Array Oper} {listed:Array Bool} (hc:Cl all listed) {i:Nat}:∀ (n:Nat) (o:Oper),(∀ e∈o.after,Region.binds .any e=true→listed.getD e.on false=true)→Aux all n i o=true→listed.getD i false=true
 | 0,_,_,h=>by cases h
 | n+1,o,ho,h=>by
  simp only[Aux,List.any_eq_true,Bool.and_eq_true,Bool.or_eq_true]at h
  obtain ⟨e,h1,h2,h3⟩:=h
  have h4:=ho e (by simpa using h1) h2
  rcases h3 with h3 | h3
  ·rw[← Nat.eq_of_beq_eq_true h3];exact h4
  ·cases hu:all[e.on]? with
   | none=>rw[hu]at h3;cases h3
   | some u =>
    rw[hu]at h3
    exact Xc hc n u (hc e.on u hu (Alz h4)) h3
def Vv (all:Array Oper) (p:Stp):List Stp→Bool
 | []=>true
 | t::r=>(O4 all p t || aft all p t) && Vv all p r
def Jg (all:Array Oper):List Stp→Bool
 | []=>true
 | p::r=>Vv all p r && Jg all r
def Xx (t:Stp):Bool:=t.o.after.toList.all fun e=>!(Region.binds .any e) || Nat.blt e.on t.i
def fin (s:SS):List Stp→SS
 | []=>s
 | t::r=>fin (s.upd t.o.dst t.U) r
def Chain (P:Program) (all:Array Oper):SS→List Stp→Prop
 | _,[]=>True
 | s,t::r=>t.ok P all s∧Chain P all (s.upd t.o.dst t.U) r
theorem Aes {β:Type 1} (f:Nat→β) {d e:Nat} (u v:β) (h:d≠e):upd (upd f d u) e v=upd (upd f e v) d u:=by
 funext i
 by_cases h1:i=d
 ·subst h1;rw[B6 _ _ h,Bi,Bi]
 ·by_cases h2:i=e
  ·subst h2;rw[Bi,B6 _ _ h1,Bi]
  ·rw[B6 _ _ h2,B6 _ _ h1,B6 _ _ h1,B6 _ _ h2]
theorem Aet (h:Nat→Ob) (k:Nat) (o:Ob):∀ (l:List (Nat × Ob)),k∉l.map (·.1)→M0 (upd h k o) l=upd (M0 h l) k o
 | [],_=>rfl
 | (j,x)::r,hk=>by
  simp only[List.map_cons,List.mem_cons,not_or]at hk
  rw[M0,M0,Aes _ _ _ hk.1,Aet _ k o r hk.2]
theorem Abi:∀ (l m:List (Nat × Ob)) (h:Nat→Ob),(∀ k∈l.map (·.1),k∉m.map (·.1))→M0 (M0 h l) m=M0 (M0 h m) l
 | [],m,h,_=>rfl
 | (k,o)::r,m,h,hd=>by
  rw[M0,M0,Abi r m _ (fun j hj=>hd j (by simp at hj ⊢;exact .inr hj)),Aet h k o m (hd k y_)]
theorem W9 {all:Array Oper} {p t:Stp} (h:O4 all p t=true) :
  (∀ d,p.o.dst=some d→d∉t.o.looksAt all)∧(∀ d,p.o.dst=some d→t.o.dst≠some d)∧(∀ d,t.o.dst=some d→d∉p.o.looksAt all)∧(∀ k∈p.U.ws,k∉t.U.ws) ∧
   ((∀ k∈p.U.ws,k∉t.U.rd)∨(Kx p.o=true∧Hp t.o=true))∧((∀ k∈t.U.ws,k∉p.U.rd)∨(Kx t.o=true∧Hp p.o=true)):=by
 simp only[O4,Bool.and_eq_true,Bool.or_eq_true]at h
 obtain ⟨⟨⟨h1,h2⟩,h3⟩,h4⟩:=h
 obtain ⟨a1,a2,a3⟩:=Oper.apart_spec h1
 exact⟨a1,a2,a3,Aeb h2,h3.imp Aeb id,h4.imp Aeb id⟩
theorem Aer {all:Array Oper} {p t:Stp} (h:O4 all p t=true) (s:SS):(s.upd p.o.dst p.U).upd t.o.dst t.U=(s.upd t.o.dst t.U).upd p.o.dst p.U:=by
 obtain ⟨_,h2,_,h4,_,_⟩:=W9 h
 unfold SS.upd
 congr 1
 ·cases hp:p.o.dst with
  | none=>rfl
  | some d =>
   cases ht:t.o.dst with
   | none=>rfl
   | some e=>exact Aes _ _ _ (fun e'=>h2 d hp (by rw[ht,e']))
 ·exact Abi _ _ _ (fun k hk=>h4 k hk)
theorem Wc {all:Array Oper} {s s':SS} {o:Oper} {b:Bool} (a2:Tg all s o.guard b) (h1:∀ d,d∈o.looksAt all→s'.σ d=s.σ d):Tg all s' o.guard b:=by
 unfold Tg at a2 ⊢
 cases hg:o.guard with
 | none=>rw[hg]at a2;exact a2
 | some q =>
  obtain ⟨j,want⟩:=q
  rw[hg]at a2
  obtain ⟨d,b1,b2⟩:=a2
  have hd:s'.σ d=s.σ d:=h1 d (by simp[Oper.looksAt,hg,b1])
  exact⟨d,b1,by rw[hd];exact b2⟩
theorem Ag6 {all:Array Oper} {s s':SS} {o:Oper} (h1:∀ d,d∈o.looksAt all→s'.σ d=s.σ d):∀ x∈o.op.operands,ev s' x=ev s x:=fun x hx=>by
 cases x with
 | tmp d =>
  have hd:s'.σ d=s.σ d:=h1 d (by
   simp only[Oper.looksAt,List.mem_append,List.mem_filterMap]
   exact .inl ⟨.tmp d,by simpa using hx,E⟩)
  simpa only [ev] using hd
 | const v=>rfl
 | global g=>rfl
 | func f=>rfl
theorem Stp.congr {P:Program} {all:Array Oper} {s s':SS} {t:Stp} (h:t.ok P all s) (h1:∀ d,d∈t.o.looksAt all→s'.σ d=s.σ d) (h2:∀ k,k∈t.U.rd∨k∈t.U.ws→s'.h k=s.h k):t.ok P all s':=by
 obtain ⟨a1,a2,a3,a4⟩:=h
 have hev:=Ag6 h1
 refine⟨a1,Wc a2 h1,fun hw=>?_,a4⟩
 obtain ⟨g1,g2,g3⟩:=a3 hw
 refine⟨fun κ a w hi hr ho N Q hN=>?_,fun hi=>?_,fun hi p hp=>?_⟩
 ·exact g1 κ a w hi (fun x hx=>by rw[← hev x hx];exact hr x hx) (fun k hk=>by rw[← h2 k hk];exact ho k hk) N Q (fun v κ' w' st inv hv hob hrd=>hN v κ' w' st inv hv hob fun k hk hw=>by rw[h2 k (.inl hk)];exact hrd k hk hw)
 ·obtain ⟨e1,e2⟩:=g2 hi
  exact⟨e1,fun s'' q1 q2=>e2 s'' (fun x hx=>(q1 x hx).trans (hev x hx)) (fun k hk=>by rw[q2 k hk,h2 k (.inl hk)])⟩
 ·rw[g3 hi p hp,h2 p.1 (.inr (List.mem_map.2 ⟨p,hp,rfl⟩))]
theorem Stp.congrI {P:Program} {all:Array Oper} {s s':SS} {t:Stp} (h:t.ok P all s) (hi:Hp t.o=true) (h1:∀ d,d∈t.o.looksAt all→s'.σ d=s.σ d) (h2:∀ k∈t.U.rd,(s'.h k).shp=(s.h k).shp):t.ok P all s':=by
 obtain ⟨a1,a2,a3,a4⟩:=h
 have hev:=Ag6 h1
 refine⟨a1,Wc a2 h1,fun hw=>?_,a4⟩
 obtain ⟨g1,g2,g3⟩:=a3 hw
 obtain ⟨e1,e2⟩:=g2 hi
 refine⟨(e2 s' hev h2).two,fun _=>⟨e1,fun s'' q1 q2=>e2 s'' (fun x hx=>(q1 x hx).trans (hev x hx)) (fun k hk=>by rw[q2 k hk,h2 k hk])⟩,fun _ p hp=>?_⟩
 rw[e1]at hp
 cases hp
theorem Aeu:∀ (l:List (Nat × Ob)) (h:Nat→Ob) (k:Nat),(∀ q∈l,q.2.shp=(h q.1).shp)→(M0 h l k).shp=(h k).shp
 | [],_,_,_=>rfl
 | (j,o)::r,h,k,hq=>by
  rw[M0,Aeu r (Sy.upd h j o) k (fun q hqr=>?_)]
  ·by_cases hj:k=j
   ·subst hj;rw[Bi];exact hq (k,o) y_
   ·rw[B6 _ _ hj]
  ·rw[hq q (by simp[hqr])]
   by_cases hj:q.1=j
   ·rw[hj,Bi];exact(hq (j,o) y_).symm
   ·rw[B6 _ _ hj]
theorem Stp.lens {P:Program} {all:Array Oper} {s:SS} {t:Stp} (h:t.ok P all s) (hi:Kx t.o=true) (k:Nat):((s.upd t.o.dst t.U).h k).shp=(s.h k).shp:=by
 obtain ⟨_,_,a3,a4⟩:=h
 cases hw:t.want with
 | false=>rw[a4 hw];rfl
 | true=>exact Aeu _ _ _ ((a3 hw).st hi)
theorem upd_σ_ne {s:SS} {dst:Option Nat} {U:Up} {d:Nat} (h:dst≠some d):(s.upd dst U).σ d=s.σ d:=by
 cases dst with
 | none=>rfl
 | some e=>exact B6 _ _ (fun e'=>h (by rw[e']))
theorem Chain.first {P:Program} {all:Array Oper} {t:Stp} {post:List Stp}:∀ {pre:List Stp} {s:SS},Chain P all s (pre++t::post)→(∀ p∈pre,O4 all p t=true) →
  t.ok P all s∧Chain P all (s.upd t.o.dst t.U) (pre++post)∧fin s (pre++t::post)=fin (s.upd t.o.dst t.U) (pre++post)
 | [],s,h,_=>⟨h.1,h.2,rfl⟩
 | p::pre,s,h,hp=>by
  obtain ⟨h1,h2⟩:=h
  obtain ⟨i1,i2,i3⟩:=Chain.first h2 (fun q hq=>hp q (by simp[hq]))
  have ha:=hp p y_
  obtain ⟨b1,b2,b3,b4,b5,b6⟩:=W9 ha
  have ht:t.ok P all s:=by
   rcases b5 with b5 | ⟨c1,c2⟩
   ·exact Stp.congr i1 (fun d hd=>(upd_σ_ne (fun e=>b1 d e hd)).symm) (fun k hk=>(X4 (fun hm=>by
     rcases hk with hk | hk
     ·exact b5 k hm hk
     ·exact b4 k hm hk)).symm)
   ·exact Stp.congrI i1 c2 (fun d hd=>(upd_σ_ne (fun e=>b1 d e hd)).symm) (fun k _=>(Stp.lens h1 c1 k).symm)
  have hpk:p.ok P all (s.upd t.o.dst t.U):=by
   rcases b6 with b6 | ⟨c1,c2⟩
   ·exact Stp.congr h1 (fun d hd=>upd_σ_ne (fun e=>b3 d e hd)) (fun k hk=>X4 (fun hm=>by
     rcases hk with hk | hk
     ·exact b6 k hm hk
     ·exact b4 k hk hm))
   ·exact Stp.congrI h1 c2 (fun d hd=>upd_σ_ne (fun e=>b3 d e hd)) (fun k _=>Stp.lens ht c1 k)
  refine⟨ht,⟨hpk,?_⟩,?_⟩
  ·rw[← Aer ha];exact i2
  ·show fin (s.upd p.o.dst p.U) (pre++t::post)=fin ((s.upd t.o.dst t.U).upd p.o.dst p.U) (pre++post)
   rw[i3,Aer ha]
theorem Wp {all:Array Oper} {t:Stp} {post:List Stp}:∀ {pre:List Stp},Jg all (pre++t::post)=true→(∀ p∈pre,O4 all p t=true∨aft all p t=true)∧Jg all (pre++post)=true
 | [],h=>by
  simp only[List.nil_append,Jg,Bool.and_eq_true]at h
  exact⟨by simp,h.2⟩
 | p::pre,h=>by
  simp only[List.cons_append,Jg,Bool.and_eq_true]at h
  obtain ⟨h1,h2⟩:=h
  obtain ⟨i1,i2⟩:=Wp h2
  have key:∀ l:List Stp,Vv all p (l++t::post)=true→(O4 all p t=true∨aft all p t=true)∧Vv all p (l++post)=true:=by
   intro l
   induction l with
   | nil=>intro h;simp only[List.nil_append,Vv,Bool.and_eq_true,Bool.or_eq_true]at h;exact h
   | cons q l ih =>
    intro h
    simp only[List.cons_append,Vv,Bool.and_eq_true]at h ⊢
    exact⟨(ih h.2).1,h.1,(ih h.2).2⟩
  obtain ⟨k1,k2⟩:=key pre h1
  refine⟨fun q hq=>?_,?_⟩
  ·rcases List.mem_cons.1 hq with rfl | hq
   ·exact k1
   ·exact i1 q hq
  ·simp only[List.cons_append,Jg,Bool.and_eq_true]
   exact⟨k2,i2⟩
theorem Ao1 {P:Program} {F:Fr} {n:Nat} {all:Array Oper} {Q:Exit→Act→World→Prop} (hdst:∀ (i:Nat) (o:Oper),all[i]? = some o→∀ d,o.dst=some d→d<n) :
  ∀ (m:Nat) (rem:List Stp) (listed:Array Bool) (s:SS) (κ:Ka) (a:Act) (w:World),rem.length=m→St F n s κ a w→Chain P all s rem→Jg all rem=true→(∀ t∈rem,Xx t=true) →
   (∀ i,listed.getD i true=false↔∃ t∈rem,t.i=i)→(rem.Pairwise fun p t=>p.i<t.i)→(∀ i,i<all.size→i<listed.size)→Cl all listed→(∀ κ' a' w',St F n (fin s rem) κ' a' w'→Q .normal a' w')→wpAny P .any all Q m listed a w:=by
 intro m
 induction m with
 | zero =>
  intro rem listed s κ a w hm hs _ _ _ hl _ _ _ hQ
  have:rem=[]:=List.eq_nil_of_length_eq_zero hm
  subst this
  refine⟨?_,hQ κ a w hs⟩
  apply List.eq_nil_iff_forall_not_mem.2
  intro i hi
  have h1:=(mem_ready.1 hi).1
  rw[hl i]at h1
  obtain ⟨t,ht,_⟩:=h1
  cases ht
 | succ m ih =>
  intro rem listed s κ a w hm hs hc hp he hl hlt hsz hcl hQ
  have hready:∀ t post,rem=t::post→t.i∈Region.ready .any all listed:=fun t post h0=>by
   subst h0
   refine mem_ready.2 ⟨(hl t.i).2 ⟨t,by simp,E⟩,t.o,hc.1.1,fun e hedge hb=>?_⟩
   have h1:=he t y_
   simp only[Xx,List.all_eq_true,Bool.or_eq_true,Bool.not_eq_true']at h1
   have h2:e.on<t.i:=by
    rcases h1 e (by simpa using hedge) with h2 | h2
    ·rw[hb]at h2;cases h2
    ·exact Nat.le_of_ble_eq_true h2
   have hin:e.on<listed.size:=by
    refine hsz _ ?_
    have:t.i<all.size:=by
     have:=hc.1.1
     rcases Nat.lt_or_ge t.i all.size with h | h
     ·exact h
     ·rw[Array.getElem?_eq_none h]at this;cases this
    omega
   have h3:listed.getD e.on true≠false:=fun h4=>by
    obtain ⟨q,hq,hqi⟩:=(hl e.on).1 h4
    rcases List.mem_cons.1 hq with rfl | hq
    ·omega
    ·have:=(List.pairwise_cons.1 hlt).1 q hq;omega
   simp only[Array.getD_eq_getD_getElem?,Array.getElem?_eq_getElem hin,Option.getD_some]at h3 ⊢
   cases hh:listed[e.on] with
   | true=>rfl
   | false=>exact absurd hh h3
  refine⟨fun h0=>?_,fun i hi=>?_⟩
  ·cases rem with
   | nil=>simp at hm
   | cons t post =>
    have:=hready t post rfl
    rw[h0]at this
    cases this
  ·obtain ⟨h1,oi,h2,h3⟩:=mem_ready.1 hi
   obtain ⟨t,ht,rfl⟩:=(hl i).1 h1
   obtain ⟨pre,post,rfl⟩:=List.append_of_mem ht
   obtain ⟨p1,p2⟩:=Wp hp
   have hap:∀ p∈pre,O4 all p t=true:=fun p hpp=>by
    rcases p1 p hpp with h4 | h4
    ·exact h4
    ·exfalso
     have hto:oi=t.o:=by
      have hok:all[t.i]? = some t.o:=by
       have:∀ (l:List Stp) (s:SS),Chain P all s (l++t::post)→all[t.i]? = some t.o:=by
        intro l
        induction l with
        | nil=>intro s h;exact h.1.1
        | cons q l ih=>intro s h;exact ih _ h.2
       exact this pre s hc
      rw[hok]at h2
      exact(Option.some.inj h2).symm
     rw[hto]at h3
     have h5:=Alz (Xc hcl 4 t.o h3 h4)
     have h6:=(hl p.i).2 ⟨p,by simp[hpp],rfl⟩
     rw[h5]at h6
     cases h6
   obtain ⟨c1,c2,c3⟩:=hc.first hap
   have hlt':(pre++post).Pairwise fun p t=>p.i<t.i:=by
    rw[List.pairwise_append]at hlt ⊢
    obtain ⟨q1,q2,q3⟩:=hlt
    exact⟨q1,(List.pairwise_cons.1 q2).2,fun x hx y hy=>q3 x hx y (by simp[hy])⟩
   have hne:∀ q∈pre++post,q.i≠t.i:=fun q hq=>by
    rw[List.pairwise_append]at hlt
    obtain ⟨q1,q2,q3⟩:=hlt
    rcases List.mem_append.1 hq with hq | hq
    ·have:=q3 q hq t y_;omega
    ·have:=(List.pairwise_cons.1 q2).1 q hq;omega
   have hl':∀ i,(listed.setIfInBounds t.i true).getD i true=false↔∃ q∈pre++post,q.i=i:=fun i=>by
    by_cases hti:t.i=i
    ·subst hti
     constructor
     ·intro h4
      exfalso
      rcases Nat.lt_or_ge t.i listed.size with h5 | h5
      ·simp[h5]at h4
      ·rw[Array.getD_eq_getD_getElem?,Array.getElem?_eq_none (by simpa using h5)]at h4;cases h4
     ·rintro ⟨q,hq,hqi⟩
      exact absurd hqi (hne q hq)
    ·rw[getD_set_ne true hti,hl i]
     constructor
     ·rintro ⟨q,hq,rfl⟩
      refine⟨q,?_,E⟩
      simp only[List.mem_append,List.mem_cons]at hq ⊢
      rcases hq with hq | rfl | hq
      ·exact .inl hq
      ·exact absurd E hti
      ·exact .inr hq
     ·rintro ⟨q,hq,rfl⟩
      refine⟨q,?_,E⟩
      simp only[List.mem_append,List.mem_cons]at hq ⊢
      rcases hq with hq | hq
      ·exact .inl hq
      ·exact .inr (.inr hq)
   have hmono:∀ i,listed.getD i false=true→(listed.setIfInBounds t.i true).getD i false=true:=fun i h=>by
    by_cases hti:t.i=i
    ·subst hti
     rcases Nat.lt_or_ge t.i listed.size with h5 | h5
     ·simp[h5]
     ·rw[Array.getD_eq_getD_getElem?,Array.getElem?_eq_none h5]at h;cases h
    ·rw[getD_set_ne false hti];exact h
   have hcl':Cl all (listed.setIfInBounds t.i true):=fun i o hio hli e he1 he2=>by
    refine hmono _ ?_
    by_cases hti:t.i=i
    ·subst hti
     rw[h2]at hio
     cases hio
     exact h3 e he1 he2
    ·rw[getD_set_ne true hti]at hli
     exact hcl i o hio hli e he1 he2
   have next:∀ (κ':Ka) (a':Act) (w':World),St F n (s.upd t.o.dst t.U) κ' a' w'→wpAny P .any all Q m (listed.setIfInBounds t.i true) a' w':=fun κ' a' w' hs' =>
    ih (pre++post) _ (s.upd t.o.dst t.U) κ' a' w' (by simp at hm ⊢;omega) hs' c2 p2 (fun q hq=>he q (by simp only[List.mem_append,List.mem_cons]at hq ⊢;exact hq.imp id .inr)) hl' hlt' (by simpa using hsz) hcl' (by rw[← c3];exact hQ)
   have hto:all[t.i]? = some t.o:=c1.1
   have hdt:=hdst t.i t.o hto
   unfold wpOp
   rw[hto]
   obtain ⟨_,d2,d3,d4⟩:=c1
   have hwant:=Tf (o:=t.o) hs (fun j want hg d hd=>by
    cases hj:all[j]? with
    | none=>rw[hj]at hd;cases hd
    | some oj=>rw[hj]at hd;exact hdst j oj hj d (by simpa using hd)) d2
   simp only[hwant]
   cases hw:t.want with
   | true =>
    simp only[if_true]
    exact .inl ((d3 hw).good κ a w hs.inv (fun x _=>hs.ev x) (fun j _=>hs.obj j) _ _ (fun v κ' w' st inv hv ho hrd=>next κ' _ w' (hs.put2 hdt st inv hv ho hrd)))
   | false =>
    simp only[Bool.false_eq_true,if_false]
    refine next κ _ w ?_
    rw[d4 hw]
    exact hs.put (U:=⟨.val undef,[],[]⟩) hdt (Step.refl _ κ w) hs.inv (by simp[Rd]) (fun p hp=>by cases hp)
variable {C:Cx} {k:List KI} {s:SS}
def DR (C:Cx) (k:List KI) (all:Array Oper) (done:List Stp) (rest:List Oper) (s:SS):Prop :=
 ∃ ts:List Stp,ts.map (·.o)=rest∧(∀ j t,ts[j]? = some t→t.i=done.length+j)∧Chain C.P all s ts∧Jg all (done++ts)=true∧(done++ts).all Xx=true∧G C k (fin s ts)
def Ad8 (all:Array Oper) (done:List Stp):Bool:=Jg all done && done.all Xx
theorem DR_nil {all:Array Oper} {done:List Stp} (hp:Ad8 all done=true) (h:G C k s):DR C k all done [] s:=by
 simp only[Ad8,Bool.and_eq_true]at hp
 exact⟨[],E,by simp,Y,by simpa using hp.1,by rw[List.append_nil];exact hp.2,h⟩
theorem Asx {all:Array Oper} {done:List Stp} {o:Oper} {rest:List Oper} (U:Up) (hg:GoodX C.P o s U) (hi:all[done.length]? = some o) (hw:Tg all s o.guard true)
  (h:DR C k all (done++[⟨done.length,o,U,true⟩]) rest (s.upd o.dst U)):DR C k all done (o::rest) s:=by
 obtain ⟨ts,h1,h2,h3,h4,h5,h6⟩:=h
 refine⟨⟨done.length,o,U,true⟩::ts,by simp[h1],fun j t hj=>?_,⟨⟨hi,hw,fun _=>hg,fun hf=>by cases hf⟩,h3⟩,by simpa using h4,by simpa using h5,h6⟩
 cases j with
 | zero=>simp only[List.getElem?_cons_zero,Option.some.injEq]at hj;subst hj;rfl
 | succ j=>have:=h2 j t (by simpa using hj);simp at this;omega
theorem Au1 {all:Array Oper} {done:List Stp} {o:Oper} {rest:List Oper} (hi:all[done.length]? = some o) (hw:Tg all s o.guard false)
  (h:DR C k all (done++[⟨done.length,o,⟨.val undef,[],[]⟩,false⟩]) rest (s.upd o.dst ⟨.val undef,[],[]⟩)):DR C k all done (o::rest) s:=by
 obtain ⟨ts,h1,h2,h3,h4,h5,h6⟩:=h
 refine⟨⟨done.length,o,⟨.val undef,[],[]⟩,false⟩::ts,by simp[h1],fun j t hj=>?_,⟨⟨hi,hw,fun hf=>(by cases hf),fun _=>rfl⟩,h3⟩,by simpa using h4,by simpa using h5,h6⟩
 cases j with
 | zero=>simp only[List.getElem?_cons_zero,Option.some.injEq]at hj;subst hj;rfl
 | succ j=>have:=h2 j t (by simpa using hj);simp at this;omega
def Akc (n:Nat) (ops:List Oper):Bool:=ops.all fun o=>match o.dst with | some d=>Nat.blt d n | none=>true
theorem G_draw {id:Nat} {ops:Array Oper} (hm:C.P.follows .mixedOrders=true) (hd:Akc C.n ops.toList=true) (h:DR C k ops [] ops.toList s):G C (.code (.region id ops true)::k) s:=fun κ a w hs=>by
 obtain ⟨ts,h1,h2,h3,h4,h5,h6⟩:=h
 have hdst:∀ (i:Nat) (o:Oper),ops[i]? = some o→∀ d,o.dst=some d→d<C.n:=fun i o hi d hod=>by
  simp only[Akc,List.all_eq_true]at hd
  have hmem:o∈ops.toList:=by
   rw[← Array.getElem?_toList]at hi
   exact List.mem_of_getElem? hi
  have:=hd o hmem
  rw[hod]at this
  exact Nat.le_of_ble_eq_true this
 have hlen:ts.length=ops.size:=by
  have:=congrArg List.length h1
  simpa using this
 have hs':St C.F C.n s κ a { w with drawn:=w.drawn+1 }:=by
  have g:=Grew.drew w
  have st:Step (fun _=>False) κ w κ w.drew:=⟨g.size,g.os,g.tape,g.output,rfl,fun b _=>rfl,fun b _ _=>rfl,fun _ _ _ _=>rfl,fun _ _=>rfl,fun _ h=>h.elim,fun _ h=>.inl h⟩
  have inv:Inv κ w.drew:=⟨hs.inv.inj,hs.inv.bnd,hs.inv.apart,hs.inv.mbnd⟩
  exact⟨hs.defers,hs.size,inv,hs.ctx.step inv st,fun i=>Rd.step st _ _ (hs.slot i),fun j=>ObOK.step st (fun h=>h) _ (hs.obj j)⟩
 refine wp_region_any hm (Ao1 hdst ops.size ts (Array.replicate ops.size false) s κ a _ hlen hs' h3 (by simpa using h4) (by simpa using h5) ?_ ?_ y_ ?_ (fun κ' a' w' hs''=>h6 κ' a' w' hs''))
 ·intro i
  simp only[Array.getD_eq_getD_getElem?,Array.getElem?_replicate]
  constructor
  ·intro h7
   split at h7
   ·rename_i hi
    have:i<ts.length:=by omega
    exact⟨ts[i],List.getElem_mem this,by simpa using h2 i ts[i] (List.getElem?_eq_getElem this)⟩
   ·cases h7
  ·rintro ⟨t,ht,rfl⟩
   obtain ⟨j,hj,rfl⟩:=List.mem_iff_getElem.1 ht
   have:=h2 j ts[j] (List.getElem?_eq_getElem hj)
   simp only[List.length_nil,Nat.zero_add]at this
   rw[this,if_pos q_]
   rfl
 ·rw[List.pairwise_iff_getElem]
  intro i j hi hj hij
  have e1:=h2 i ts[i] (List.getElem?_eq_getElem hi)
  have e2:=h2 j ts[j] (List.getElem?_eq_getElem hj)
  omega
 ·intro i o hio hli
  exfalso
  have:i<ops.size:=by
   rcases Nat.lt_or_ge i ops.size with h | h
   ·exact h
   ·rw[Array.getElem?_eq_none h]at hio;cases hio
  simp only[Array.getD_eq_getD_getElem?,Array.getElem?_replicate,if_pos this]at hli
  cases hli
end Go.Sy
namespace Go.Sy
def Al (b:UInt8):SV:=.val (.int .u8 b.toNat)
def Aa (n:Int):SV:=.val (.int .i64 n)
def Ab (b:Bool):SV:=.val (.bool b)
def A9 (n:Int):SV:=.val (.int .u64 n)
def A4 (n:Int):SV:=.val (.int .u32 n)
def C7 (s:ByteArray):SV:=.val (.string s)
theorem Aod {P:Program} (Γ:Ty P) {t:TypeId} {ti:TI} {k:IntKind} (ht:Γ.get t=some ti) (hk:ti.k=.int k):P.underlying t=some (.int k):=by
 obtain ⟨d,info,z,k1,k2,_⟩:=Γ.ok t ti ht
 rw[hk]at k2
 simp only[TK.ok]at k2
 subst k2
 exact k1
theorem Ams {P:Program} (Γ:Ty P) {t:TypeId} {ti:TI} (ht:Γ.get t=some ti) (hk:ti.k=.string):P.underlying t=some .string:=by
 obtain ⟨d,info,z,k1,k2,_⟩:=Γ.ok t ti ht
 rw[hk]at k2
 simp only[TK.ok]at k2
 subst k2
 exact k1
theorem Uq {P:Program} (Γ:Ty P) {o:Oper} {s:SS} {src dst:TypeId} {si di ei:TI} {x:Operand} {et:TypeId} {eb n:Nat} {ez:List Value} {ks:List Nat} {f:Nat→SV→Prop} (bs:List UInt8) (h:o.op=.convert src dst x)
  (hs:Γ.get src=some si) (hsk:si.k=.slice et 1 eb ez) (he:Γ.get et=some ei) (hek:ei.k=.int .u8) (hd:Γ.get dst=some di) (hdk:di.k=.string) (hx:AppSrc s 1 (ev s x) ks n f) (hn:n=bs.length) (hf:∀ i (h:i<bs.length),f i (Al bs[i])) :
  Good P o s ⟨.val (.string ⟨bs.toArray⟩),ks,[]⟩ :=
 Good.pure fun κ a w hi hr ho=>by
  have r1:=hr x (by simp[h,Op.operands])
  have hsrc:=hx.src r1 ho
  obtain ⟨hu,_⟩:=B7 Γ hs hsk
  have he':=Aod Γ he hek
  have hd':=Ams Γ hd hdk
  refine⟨.string ⟨bs.toArray⟩,?_,by simp[Rd]⟩
  rcases hsrc with ⟨h0,hno,ad,cap,e1⟩ | ⟨b,off,cap,news,e1,e2,e3,e4,e5⟩
  ·have hb:bs=[]:=List.eq_nil_of_length_eq_zero q_
   subst hb
   cases ad with
   | none=>simp[execOp,h,e1,run_convert_bytes_nil w src et hu he' 0 cap dst hd'];rfl
   | some ad =>
    have:=run_convert_bytes_back (P:=P) w src dst et ad cap [] hu he' hd' (fun j hj=>by simp at hj)
    simp only[List.length_nil]at this
    simp[execOp,h,e1,this]
  ·have:=run_convert_bytes_back (P:=P) w src dst et ⟨b,off,none⟩ cap bs hu he' hd' (fun j hj=>by
    obtain ⟨q0,u,q1,q2,q3,q4⟩:=e5 j _ (hf j hj)
    have hu2:u=.int .u8 bs[j].toNat:=by simpa [Al,RdD] using q1
    have q5:=q4 0 q_
    rw[hu2]at q5
    simp only[Nat.mul_one,Nat.add_zero,Value.cells]at q5
    rw[Addr.add_lit]
    exact e4 j _ (by simpa using q5))
   rw[← hn]at this
   simp[execOp,h,e1,this]
inductive EK | int (k:IntKind) | bool | string
def EK.desc:EK→TypeDesc | .int k=>.int k | .bool=>.bool | .string=>.string
def Aj9 (P:Program):Nat→List Field→List EK→Prop
 | _,[],[]=>True
 | i, f :: fs, k :: ks => f.name ≠ "_" ∧ f.offset = i ∧ P.underlying f.type = some k.desc ∧ Aj9 P (i + 1) fs ks
 | _,_,_=>False
structure EqOK (P:Program) (t:TypeId) (ks:List EK):Prop where
 under:P.underlying t=some (.struct (P.fieldsOf t))
 stood:P.stoodInHeld t=false
 guard:P.eqGuardType P.depth t=false
 fields:Aj9 P 0 (P.fieldsOf t).toList ks
def eq1 (k:EK) (x y:SV):Option Bool :=
 match k,x,y with
 | .int _,.val (.int k1 a),.val (.int k2 b)=>if k1=k2 then some (a == b) else none
 | .bool,.val (.bool a),.val (.bool b)=>some (a == b)
 | .string,.val (.string a),.val (.string b)=>some (a == b)
 | _,_,_=>none
theorem Aug {P:Program} {κ:Ka} {w:World} (d:Nat) {t:TypeId} {k:EK} (ht:P.underlying t=some k.desc) {x y:SV} {u v:Value} {b:Bool} (h:eq1 k x y=some b) (hx:Rd κ w x u) (hy:Rd κ w y v):(Op.equalIn (d+1) t u v).run P w=.ok b w:=by
 unfold eq1 at h
 split at h
 ·split at h
  ·rename_i hk
   subst hk
   simp only[Option.some.injEq]at h
   rw[hx.val,hy.val,← h]
   exact run_equalIn_int w d t _ _ _ _ ht
  ·cases h
 ·simp only[Option.some.injEq]at h
  rw[hx.val,hy.val,← h]
  exact run_equalIn_bool' w d t _ _ ht
 ·simp only[Option.some.injEq]at h
  rw[hx.val,hy.val,← h,beq_toListBytes]
  exact run_equalIn_string w d t _ _ ht
 ·cases h
def eqS:List EK→List SV→List SV→Option Bool
 | [],[],[]=>some true
 | k::ks,x::l,y::m=>match eq1 k x y,eqS ks l m with
  | some a,some b=>some (a && b)
  | _,_=>none
 | _,_,_=>none
theorem Ye {P:Program} (w:World) {t:TypeId} {k:EK} (h:P.underlying t=some k.desc) (cs:Array Value) {i:Nat} {v:Value} (hv:cs[i]? = some v):(part t cs i).run P w=.ok v w:=by
 cases k<;>simp only[EK.desc]at h<;>simp[part,isAgg,run_underlying h,hv]
theorem Ar3 {P:Program} {κ:Ka} {w:World} {xs ys:Array Value} (d:Nat):∀ (ks:List EK) (fs:List Field) (i:Nat) (l m:List SV) (r:Bool),Aj9 P i fs ks→RdL κ w l (xs.toList.drop i)→RdL κ w m (ys.toList.drop i)→eqS ks l m=some r →
  (Op.eqFields (d+1) xs ys fs).run P w=.ok r w
 | [],[],i,l,m,r,_,_,_,he=>by
  cases l<;>cases m<;>simp[eqS]at he
  subst he
  simp[Op.eqFields]
 | [],_::_,i,l,m,r,h,_,_,_=>by simp[Aj9]at h
 | _::_,[],i,l,m,r,h,_,_,_=>by simp[Aj9]at h
 | k::ks,f::fs,i,[],m,r,h,hl,hm,he=>by simp[eqS]at he
 | k::ks,f::fs,i,x::l,[],r,h,hl,hm,he=>by simp[eqS]at he
 | k::ks,f::fs,i,x::l,y::m,r,h,hl,hm,he=>by
  simp only[Aj9]at h
  obtain ⟨h1,h2,h3,h4⟩:=h
  simp only[RdL]at hl hm
  obtain ⟨v,q,e1,e2,e3⟩:=hl
  obtain ⟨u,p,f1,f2,f3⟩:=hm
  have g1:xs[i]? = some v:=by
   have:=congrArg (fun l=>l[0]?) e1
   simpa using this
  have g2:ys[i]? = some u:=by
   have:=congrArg (fun l=>l[0]?) f1
   simpa using this
  have e4:xs.toList.drop (i+1)=q:=by
   have:=congrArg (List.drop 1) e1
   simpa [Nat.add_comm] using this
  have f4:ys.toList.drop (i+1)=p:=by
   have:=congrArg (List.drop 1) f1
   simpa [Nat.add_comm] using this
  have p1:=Ye (P:=P) w h3 xs g1
  have p2:=Ye (P:=P) w h3 ys g2
  simp only[eqS]at he
  cases hb:eq1 k x y with
  | none=>rw[hb]at he;cases he
  | some b =>
   cases hq:eqS ks l m with
   | none=>rw[hb,hq]at he;cases he
   | some r' =>
    rw[hb,hq]at he
    simp only[Option.some.injEq]at he
    have hrun:=Aug (P:=P) (κ:=κ) (w:=w) d h3 hb e2 f2
    have ih:=Ar3 d ks fs (i+1) l m r' h4 (by rw[e4];exact e3) (by rw[f4];exact f3) hq
    simp only[Op.eqFields,if_pos h1,Sem.run_bind,h2,p1,p2,Result.andThen_ok,hrun]
    subst he
    cases b
    ·simp
    ·simp[ih]
theorem Wy {P:Program} {o:Oper} {s:SS} {op:BinOp} {t yt:TypeId} {x y:Operand} {l m:List SV} {ks:List EK} {r:Bool} (h:o.op=.binOp op t x y yt) (hop:op=.eql∨op=.neq) (hq:EqOK P t ks)
  (hx:ev s x=.agg l) (hy:ev s y=.agg m) (hr:eqS ks l m=some r):Good P o s ⟨.val (.bool (if op=.eql then r else !r)),[],[]⟩ :=
 Good.pure fun κ a w _ hrd _=>by
  have h1:=hrd x (by simp[h,Op.operands])
  have h2:=hrd y (by simp[h,Op.operands])
  rw[hx]at h1
  rw[hy]at h2
  simp only[Rd]at h1 h2
  obtain ⟨cs,e1,_,e3⟩:=h1
  obtain ⟨ds,f1,_,f3⟩:=h2
  have hrun:(Op.equal t (.agg cs.toArray) (.agg ds.toArray)).run P w=.ok r w:=by
   show (Op.equalIn (9999+1) t (.agg cs.toArray) (.agg ds.toArray)).run P w=.ok r w
   rw[run_equalIn_struct w 9999 t _ _ hq.under hq.stood]
   exact Ar3 (κ:=κ) 9998 ks _ 0 l m r hq.fields (by simpa using e3) (by simpa using f3) hr
  have hg:(eqGuard op t x y (.agg cs.toArray) (.agg ds.toArray)).run P w=.ok () w:=by
   rcases hop with rfl | rfl<;>simp[eqGuard,hq.guard]
  refine⟨.bool (if op=.eql then r else !r),?_,by simp[Rd]⟩
  rcases hop with rfl | rfl<;>simp[execOp,h,e1,f1,hg,binOp,hrun]
theorem Uo {P:Program} (Γ:Ty P) {o:Oper} {s:SS} {op:BinOp} {t yt:TypeId} {ti:TI} {x y:Operand} {p q:Bool} (h:o.op=.binOp op t x y yt) (hop:op=.eql∨op=.neq) (ht:Γ.get t=some ti) (hk:ti.k=.bool)
  (hx:ev s x=.val (.bool p)) (hy:ev s y=.val (.bool q)):Good P o s ⟨.val (.bool (if op=.eql then p == q else p != q)),[],[]⟩ :=
 Good.pure fun κ a w _ hrd _=>by
  have h1:=hrd x (by simp[h,Op.operands])
  have h2:=hrd y (by simp[h,Op.operands])
  rw[hx]at h1
  rw[hy]at h2
  obtain ⟨d,info,z,k1,k2,_⟩:=Γ.ok t ti ht
  rw[hk]at k2
  simp only[TK.ok]at k2
  subst k2
  have hrun:=run_equal_bool (P:=P) w t p q k1
  refine⟨.bool (if op=.eql then p == q else p != q),?_,by simp[Rd]⟩
  rcases hop with rfl | rfl<;>simp[execOp,h,h1.val,h2.val,eqGuard_at_bool,binOp,hrun,bne]
theorem Qq {P:Program} (w:World) (d:Nat) {t e:TypeId} (h:P.underlying t=some (.pointer e)) (p:Option Addr):(Op.equalIn (d+1) t (.pointer p) (.pointer none)).run P w=.ok p.isNone w:=by
 cases p<;>simp[Op.equalIn,run_underlying h]
theorem Wx {P:Program} (Γ:Ty P) {o:Oper} {s:SS} {op:BinOp} {t yt:TypeId} {ti:TI} {x y:Operand} (h:o.op=.binOp op t x y yt) (hop:op=.eql∨op=.neq) (ht:Γ.get t=some ti) (hk:ti.k=.ptr)
  (hy:ev s y=.val (.pointer none)) {b:Bool} {rd:List Nat} (hx:(∃ k off l,ev s x=.ptr k off∧s.h k=.box l∧rd=[k]∧b=false)∨(ev s x=.val (.pointer none)∧rd=[]∧b=true)):Good P o s ⟨.val (.bool (if op=.eql then b else !b)),rd,[]⟩ :=
 Good.pure fun κ a w _ hrd ho=>by
  have h1:=hrd x (by simp[h,Op.operands])
  have h2:=hrd y (by simp[h,Op.operands])
  rw[hy]at h2
  obtain ⟨d,info,z,k1,k2,_⟩:=Γ.ok t ti ht
  rw[hk]at k2
  simp only[TK.ok]at k2
  obtain ⟨e,rfl⟩:=k2
  have key:∃ p:Option Addr,a.eval x=.pointer p∧p.isNone=b:=by
   rcases hx with ⟨k,off,l,hx,hl,rfl,rfl⟩ | ⟨hx,rfl,rfl⟩
   ·have h3:=ho k y_
    rw[hl]at h3
    obtain ⟨bb,cs,T,fr,e1,_⟩:=h3
    rw[hx]at h1
    simp only[Rd,e1]at h1
    exact⟨_,h1,E⟩
   ·rw[hx]at h1
    exact⟨none,h1.val,E⟩
  obtain ⟨p,e1,e2⟩:=key
  have hrun:(Op.equal t (.pointer p) (.pointer none)).run P w=.ok b w:=by
   show (Op.equalIn (9999+1) t (.pointer p) (.pointer none)).run P w=.ok b w
   rw[Qq w 9999 k1,e2]
  refine⟨.bool (if op=.eql then b else !b),?_,by simp[Rd]⟩
  rcases hop with rfl | rfl<;>simp[execOp,h,e1,h2.val,eqGuard_at_pointer,binOp,hrun]
def fv (x:SV) (K:SV→Prop):Prop :=
 match x with
 | .val v=>(match v with
  | .int k n=>K (.val (.int k n))
  | .bool b=>K (.val (.bool b))
  | .string b=>K (.val (.string b))
  | v=>K (.val v))
 | .agg l=>K (.agg l)
 | .tup l=>K (.tup l)
 | .sl sz e l=>K (.sl sz e l)
 | .ref sz x o=>K (.ref sz x o)
 | .ptr k o=>K (.ptr k o)
 | .rpt k sz i o=>K (.rpt k sz i o)
 | .osl k=>K (.osl k)
 | .ifc t x=>K (.ifc t x)
 | .clo f g l=>K (.clo f g l)
 | .top=>K .top
theorem V6 (x:SV) (K:SV→Prop):fv x K↔K x:=by
 unfold fv
 split<;>first | rfl | (split<;>rfl)
def fl (l:List SV) (K:List SV→Prop):Prop :=
 match l with
 | []=>K []
 | x::r=>fv x fun x'=>fl r fun r'=>K (x'::r')
theorem K0:∀ (l:List SV) (K:List SV→Prop),fl l K↔K l
 | [],K=>Iff.rfl
 | x::r,K=>by unfold fl;rw[V6,K0 r]
def fa (x:SV) (K:SV→Prop):Prop :=
 match x with
 | .agg l=>fl l fun l=>K (.agg l)
 | .tup l=>fl l fun l=>K (.tup l)
 | x=>fv x K
theorem Ar1 (x:SV) (K:SV→Prop):fa x K↔K x:=by
 unfold fa
 split
 ·exact K0 _ _
 ·exact K0 _ _
 ·exact V6 _ _
def I64 (x:Int):Prop:=-9223372036854775808≤x∧x≤9223372036854775807
theorem I64.wrap {x:Int} (h:I64 x):IntKind.i64.wrap x=x:=by
 obtain ⟨h1,h2⟩:=h
 rw[IntKind.wrap_i64]
 omega
def Arj (op:BinOp) (k:IntKind) (a b:Int) (K:SV→Prop) (stop:Prop):Prop :=
 match op with
 | .add=>(match k with | .i64=>I64 (a+b)∧K (.val (.int .i64 (a+b))) | k=>K (.val (.int k (k.wrap (a+b)))))
 | .sub=>(match k with | .i64=>I64 (a-b)∧K (.val (.int .i64 (a-b))) | k=>K (.val (.int k (k.wrap (a-b)))))
 | .mul=>(match k with | .i64=>I64 (a * b)∧K (.val (.int .i64 (a * b))) | k=>K (.val (.int k (k.wrap (a * b)))))
 | .quo=>b≠0∧K (.val (.int k (k.wrap (a.tdiv b))))
 | .rem=>b≠0∧K (.val (.int k (a.tmod b)))
 | .and=>K (.val (.int k (bits .and k a b)))
 | .or=>K (.val (.int k (bits .or k a b)))
 | .xor=>K (.val (.int k (bits .xor k a b)))
 | .andNot=>K (.val (.int k (bits .andNot k a b)))
 | .lss=>K (.val (.bool (decide (a<b))))
 | .leq=>K (.val (.bool (decide (a≤b))))
 | .gtr=>K (.val (.bool (decide (a>b))))
 | .geq=>K (.val (.bool (decide (a≥b))))
 | .eql=>K (.val (.bool (a == b)))
 | .neq=>K (.val (.bool (a != b)))
 | _=>stop
def Ac6 (op:BinOp) (k:IntKind) (a b:Int) (K:SV→Prop) (stop:Prop):Prop :=
 match op with
 | .shl=>0≤b∧K (.val (.int k (k.wrap (a * 2 ^ (min b.toNat k.bits)))))
 | .shr=>0≤b∧K (.val (.int k (a.fdiv (2 ^ (min b.toNat k.bits)))))
 | _=>stop
def At3:BinOp→Bool | .shl=>true | .shr=>true | _=>false
def Apy (op:BinOp) (a b:ByteArray) (K:SV→Prop) (stop:Prop):Prop :=
 match op with
 | .add=>a.size+b.size≤9223372036854775807∧K (.val (.string (a++b)))
 | .eql=>K (.val (.bool (a == b)))
 | .neq=>K (.val (.bool (!(a == b))))
 | .lss=>K (.val (.bool (Op.bytesLess a.toList b.toList)))
 | .gtr=>K (.val (.bool (!(Op.bytesLess a.toList b.toList || a == b))))
 | _=>stop
structure TyE (P:Program) extends Ty P where
 eqs:TypeId→Option (List EK)
 eqok:∀ t ks,eqs t=some ks→EqOK P t ks
def bnd (s:SS) (x:Option Operand) (d:Int) (K:Int→Prop) (stop:Prop):Prop :=
 match x with
 | none=>K d
 | some y=>(match ev s y with
  | .val (.int _ n)=>K n
  | _=>stop)
def Ep (b:ByteArray) (i:Nat):UInt8:=b.data.toList.getD i 0
def opW {P:Program} (Γ:TyE P) (o:Oper) (s:SS) (K:Up→Prop) (stop:Prop):Prop :=
 match o.op with
 | .move x=>fv (ev s x) fun v=>K ⟨v,[],[]⟩
 | .assign x=>fv (ev s x) fun v=>K ⟨v,[],[]⟩
 | .pick c a b=>(match ev s c with
  | .val (.bool c)=>(match c with
   | true=>fv (ev s a) fun v=>K ⟨v,[],[]⟩
   | false=>fv (ev s b) fun v=>K ⟨v,[],[]⟩)
  | _=>stop)
 | .alloc t=>(match o.dst with
  | some d=>(match s.h d with
   | .fresh=>(match Γ.get t with
    | some i=>(match Wq i.zero with
     | true=>fl (i.zero.map .val) fun l=>K ⟨.ptr d 0,[],[(d,.box l)]⟩
     | false=>stop)
    | none=>stop)
   | _=>stop)
  | none=>stop)
 | .box _ x=>(match o.dst with
  | some d=>(match s.h d with
   | .fresh=>(match (ev s x).boxed with
    | true=>fl (cellsOf (ev s x)) fun l=>K ⟨.ptr d 0,[],[(d,.box l)]⟩
    | false=>stop)
   | _=>stop)
  | none=>stop)
 | .load t x=>(match Γ.get t with
  | some i=>(match ev s x with
   | .ptr k off=>(match s.h k with
    | .box l=>(match Jz i l off with
     | some y=>fa y fun y=>K ⟨y,[k],[]⟩
     | none=>stop)
    | _=>stop)
   | .ref _ z off=>(match z.boxed with
    | true=>(match Jz i (cellsOf z) off with
     | some y=>fa y fun y=>K ⟨y,[],[]⟩
     | none=>stop)
    | false=>stop)
   | .rpt k sz n off=>(match s.h k with
    | .row sz' e l=>sz'=sz∧∃ h:n<l.length,(match (e l[n]).boxed with
     | true=>(match Jz i (cellsOf (e l[n])) off with
      | some y=>fa y fun y=>K ⟨y,[k],[]⟩
      | none=>False)
     | false=>False)
    | .lit sz' svs=>sz'=sz∧(match Ei svs n with
     | some z=>(match z.boxed with
      | true=>(match Jz i (cellsOf z) off with
       | some y=>fa y fun y=>K ⟨y,[k],[]⟩
       | none=>False)
      | false=>False)
     | none=>False)
    | _=>stop)
   | _=>stop)
  | none=>stop)
 | .store t x y=>(match Γ.get t with
  | some i=>(match ev s x with
   | .ptr k off=>(match s.h k with
    | .box l=>(match (ev s y).boxed && Nat.beq (cellsOf (ev s y)).length i.size && Nat.ble (off+i.size) l.length with
     | true=>fl (setAt l off (cellsOf (ev s y))) fun l=>K ⟨.val undef,[],[(k,.box l)]⟩
     | false=>stop)
    | _=>stop)
   | .rpt k sz n off=>(match s.h k with
    | .row (α:=α) sz' e l=>sz'=sz∧∃ (h:n<l.length) (z:α),cellsOf (e z)=setAt (cellsOf (e l[n])) off (cellsOf (ev s y)) ∧
      (((ev s y).boxed && Nat.beq (cellsOf (ev s y)).length i.size && Nat.ble (off+i.size) sz && (e l[n]).boxed && (e z).boxed && (e z).data)=true)∧K ⟨.val undef,[],[(k,.row sz' e (l.set n z))]⟩
    | _=>stop)
   | _=>stop)
  | none=>stop)
 | .fieldAddr t x f=>(match Γ.get t with
  | some i=>(match i.k with
   | .struct fs=>(match fs[f]? with
    | some (fo,fn)=>(match fn with
     | 0=>stop
     | _+1=>(match ev s x with
      | .ptr k off=>(match s.h k with
       | .box _=>K ⟨.ptr k (off+fo),[k],[]⟩
       | _=>stop)
      | .ref sz z off=>K ⟨.ref sz z (off+fo),[],[]⟩
      | .rpt k sz n off=>(match s.h k with
       | .row (α:=α) sz' e l=>l≠[]∧K ⟨.rpt k sz n (off+fo),[k],[]⟩
       | .lit _ _=>K ⟨.rpt k sz n (off+fo),[k],[]⟩
       | _=>stop)
      | _=>stop))
    | none=>stop)
   | _=>stop)
  | none=>stop)
 | .nilCheck x=>(match ev s x with
  | .ptr k off=>(match s.h k with
   | .box _=>K ⟨.ptr k off,[k],[]⟩
   | _=>stop)
  | .ref sz z off=>K ⟨.ref sz z off,[],[]⟩
  | .clo fn first cap=>(match fn with
   | .func f=>K ⟨.clo (.func f) first cap,[],[]⟩
   | _=>stop)
  | _=>stop)
 | .indexAddr t x y=>(match Γ.get t with
  | some i=>(match i.k with
   | .slice _ esz _ _=>(match ev s y with
    | .val (.int _ n)=>(match ev s x with
     | .sl sz e l=>esz=sz∧∃ (_:0≤n) (h:n.toNat<l.length),K ⟨.ref sz (e l[n.toNat]) 0,[],[]⟩
     | .osl k=>(match (s.h k).len with
      | some len=>0≤n∧n.toNat<len∧K ⟨.rpt k esz n.toNat 0,[k],[]⟩
      | none=>stop)
     | _=>stop)
    | _=>stop)
   | .array _ len esz=>(match ev s y with
    | .val (.int _ n)=>(match ev s x with
     | .ptr k off=>(match s.h k with
      | .box _=>0≤n∧n.toNat<len∧K ⟨.ptr k (off+n.toNat * esz),[k],[]⟩
      | _=>stop)
     | .ref sz z off=>0≤n∧n.toNat<len∧K ⟨.ref sz z (off+n.toNat * esz),[],[]⟩
     | _=>stop)
    | _=>stop)
   | _=>stop)
  | none=>stop)
 | .binOp op t x y _=>(match ev s x,ev s y with
  | .val (.int k a),.val (.int k' b)=>(match At3 op with
   | true=>Ac6 op k a b (fun v=>K ⟨v,[],[]⟩) stop
   | false=>if k=k' then Arj op k a b (fun v=>K ⟨v,[],[]⟩) stop else stop)
  | .val (.string a),.val (.string b)=>Apy op a b (fun v=>K ⟨v,[],[]⟩) stop
  | .val (.bool p),.val (.bool q)=>(match Γ.get t with
   | some i=>(match i.k with
    | .bool=>(match op with
     | .eql=>K ⟨.val (.bool (p == q)),[],[]⟩
     | .neq=>K ⟨.val (.bool (p != q)),[],[]⟩
     | _=>stop)
    | _=>stop)
   | none=>stop)
  | .agg l,.agg m=>(match Γ.eqs t with
   | some ks=>(match eqS ks l m with
    | some r=>(match op with
     | .eql=>K ⟨.val (.bool r),[],[]⟩
     | .neq=>K ⟨.val (.bool (!r)),[],[]⟩
     | _=>stop)
    | none=>stop)
   | none=>stop)
  | .ptr k _,.val (.pointer none)=>(match s.h k with
   | .box _=>(match Γ.get t with
    | some i=>(match i.k with
     | .ptr=>(match op with
      | .eql=>K ⟨.val (.bool false),[k],[]⟩
      | .neq=>K ⟨.val (.bool true),[k],[]⟩
      | _=>stop)
     | _=>stop)
    | none=>stop)
   | _=>stop)
  | _,_=>stop)
 | .unOp op _ x=>(match op,ev s x with
  | .not,.val (.bool b)=>K ⟨.val (.bool (!b)),[],[]⟩
  | .neg,.val (.int k n)=>K ⟨.val (.int k (k.wrap (0-n))),[],[]⟩
  | _,_=>stop)
 | .extract x i=>(match ev s x with
  | .tup l=>(match Ei l i with
   | some y=>fa y fun y=>K ⟨y,[],[]⟩
   | none=>stop)
  | _=>stop)
 | .convert src dst x=>(match Γ.get src,Γ.get dst with
  | some si,some di=>(match di.k,ev s x with
   | .int k',.val (.int _ n)=>K ⟨.val (.int k' (k'.wrap n)),[],[]⟩
   | .string,.val (.string b)=>(match si.k with
    | .string=>K ⟨.val (.string b),[],[]⟩
    | _=>stop)
   | _,_=>stop)
  | _,_=>stop)
 | .makeInterface t x=>(match Γ.get t with
  | some i=>(match i.k with
   | .iface=>stop
   | .other=>stop
   | .array _ _ _=>stop
   | _=>fv (ev s x) fun v=>K ⟨.ifc t v,[],[]⟩)
  | none=>stop)
 | .build t ps=>(match Γ.get t with
  | some i=>(match i.k with
   | .struct fs=>(match Wq i.zero with
    | true=>(match Zs fs (i.zero.map .val) (ps.toList.map fun p=>(p.1,ev s p.2)) with
     | some out=>fl out fun out=>K ⟨.agg out,[],[]⟩
     | none=>stop)
    | false=>stop)
   | _=>stop)
  | none=>stop)
 | .buildSlice t len ps=>(match o.dst with
  | some d=>(match s.h d with
   | .fresh=>(match Γ.get t with
    | some i=>(match i.k with
     | .slice _ sz _ _=>(match Jo 0 ps.toList with
      | some xs=>(match Nat.beq xs.length len && Nat.ble (len * sz) 16777216 && Abz sz (xs.map (ev s)) with
       | true=>fl (xs.map (ev s)) fun svs=>K ⟨.osl d,[],[(d,.lit sz svs)]⟩
       | false=>stop)
      | none=>stop)
     | _=>stop)
    | none=>stop)
   | _=>stop)
  | none=>stop)
 | .index t x y=>(match Γ.get t with
  | some i=>(match i.k with
   | .string=>(match ev s x with
    | .val (.string b)=>(match ev s y with
     | .val (.int _ n)=>0≤n∧n.toNat<b.size∧K ⟨.val (.int .u8 (Ep b n.toNat).toNat),[],[]⟩
     | _=>stop)
    | _=>stop)
   | _=>stop)
  | none=>stop)
 | .slice t x lo hi mx=>(match mx with
  | none=>(match Γ.get t with
   | some i=>(match i.k with
    | .string=>(match ev s x with
     | .val (.string b)=>bnd s lo 0 (fun l=>bnd s hi b.size (fun h=>(0≤l∧l≤h∧h≤b.size)∧K ⟨.val (.string (b.extract l.toNat h.toNat)),[],[]⟩) stop) stop
     | _=>stop)
    | _=>stop)
   | none=>stop)
  | some _=>stop)
 | .makeFunc fn first cap=>fl (first.toList.map (ev s)) fun f=>fl (cap.toList.map (ev s)) fun l=>K ⟨.clo fn f l,[],[]⟩
 | .call c=>(match c.callee with
  | .builtin .len=>(match c.args.toList,c.argTypes.toList with
   | [x],t::_=>(match Γ.get t with
    | some i=>(match i.k with
     | .slice _ _ _ _=>(match ev s x with
      | .sl _ _ l=>K ⟨.val (.int .i64 l.length),[],[]⟩
      | .osl k=>(match (s.h k).len with
       | some n=>K ⟨.val (.int .i64 n),[k],[]⟩
       | none=>stop)
      | .val (.slice _ n _)=>K ⟨.val (.int .i64 n),[],[]⟩
      | _=>stop)
     | .string=>(match ev s x with
      | .val (.string b)=>K ⟨.val (.int .i64 b.size),[],[]⟩
      | _=>stop)
     | _=>stop)
    | none=>stop)
   | _,_=>stop)
  | _=>stop)
 | _=>stop
theorem Ari {P:Program} {o:Oper} {s:SS} {op:BinOp} {t yt:TypeId} {x y:Operand} {k:IntKind} {m n:Int} {K:Up→Prop} {stop:Prop} (h:o.op=.binOp op t x y yt)
  (hx:ev s x=.val (.int k m)) (hy:ev s y=.val (.int k n)) (hw:Arj op k m n (fun v=>K ⟨v,[],[]⟩) stop):(∃ U,Good P o s U∧K U)∨stop:=by
 have mk:∀ u:Value,(∀ w,(binOp op t (.int k m) (.int k n)).run P w=.ok u w)→K ⟨.val u,[],[]⟩→(∃ U,Good P o s U∧K U)∨stop:=fun u hu hk=>.inl ⟨_,Aru h hx hy hu,hk⟩
 unfold Arj at hw
 split at hw
 ·split at hw
  ·exact mk _ (fun w=>by simp[binOp_add,Op.intArith,hw.1.wrap]) hw.2
  ·exact mk _ (fun w=>by simp[binOp_add,Op.intArith]) hw
 ·split at hw
  ·exact mk _ (fun w=>by simp[binOp_sub,Op.intArith,hw.1.wrap]) hw.2
  ·exact mk _ (fun w=>by simp[binOp_sub,Op.intArith]) hw
 ·split at hw
  ·exact mk _ (fun w=>by simp[binOp_mul,Op.intArith,hw.1.wrap]) hw.2
  ·exact mk _ (fun w=>by simp[binOp_mul,Op.intArith]) hw
 ·exact mk _ (fun w=>by simp[binOp_quo,Op.intDiv,hw.1]) hw.2
 ·exact mk _ (fun w=>by simp[binOp_rem,Op.intDiv,hw.1]) hw.2
 ·exact mk _ (fun w=>by simp[binOp_and,intBits_and]) hw
 ·exact mk _ (fun w=>by simp[binOp_or,intBits_or]) hw
 ·exact mk _ (fun w=>by simp[binOp_xor,intBits_xor]) hw
 ·exact mk _ (fun w=>by simp[binOp_andNot,intBits_andNot]) hw
 ·exact mk _ (fun w=>by simp[binOp_lss]) hw
 ·exact mk _ (fun w=>by simp[binOp_leq]) hw
 ·exact mk _ (fun w=>by simp[binOp_gtr]) hw
 ·exact mk _ (fun w=>by simp[binOp_geq]) hw
 ·exact mk _ (fun w=>by simp[binOp_eql]) hw
 ·exact mk _ (fun w=>by simp[binOp_neq]) hw
 ·exact .inr hw
theorem Zk {P:Program} {o:Oper} {s:SS} {op:BinOp} {t yt:TypeId} {x y:Operand} {k k':IntKind} {m n:Int} {u:Value} (h:o.op=.binOp op t x y yt)
  (hx:ev s x=.val (.int k m)) (hy:ev s y=.val (.int k' n)) (hr:∀ w,(binOp op t (.int k m) (.int k' n)).run P w=.ok u w):Good P o s ⟨.val u,[],[]⟩ :=
 Good.pure fun κ a w _ hrd _=>by
  have h1:=hrd x (by simp[h,Op.operands])
  have h2:=hrd y (by simp[h,Op.operands])
  rw[hx]at h1
  rw[hy]at h2
  refine⟨u,?_,by simp[Rd]⟩
  simp[execOp,h,h1.val,h2.val,eqGuard_at_int,hr]
theorem Aiq {P:Program} {o:Oper} {s:SS} {op:BinOp} {t yt:TypeId} {x y:Operand} {k k':IntKind} {m n:Int} {K:Up→Prop} {stop:Prop} (h:o.op=.binOp op t x y yt)
  (hx:ev s x=.val (.int k m)) (hy:ev s y=.val (.int k' n)) (hw:Ac6 op k m n (fun v=>K ⟨v,[],[]⟩) stop):(∃ U,Good P o s U∧K U)∨stop:=by
 unfold Ac6 at hw
 split at hw
 ·have hn:¬ n<0:=by omega
  exact .inl ⟨_,Zk (u:=.int k (k.wrap (m * 2 ^ (min n.toNat k.bits)))) h hx hy (fun w=>by simp[binOp_shl,Op.shift,hn]),hw.2⟩
 ·have hn:¬ n<0:=by omega
  exact .inl ⟨_,Zk (u:=.int k (m.fdiv (2 ^ (min n.toNat k.bits)))) h hx hy (fun w=>by simp[binOp_shr,Op.shift,hn]),hw.2⟩
 ·exact .inr hw
theorem Apx {P:Program} {o:Oper} {s:SS} {op:BinOp} {t yt:TypeId} {x y:Operand} {m n:ByteArray} {K:Up→Prop} {stop:Prop} (h:o.op=.binOp op t x y yt)
  (hx:ev s x=.val (.string m)) (hy:ev s y=.val (.string n)) (hw:Apy op m n (fun v=>K ⟨v,[],[]⟩) stop):(∃ U,Good P o s U∧K U)∨stop:=by
 unfold Apy at hw
 split at hw
 ·have hn:¬ (9223372036854775807<((m.size+n.size:Nat):Int)):=by omega
  refine .inl ⟨_,Ix (u:=.string (m++n)) h y_ hx hy (fun w=>?_),hw.2⟩
  simp only[Op.stringOp,IntKind.max_i64]
  rw[if_neg hn]
  rfl
 ·exact .inl ⟨_,Ix (u:=.bool (m == n)) h y_ hx hy (fun w=>by simp[Op.stringOp,beq_toListBytes]),hw⟩
 ·exact .inl ⟨_,Ix (u:=.bool (!(m == n))) h y_ hx hy (fun w=>by simp[Op.stringOp,beq_toListBytes]),hw⟩
 ·exact .inl ⟨_,Ix (u:=.bool (Op.bytesLess m.toList n.toList)) h y_ hx hy (fun w=>by simp[Op.stringOp]),hw⟩
 ·exact .inl ⟨_,Ix (u:=.bool (!(Op.bytesLess m.toList n.toList || m == n))) h y_ hx hy (fun w=>by simp[Op.stringOp,beq_toListBytes]),hw⟩
 ·exact .inr hw
theorem O3 {P:Program} (Γ:Ty P) {t:TypeId} {ti:TI} {e:TypeId} {len esz:Nat} (ht:Γ.get t=some ti) (hk:ti.k=.array e len esz) :
  P.underlying t=some (.array len e)∧∃ i,P.info? e=some i∧i.size=esz:=by
 obtain ⟨d,info,z,k1,k2,k3,k4,k5,k6⟩:=Γ.ok t ti ht
 rw[hk]at k2
 simp only[TK.ok]at k2
 obtain ⟨rfl,k2⟩:=k2
 exact⟨k1,k2⟩
theorem Lt {P:Program} {t et:TypeId} {len esz:Nat} {i:TypeInfo} {ik:IntKind} {n:Int} {b o:Nat} (w:World) (hu:P.underlying t=some (.array len et)) (hq:P.info? et=some i) (hi:i.size=esz) (h0:0≤n) (hn:n.toNat<len) :
  (Instr.indexAt t (.pointer (some ⟨b,o,none⟩)) (.int ik n)).run P w=.ok (.pointer (some ⟨b,o+n.toNat * esz,none⟩)) w:=by
 have hlt:n<len:=by omega
 simp[Instr.indexAt,asIntOf,run_underlying hu,Instr.sureAddr,h0,hlt,sizeOf,typeInfo,hq,hi,Addr.add_lit]
theorem E5 {P:Program} (Γ:Ty P) {o:Oper} {s:SS} {t:TypeId} {ti:TI} {et:TypeId} {len esz k off:Nat} {x y:Operand} {ik:IntKind} {n:Int} {l:List SV}
  (h:o.op=.indexAddr t x y) (ht:Γ.get t=some ti) (hk:ti.k=.array et len esz) (hx:ev s x=.ptr k off) (hb:s.h k=.box l) (hy:ev s y=.val (.int ik n)) (h0:0≤n) (hn:n.toNat<len) :
  Good P o s ⟨.ptr k (off+n.toNat * esz),[k],[]⟩ :=
 Good.pure fun κ a w _ hr ho=>by
  have h1:=hr x (by simp[h,Op.operands])
  have h2:=hr y (by simp[h,Op.operands])
  have h3:=ho k y_
  rw[hb]at h3
  obtain ⟨b,cs,T,fr,e1,_⟩:=h3
  rw[hx]at h1
  rw[hy]at h2
  simp only[Rd,e1]at h1
  obtain ⟨hu,i,q1,q2⟩:=O3 Γ ht hk
  refine⟨.pointer (some ⟨b,off+n.toNat * esz,none⟩),?_,by simp only[Rd,e1]⟩
  simp only[execOp,h,h1,h2.val]
  simp[Lt w hu q1 q2 h0 hn]
theorem E4 {P:Program} (Γ:Ty P) {o:Oper} {s:SS} {t:TypeId} {ti:TI} {et:TypeId} {len esz sz off:Nat} {x y:Operand} {ik:IntKind} {n:Int} {z:SV}
  (h:o.op=.indexAddr t x y) (ht:Γ.get t=some ti) (hk:ti.k=.array et len esz) (hx:ev s x=.ref sz z off) (hy:ev s y=.val (.int ik n)) (h0:0≤n) (hn:n.toNat<len) :
  Good P o s ⟨.ref sz z (off+n.toNat * esz),[],[]⟩ :=
 Good.pure fun κ a w _ hr _=>by
  have h1:=hr x (by simp[h,Op.operands])
  have h2:=hr y (by simp[h,Op.operands])
  rw[hx]at h1
  rw[hy]at h2
  simp only[Rd,RdD]at h1
  obtain ⟨b,oo,u,e1,e2,e3,e4,e5⟩:=h1
  obtain ⟨hu,i,q1,q2⟩:=O3 Γ ht hk
  refine⟨.pointer (some ⟨b,oo+off+n.toNat * esz,none⟩),?_,?_⟩
  ·simp only[execOp,h,e1,h2.val]
   simp[Lt w hu q1 q2 h0 hn]
  ·simp only[Rd,RdD]
   exact⟨b,oo,u,by rw[Nat.add_assoc],e2,e3,e4,e5⟩
theorem Un {P:Program} (Γ:Ty P) {o:Oper} {s:SS} {t:TypeId} {ti:TI} {x y:Operand} {ik:IntKind} {n:Int} {b:ByteArray}
  (h:o.op=.index t x y) (ht:Γ.get t=some ti) (hk:ti.k=.string) (hx:ev s x=.val (.string b)) (hy:ev s y=.val (.int ik n)) (h0:0≤n) (hn:n.toNat<b.size) :
  Good P o s ⟨.val (.int .u8 (Ep b n.toNat).toNat),[],[]⟩ :=
 Good.pure fun κ a w _ hr _=>by
  have h1:=hr x (by simp[h,Op.operands])
  have h2:=hr y (by simp[h,Op.operands])
  rw[hx]at h1
  rw[hy]at h2
  obtain ⟨d,info,z,k1,k2,k3,k4,k5,k6⟩:=Γ.ok t ti ht
  rw[hk]at k2
  simp only[TK.ok]at k2
  subst k2
  have hg:b[n.toNat]? = some (Ep b n.toNat):=by
   have hn':n.toNat<b.data.toList.length:=hn
   rw[getElem?_pos b n.toNat hn]
   simp only[Ep,List.getD_eq_getElem?_getD,List.getElem?_eq_getElem hn',Option.getD_some,Option.some.injEq]
   rfl
  refine⟨.int .u8 (Ep b n.toNat).toNat,?_,by simp only[Rd]⟩
  simp[execOp,h,h1.val,h2.val,Instr.index,run_underlying k1,asIntOf,h0,hg]
def BndAt (s:SS) (x:Option Operand) (d n:Int):Prop:=(x=none∧n=d)∨∃ y k,x=some y∧ev s y=.val (.int k n)
theorem Asi {s:SS} {x:Option Operand} {d:Int} {K:Int→Prop} {stop:Prop} (h:bnd s x d K stop):(∃ n,BndAt s x d n∧K n)∨stop:=by
 unfold bnd at h
 split at h
 ·exact .inl ⟨d,.inl ⟨E,E⟩,h⟩
 ·split at h
  ·rename_i y _ k n hy
   exact .inl ⟨n,.inr ⟨y,k,E,hy⟩,h⟩
  ·exact .inr h
theorem BndAt.is {s:SS} {x:Option Operand} {d n:Int} {m:Nat} (h:BndAt s x d n) (h0:0≤n) (hd:d.toNat=m):BoundIs s x m n.toNat:=by
 rcases h with ⟨rfl,rfl⟩ | ⟨y,k,rfl,hy⟩
 ·exact .inl ⟨E,hd⟩
 ·exact .inr ⟨y,k,E,by rw[hy,Int.toNat_of_nonneg h0]⟩
theorem Aqt {P:Program} {Γ:TyE P} {o:Oper} {s:SS} {K:Up→Prop} {stop:Prop} (h:opW Γ o s K stop):(∃ U,Good P o s U∧K U)∨stop:=by
 cases hop:o.op with
 | move x =>
  simp only[opW,hop,V6]at h
  exact .inl ⟨_,Acf (.inl hop),h⟩
 | assign x =>
  simp only[opW,hop,V6]at h
  exact .inl ⟨_,Acf (.inr hop),h⟩
 | pick c a b =>
  simp only[opW,hop,V6]at h
  split at h
  ·rename_i cc hc
   cases cc
   ·exact .inl ⟨_,Ace hop hc,h⟩
   ·exact .inl ⟨_,Ace hop hc,h⟩
  ·exact .inr h
 | alloc t =>
  simp only[opW,hop,K0]at h
  split at h
  ·rename_i d hd
   split at h
   ·rename_i hf
    split at h
    ·rename_i i hi
     split at h
     ·rename_i h1
      exact .inl ⟨_,Ajz Γ.toTy hop hf hi h1,h⟩
     ·exact .inr h
    ·exact .inr h
   ·exact .inr h
  ·exact .inr h
 | box t x =>
  simp only[opW,hop,K0]at h
  split at h
  ·rename_i d hd
   split at h
   ·rename_i hf
    split at h
    ·rename_i h1
     exact .inl ⟨_,Ur hop hf h1,h⟩
    ·exact .inr h
   ·exact .inr h
  ·exact .inr h
 | load t x =>
  simp only[opW,hop,Ar1]at h
  split at h
  ·rename_i i hi
   split at h
   ·rename_i k off hx
    split at h
    ·rename_i l hk
     split at h
     ·rename_i y hy
      exact .inl ⟨_,Aa8 Γ.toTy hop hx hi hk hy,h⟩
     ·exact .inr h
    ·exact .inr h
   ·rename_i sz z off hx
    split at h
    ·rename_i hz
     split at h
     ·rename_i y hy
      exact .inl ⟨_,Aa7 Γ.toTy hop hx hi hz hy,h⟩
     ·exact .inr h
    ·exact .inr h
   ·rename_i k sz n off hx
    split at h
    ·rename_i sz' α e l hk
     obtain ⟨rfl,hn,h⟩:=h
     split at h
     ·rename_i hz
      split at h
      ·rename_i y hy
       have hne:l≠[]:=by intro he;subst he;simp at hn
       refine .inl ⟨_,Sc (n:=l.length) (f:=rowF e l) Γ.toTy hop hx hi (fun κ w ho=>?_) ⟨hn,E⟩ hz hy,h⟩
       rw[hk]at ho
       exact ho.rowAt hne
      ·exact h.elim
     ·exact h.elim
    ·rename_i sz' svs hk
     obtain ⟨rfl,h⟩:=h
     split at h
     ·rename_i z hz0
      split at h
      ·rename_i hz
       split at h
       ·rename_i y hy
        refine .inl ⟨_,Sc (n:=svs.length) (f:=Aa0 svs) Γ.toTy hop hx hi (fun κ w ho=>?_) hz0 hz hy,h⟩
        rw[hk]at ho
        exact ho
       ·exact h.elim
      ·exact h.elim
     ·exact h.elim
    ·exact .inr h
   ·exact .inr h
  ·exact .inr h
 | store t x y =>
  simp only[opW,hop,K0]at h
  split at h
  ·rename_i i hi
   split at h
   ·rename_i k off hx
    split at h
    ·rename_i l hk
     split at h
     ·rename_i hc
      simp only[Bool.and_eq_true]at hc
      exact .inl ⟨_,Oq Γ.toTy hop hx hi hk hc.1.1 (Nat.eq_of_beq_eq_true hc.1.2) (Nat.le_of_ble_eq_true hc.2),h⟩
     ·exact .inr h
    ·exact .inr h
   ·rename_i k sz n off hx
    split at h
    ·rename_i sz' α e l hk
     obtain ⟨rfl,hn,z,hz,hc,h⟩:=h
     simp only[Bool.and_eq_true]at hc
     obtain ⟨⟨⟨⟨⟨c1,c2⟩,c3⟩,c4⟩,c5⟩,c6⟩:=hc
     exact .inl ⟨_,Oo Γ.toTy hop hx hi hk c1 (Nat.eq_of_beq_eq_true c2) (Nat.le_of_ble_eq_true c3) hn hz c4 c5 c6,h⟩
    ·exact .inr h
   ·exact .inr h
  ·exact .inr h
 | fieldAddr t x f =>
  simp only[opW,hop]at h
  split at h
  ·rename_i i hi
   split at h
   ·rename_i fs hk
    split at h
    ·rename_i fo fn hf
     split at h
     ·exact .inr h
     ·rename_i fn'
      split at h
      ·rename_i k off hx
       split at h
       ·rename_i l hb
        exact .inl ⟨_,H4 Γ.toTy hop hi hk hf q_ (.inl ⟨k,off,l,hx,hb,E,E⟩),h⟩
       ·exact .inr h
      ·rename_i sz z off hx
       exact .inl ⟨_,H4 Γ.toTy hop hi hk hf q_ (.inr (.inl ⟨sz,z,off,hx,E,E⟩)),h⟩
      ·rename_i k sz n off hx
       split at h
       ·rename_i sz' α e l hb
        obtain ⟨hne,h⟩:=h
        refine .inl ⟨_,H4 Γ.toTy hop hi hk hf q_ (.inr (.inr ⟨k,sz,n,off,hx,fun κ w ho=>?_,E,E⟩)),h⟩
        rw[hb]at ho
        obtain ⟨b,cap,_,_,_,e1,_⟩:=ho.rowAt hne
        exact⟨b,_,cap,e1⟩
       ·rename_i sz' svs hb
        refine .inl ⟨_,H4 Γ.toTy hop hi hk hf q_ (.inr (.inr ⟨k,sz,n,off,hx,fun κ w ho=>?_,E,E⟩)),h⟩
        rw[hb]at ho
        obtain ⟨b,cap,_,_,_,e1,_⟩:=ho
        exact⟨b,_,cap,e1⟩
       ·exact .inr h
      ·exact .inr h
    ·exact .inr h
   ·exact .inr h
  ·exact .inr h
 | nilCheck x =>
  simp only[opW,hop]at h
  split at h
  ·rename_i k off hx
   split at h
   ·rename_i l hb
    have:=Cd (P:=P) (rd:=[k]) hop (.inl ⟨k,off,l,hx,hb,rfl⟩)
    rw[hx]at this
    exact .inl ⟨_,this,h⟩
   ·exact .inr h
  ·rename_i sz z off hx
   have:=Cd (P:=P) (rd:=[]) hop (.inr (.inl ⟨sz,z,off,hx,rfl⟩))
   rw[hx]at this
   exact .inl ⟨_,this,h⟩
  ·rename_i fn first cap hx
   split at h
   ·rename_i f
    have:=Cd (P:=P) (rd:=[]) hop (.inr (.inr (.inl ⟨f,first,cap,hx,rfl⟩)))
    rw[hx]at this
    exact .inl ⟨_,this,h⟩
   ·exact .inr h
  ·exact .inr h
 | indexAddr t x y =>
  simp only[opW,hop]at h
  split at h
  ·rename_i i hi
   split at h
   ·rename_i et esz eb ez hk
    split at h
    ·rename_i ik n hy
     split at h
     ·rename_i sz α e l hx
      obtain ⟨rfl,h0,hn,h⟩:=h
      exact .inl ⟨_,H3 Γ.toTy hop hi hk hx hy h0 hn,h⟩
     ·rename_i k hx
      split at h
      ·rename_i len hl
       exact .inl ⟨_,Hi Γ.toTy hop hi hk hx hl hy h.1 h.2.1,h.2.2⟩
      ·exact .inr h
     ·exact .inr h
    ·exact .inr h
   ·rename_i et len esz hk
    split at h
    ·rename_i ik n hy
     split at h
     ·rename_i k off hx
      split at h
      ·rename_i l hl
       exact .inl ⟨_,E5 Γ.toTy hop hi hk hx hl hy h.1 h.2.1,h.2.2⟩
      ·exact .inr h
     ·rename_i sz z off hx
      exact .inl ⟨_,E4 Γ.toTy hop hi hk hx hy h.1 h.2.1,h.2.2⟩
     ·exact .inr h
    ·exact .inr h
   ·exact .inr h
  ·exact .inr h
 | binOp op t x y yt =>
  simp only[opW,hop]at h
  split at h
  ·rename_i k a k' b hx hy
   split at h
   ·exact Aiq hop hx hy h
   ·split at h
    ·rename_i hkk
     subst hkk
     exact Ari hop hx hy h
    ·exact .inr h
  ·rename_i a b hx hy
   exact Apx hop hx hy h
  ·rename_i p q hx hy
   split at h
   ·rename_i i hi
    split at h
    ·rename_i hk
     split at h
     ·exact .inl ⟨_,Uo Γ.toTy hop (.inl E) hi hk hx hy,h⟩
     ·exact .inl ⟨_,Uo Γ.toTy hop (.inr E) hi hk hx hy,h⟩
     ·exact .inr h
    ·exact .inr h
   ·exact .inr h
  ·rename_i l m hx hy
   split at h
   ·rename_i ks hks
    split at h
    ·rename_i r hr
     split at h
     ·exact .inl ⟨_,Wy hop (.inl E) (Γ.eqok t ks hks) hx hy hr,h⟩
     ·exact .inl ⟨_,Wy hop (.inr E) (Γ.eqok t ks hks) hx hy hr,h⟩
     ·exact .inr h
    ·exact .inr h
   ·exact .inr h
  ·rename_i k off hx hy
   split at h
   ·rename_i l hb
    split at h
    ·rename_i i hi
     split at h
     ·rename_i hk
      split at h
      ·exact .inl ⟨_,Wx Γ.toTy hop (.inl E) hi hk hy (.inl ⟨k,off,l,hx,hb,E,E⟩),h⟩
      ·exact .inl ⟨_,Wx Γ.toTy hop (.inr E) hi hk hy (.inl ⟨k,off,l,hx,hb,E,E⟩),h⟩
      ·exact .inr h
     ·exact .inr h
    ·exact .inr h
   ·exact .inr h
  ·exact .inr h
 | unOp op t x =>
  simp only[opW,hop]at h
  split at h
  ·rename_i b hx
   exact .inl ⟨_,Arr hop hx,h⟩
  ·rename_i k n hx
   exact .inl ⟨_,Ars hop hx,h⟩
  ·exact .inr h
 | extract x i =>
  simp only[opW,hop,Ar1]at h
  split at h
  ·rename_i l hx
   split at h
   ·rename_i y hy
    exact .inl ⟨_,Ady hop hx hy,h⟩
   ·exact .inr h
  ·exact .inr h
 | convert src dst x =>
  simp only[opW,hop]at h
  split at h
  ·rename_i si di hs hd
   split at h
   ·rename_i k' k n hk hx
    exact .inl ⟨_,V5 Γ.toTy hop hs hd hk hx,h⟩
   ·rename_i b hk hx
    split at h
    ·rename_i hk'
     exact .inl ⟨_,Qr Γ.toTy hop hs hd hk' hk hx,h⟩
    ·exact .inr h
   ·exact .inr h
  ·exact .inr h
 | makeInterface t x =>
  simp only[opW,hop,V6]at h
  split at h
  ·rename_i i hi
   split at h
   ·exact .inr h
   ·exact .inr h
   ·exact .inr h
   ·rename_i h1 h2 h3
    refine .inl ⟨_,Sx Γ.toTy hop hi ?_,h⟩
    cases hk:i.k<;>first | rfl | (exact absurd hk h1) | (exact absurd hk h2) | (exact absurd hk (h3 _ _ _))
  ·exact .inr h
 | build t ps =>
  simp only[opW,hop,K0]at h
  split at h
  ·rename_i i hi
   split at h
   ·rename_i fs hk
    split at h
    ·rename_i h1
     split at h
     ·rename_i out hout
      exact .inl ⟨_,Ajy (ps:=ps.toList) Γ.toTy (by rw[hop]) hi hk h1 hout,h⟩
     ·exact .inr h
    ·exact .inr h
   ·exact .inr h
  ·exact .inr h
 | buildSlice t len ps =>
  simp only[opW,hop,K0]at h
  split at h
  ·rename_i d hd
   split at h
   ·rename_i hf
    split at h
    ·rename_i i hi
     split at h
     ·rename_i et sz eb ez hk
      split at h
      ·rename_i xs hxs
       split at h
       ·rename_i hc
        simp only[Bool.and_eq_true]at hc
        exact .inl ⟨_,Xn (ps:=ps.toList) Γ.toTy (by rw[hop]) hf hi hk hxs (Nat.eq_of_beq_eq_true hc.1.1) (Nat.le_of_ble_eq_true hc.1.2) hc.2,h⟩
       ·exact .inr h
      ·exact .inr h
     ·exact .inr h
    ·exact .inr h
   ·exact .inr h
  ·exact .inr h
 | index t x y =>
  simp only[opW,hop]at h
  split at h
  ·rename_i i hi
   split at h
   ·rename_i hk
    split at h
    ·rename_i b hx
     split at h
     ·rename_i ik n hy
      exact .inl ⟨_,Un Γ.toTy hop hi hk hx hy h.1 h.2.1,h.2.2⟩
     ·exact .inr h
    ·exact .inr h
   ·exact .inr h
  ·exact .inr h
 | slice t x lo hi mx =>
  simp only[opW,hop]at h
  split at h
  ·split at h
   ·rename_i i hi'
    split at h
    ·rename_i hk
     split at h
     ·rename_i b hx
      rcases Asi h with ⟨l,hl,h⟩ | h
      ·rcases Asi h with ⟨r,hr,h⟩ | h
       ·obtain ⟨⟨a1,a2,a3⟩,h⟩:=h
        exact .inl ⟨_,Uk (lo:=l.toNat) (hi:=r.toNat) Γ.toTy hop hi' hk hx (hl.is a1 E) (hr.is q_ y_) q_ q_,h⟩
       ·exact .inr h
      ·exact .inr h
     ·exact .inr h
    ·exact .inr h
   ·exact .inr h
  ·exact .inr h
 | makeFunc fn first cap =>
  simp only[opW,hop,K0]at h
  exact .inl ⟨_,Aa6 (ys:=first.toList) (xs:=cap.toList) (by rw[hop]),h⟩
 | call c =>
  simp only[opW,hop]at h
  split at h
  ·rename_i hcal
   split at h
   ·rename_i x t r hargs hats
    have hc:c=⟨.builtin .len,#[x],c.argTypes⟩:=by
     obtain ⟨a,b,d⟩:=c
     simp only at hcal hargs ⊢
     have:b=#[x]:=by
      apply Array.ext'
      simpa using hargs
     rw[hcal,this]
    rw[hc]at hop
    have hat:c.argTypes[0]? = some t:=by
     rw[← Array.getElem?_toList,hats];rfl
    split at h
    ·rename_i i hi
     split at h
     ·rename_i et sz eb ez hk
      split at h
      ·rename_i z α e l hx
       exact .inl ⟨_,Zl Γ.toTy hop hat hi hk (.inl ⟨z,α,e,l,hx,E,E⟩),h⟩
      ·rename_i k hx
       split at h
       ·rename_i n hn
        exact .inl ⟨_,Zl Γ.toTy hop hat hi hk (.inr (.inl ⟨k,hx,hn,E⟩)),h⟩
       ·exact .inr h
      ·rename_i a n cap hx
       exact .inl ⟨_,Zl Γ.toTy hop hat hi hk (.inr (.inr ⟨a,cap,hx,E⟩)),h⟩
      ·exact .inr h
     ·rename_i hk
      split at h
      ·rename_i b hx
       exact .inl ⟨_,Xm Γ.toTy hop hat hi hk hx,h⟩
      ·exact .inr h
     ·exact .inr h
    ·exact .inr h
   ·exact .inr h
  ·exact .inr h
 | _=>simp only[opW,hop]at h;exact .inr h
theorem Atr {P:Program} {Γ:TyE P} {o:Oper} {s:SS} {K:Up→Prop} {stop:Prop} (h:opW Γ o s K stop):(∃ U,GoodX P o s U∧K U)∨stop:=by
 have hgen:(Hp o || Kx o)=false→(∃ U,GoodX P o s U∧K U)∨stop:=fun hn=>by
  rcases Aqt h with ⟨U,hU,hk⟩ | h
  ·exact .inl ⟨U,.of hU hn,hk⟩
  ·exact .inr h
 cases hop:o.op with
 | indexAddr t x y =>
  have hst:Kx o=false:=by simp[Kx,hop]
  have hops:x∈o.op.operands∧y∈o.op.operands:=by simp[hop,Op.operands]
  simp only[opW,hop]at h
  split at h
  ·rename_i i hi
   split at h
   ·rename_i et esz eb ez hk
    split at h
    ·rename_i ik n hy
     split at h
     ·rename_i sz α e l hx
      obtain ⟨rfl,h0,hn,h⟩:=h
      exact .inl ⟨_,⟨(H3 Γ.toTy hop hi hk hx hy h0 hn).two,fun _=>⟨rfl,fun s' h1 h2=>H3 Γ.toTy hop hi hk ((h1 x hops.1).trans hx) ((h1 y hops.2).trans hy) h0 hn⟩,fun hc=>(by rw[hst]at hc;cases hc)⟩,h⟩
     ·rename_i k hx
      split at h
      ·rename_i len hl
       exact .inl ⟨_,⟨(Hi Γ.toTy hop hi hk hx hl hy h.1 h.2.1).two,fun _=>⟨rfl,fun s' h1 h2=>Hi Γ.toTy hop hi hk ((h1 x hops.1).trans hx) (Ob.shp_len (h2 k y_) hl) ((h1 y hops.2).trans hy) h.1 h.2.1⟩,fun hc=>(by rw[hst]at hc;cases hc)⟩,h.2.2⟩
      ·exact .inr h
     ·exact .inr h
    ·exact .inr h
   ·rename_i et len esz hk
    split at h
    ·rename_i ik n hy
     split at h
     ·rename_i k off hx
      split at h
      ·rename_i l hl
       exact .inl ⟨_,⟨(E5 Γ.toTy hop hi hk hx hl hy h.1 h.2.1).two,fun _=>⟨rfl,fun s' h1 h2=>(Ob.shp_box ((h2 k y_).trans (congrArg Ob.shp hl))).elim fun m hm=>E5 Γ.toTy hop hi hk ((h1 x hops.1).trans hx) hm ((h1 y hops.2).trans hy) h.1 h.2.1⟩,fun hc=>(by rw[hst]at hc;cases hc)⟩,h.2.2⟩
      ·exact .inr h
     ·rename_i sz z off hx
      exact .inl ⟨_,⟨(E4 Γ.toTy hop hi hk hx hy h.1 h.2.1).two,fun _=>⟨rfl,fun s' h1 h2=>E4 Γ.toTy hop hi hk ((h1 x hops.1).trans hx) ((h1 y hops.2).trans hy) h.1 h.2.1⟩,fun hc=>(by rw[hst]at hc;cases hc)⟩,h.2.2⟩
     ·exact .inr h
    ·exact .inr h
   ·exact .inr h
  ·exact .inr h
 | store t x y =>
  have hidx:Hp o=false:=by simp[Hp,hop]
  simp only[opW,hop,K0]at h
  split at h
  ·rename_i i hi
   split at h
   ·rename_i k off hx
    split at h
    ·rename_i l hk
     split at h
     ·rename_i hc
      simp only[Bool.and_eq_true]at hc
      exact .inl ⟨_,⟨(Oq Γ.toTy hop hx hi hk hc.1.1 (Nat.eq_of_beq_eq_true hc.1.2) (Nat.le_of_ble_eq_true hc.2)).two,fun hc=>(by rw[hidx]at hc;cases hc),fun _ p hp=>by
       simp only[List.mem_singleton]at hp
       subst hp
       show (Ob.box _).shp=(s.h k).shp
       rw[hk];rfl⟩,h⟩
     ·exact .inr h
    ·exact .inr h
   ·rename_i k sz n off hx
    split at h
    ·rename_i sz' α e l hk
     obtain ⟨rfl,hn,z,hz,hc,h⟩:=h
     simp only[Bool.and_eq_true]at hc
     obtain ⟨⟨⟨⟨⟨c1,c2⟩,c3⟩,c4⟩,c5⟩,c6⟩:=hc
     exact .inl ⟨_,⟨(Oo Γ.toTy hop hx hi hk c1 (Nat.eq_of_beq_eq_true c2) (Nat.le_of_ble_eq_true c3) hn hz c4 c5 c6).two,fun hc=>(by rw[hidx]at hc;cases hc),fun _ p hp=>by
      simp only[List.mem_singleton]at hp
      subst hp
      show (Ob.row _ _ _).shp=(s.h k).shp
      rw[hk]
      simp[Ob.shp]⟩,h⟩
    ·exact .inr h
   ·exact .inr h
  ·exact .inr h
 | _=>exact hgen (by simp[Hp,Kx,hop])
def Zi (idx:Nat):List Oper→Bool
 | []=>false
 | o::r=>(match o.guard with
  | some (j,_)=>Nat.beq j idx
  | none=>false) || Zi idx r
def Auc (isg:Bool) (U:Up) (K K':Up→Prop):Prop :=
 match isg with
 | false=>K U
 | true=>(match U.v with
  | .val (.bool b)=>(b=true→K' ⟨.val (.bool true),U.rd,U.objs⟩)∧(b=false→K' ⟨.val (.bool false),U.rd,U.objs⟩)
  | _=>K U)
theorem Al0 {X:Up→Prop} {isg:Bool} {U:Up} {K K':Up→Prop} (hK:∀ U,K U→K' U) (hg:X U) (h:Auc isg U K K'):∃ U',X U'∧K' U':=by
 unfold Auc at h
 split at h
 ·exact⟨U,hg,hK _ h⟩
 ·split at h
  ·rename_i b hb
   obtain ⟨v,rd,objs⟩:=U
   simp only at hb
   subst hb
   cases b
   ·exact⟨_,hg,h.2 E⟩
   ·exact⟨_,hg,h.1 E⟩
  ·exact⟨U,hg,hK _ h⟩
def Dt (n:Nat) (all:Array Oper) (o:Oper) (s:SS):Option Bool :=
 match o.guard with
 | none=>some true
 | some (j,want)=>(match (all[j]?).bind (·.dst) with
  | some d=>(match Nat.blt d n with
   | true=>(match s.σ d with
    | .val (.bool c)=>(match c with
     | true=>some want
     | false=>(match want with | true=>some false | false=>some true))
    | .val (.tuple a)=>(match a.toList with | []=>some false | _=>none)
    | _=>none)
   | false=>none)
  | none=>none)
theorem Eg {n:Nat} {all:Array Oper} {o:Oper} {s:SS} {b:Bool} (h:Dt n all o s=some b):Tg all s o.guard b∧∀ j want,o.guard=some (j,want)→∀ d,((all[j]?).bind (·.dst))=some d→d<n:=by
 unfold Dt at h
 cases hg:o.guard with
 | none =>
  rw[hg]at h
  simp only[Option.some.injEq]at h
  exact⟨h.symm,fun j want hh=>by cases hh⟩
 | some p =>
  obtain ⟨j,want⟩:=p
  rw[hg]at h
  simp only at h
  split at h
  ·rename_i d hd
   split at h
   ·rename_i hlt
    refine⟨⟨d,hd,?_⟩,fun j' want' hh d' hd'=>?_⟩
    ·split at h
     ·rename_i c hc
      left
      refine⟨c,hc,?_⟩
      cases c
      ·cases want<;>simp_all
      ·simp_all
     ·rename_i a ha
      split at h
      ·rename_i he
       right
       have:a=#[]:=by simpa using he
       subst this
       simp only[Option.some.injEq]at h
       exact⟨ha,h.symm⟩
      ·cases h
     ·cases h
    ·simp only[Option.some.injEq,Prod.mk.injEq]at hh
     obtain ⟨rfl,rfl⟩:=hh
     rw[hd]at hd'
     simp only[Option.some.injEq]at hd'
     subst hd'
     exact Nat.le_of_ble_eq_true hlt
   ·cases h
  ·cases h
def Oy (n:Nat) (o:Oper):Bool:=match o.dst with | some d=>Nat.blt d n | none=>true
mutual
def K1 (C:Cx) (Γ:TyE C.P):Nat→List KI→SS→Prop
 | 0,k,s=>G C k s
 | n+1,k,s=>(match k with
  | []=>G C [] s
  | .blk _::k=>K1 C Γ n k s
  | .inv I::k=>G C (.inv I::k) s
  | .scp::k=>K1 C Γ n k s
  | .ops _ []::k=>K1 C Γ n k s
  | .ops all (o::rest)::k=>(match Oy C.n o with
   | true=>(match Dt C.n all o s with
    | some true=>opW Γ o s (fun U=>Auc (Zi (all.size-rest.length-1) rest) U (fun U=>K1 C Γ n (.ops all rest::k) (s.upd o.dst U)) (fun U=>G C (.ops all rest::k) (s.upd o.dst U))) (G C (.ops all (o::rest)::k) s)
    | some false=>K1 C Γ n (.ops all rest::k) (s.upd o.dst ⟨.val undef,[],[]⟩)
    | none=>G C (.ops all (o::rest)::k) s)
   | false=>G C (.ops all (o::rest)::k) s)
  | .code c::k=>(match c with
   | .skip=>K1 C Γ n k s
   | .seq x y=>K1 C Γ n (.code x::.code y::k) s
   | .block id c=>K1 C Γ n (.code c::.blk id::k) s
   | .scope c=>K1 C Γ n (.code c::.scp::k) s
   | .label _=>K1 C Γ n k s
   | .region id ops draw=>(match draw with
    | false=>K1 C Γ n (.ops ops ops.toList::k) s
    | true=>(match Akc C.n ops.toList with
     | true=>Uv C Γ n k ops [] ops.toList s
     | false=>G C (.code (.region id ops true)::k) s))
   | .cond c x y=>(match ev s c with
    | .val (.bool b)=>(b=true→G C (.code x::k) s)∧(b=false→G C (.code y::k) s)
    | _=>G C (.code (.cond c x y)::k) s)
   | .exit id=>(match Sf id k with
    | some k'=>K1 C Γ n k' s
    | none=>G C (.code (.exit id)::k) s)
   | c=>G C (.code c::k) s))
def Uv (C:Cx) (Γ:TyE C.P):Nat→List KI→Array Oper→List Stp→List Oper→SS→Prop
 | 0,k,all,done,rest,s=>DR C k all done rest s
 | n+1,k,all,done,rest,s=>(match rest with
  | []=>Ad8 all done=true∧K1 C Γ n k s
  | o::rest=>(match Dt C.n all o s with
   | some true=>opW Γ o s (fun U=>Auc (Zi (all.size-rest.length-1) rest) U (fun U=>Uv C Γ n k all (done++[⟨done.length,o,U,true⟩]) rest (s.upd o.dst U)) (fun U=>DR C k all (done++[⟨done.length,o,U,true⟩]) rest (s.upd o.dst U))) (DR C k all done (o::rest) s)
   | some false=>Uv C Γ n k all (done++[⟨done.length,o,⟨.val undef,[],[]⟩,false⟩]) rest (s.upd o.dst ⟨.val undef,[],[]⟩)
   | none=>DR C k all done (o::rest) s))
end
theorem Zx {n:Nat} {o:Oper} (h:Oy n o=true):∀ d,o.dst=some d→d<n:=fun d hd=>by
 unfold Oy at h
 rw[hd]at h
 exact Nat.le_of_ble_eq_true h
theorem Asl {all:Array Oper} {done:List Stp} {o:Oper} {rest:List Oper} (h:all.toList=done.map (·.o)++o::rest):all[done.length]? = some o:=by
 rw[← Array.getElem?_toList,h,List.getElem?_append_right y_]
 simp
theorem Al1 {C:Cx} {Γ:TyE C.P} (hm:C.P.follows .mixedOrders=true):∀ n,(∀ k s,K1 C Γ n k s→G C k s)∧(∀ k all done rest s,all.toList=done.map (·.o)++rest→Uv C Γ n k all done rest s→DR C k all done rest s):=by
 intro n
 induction n with
 | zero=>exact⟨fun k s h=>(by simpa only [K1] using h),fun k all done rest s _ h=>(by simpa only [Uv] using h)⟩
 | succ n ih =>
  obtain ⟨ih1,ih2⟩:=ih
  constructor
  ·intro k s h
   simp only[K1]at h
   split at h
   ·exact h
   ·exact G_blk (ih1 _ _ h)
   ·exact h
   ·exact G_scp (ih1 _ _ h)
   ·exact Ao9 (ih1 _ _ h)
   ·rename_i all o rest k'
    split at h
    ·rename_i hd
     have hd':=Zx hd
     split at h
     ·rename_i hg
      obtain ⟨w1,w2⟩:=Eg hg
      rcases Aqt h with ⟨U,hU,hk⟩ | h
      ·obtain ⟨U',hU',hk'⟩:=Al0 (X:=Good C.P o s) (fun U hu=>ih1 _ _ hu) hU hk
       exact G_op hU' (fun κ a w hs=>Tf hs w2 w1) hd' hk'
      ·exact h
     ·rename_i hg
      obtain ⟨w1,w2⟩:=Eg hg
      exact Apa (fun κ a w hs=>Tf hs w2 w1) hd' (ih1 _ _ h)
     ·exact h
    ·exact h
   ·rename_i c k'
    split at h
    ·exact G_skip (ih1 _ _ h)
    ·exact G_seq (ih1 _ _ h)
    ·exact Au0 (ih1 _ _ h)
    ·exact Auy (ih1 _ _ h)
    ·exact Auz (ih1 _ _ h)
    ·split at h
     ·exact Asw (ih1 _ _ h)
     ·split at h
      ·rename_i hd
       exact G_draw hm hd (ih2 _ _ _ _ _ y_ h)
      ·exact h
    ·split at h
     ·rename_i b hc
      exact G_cond hc h.1 h.2
     ·exact h
    ·split at h
     ·rename_i hx
      exact G_exit hx (ih1 _ _ h)
     ·exact h
    ·exact h
  ·intro k all done rest s hsplit h
   simp only[Uv]at h
   split at h
   ·exact DR_nil h.1 (ih1 _ _ h.2)
   ·rename_i o rest
    have hi:=Asl hsplit
    split at h
    ·rename_i hg
     obtain ⟨w1,w2⟩:=Eg hg
     rcases Atr h with ⟨U,hU,hk⟩ | h
     ·obtain ⟨U',hU',hk'⟩:=Al0 (X:=GoodX C.P o s) (fun U hu=>ih2 _ _ _ _ _ (by simp[hsplit]) hu) hU hk
      exact Asx U' hU' hi w1 hk'
     ·exact h
    ·rename_i hg
     obtain ⟨w1,w2⟩:=Eg hg
     exact Au1 hi w1 (ih2 _ _ _ _ _ (by simp[hsplit]) h)
    ·exact h
theorem aF {p q:Prop} (h:q):(false=true→p)∧(false=false→q):=⟨fun e=>(Bool.false_ne_true e).elim,fun _=>h⟩
theorem aT {p q:Prop} (h:p):(true=true→p)∧(true=false→q):=⟨fun _=>h,fun e=>(Bool.false_ne_true e.symm).elim⟩
theorem run {C:Cx} {k:List KI} {s:SS} (Γ:TyE C.P) (hm:C.P.follows .mixedOrders=true) (n:Nat) (h:K1 C Γ n k s):G C k s:=(Al1 hm n).1 k s h
theorem runD {C:Cx} {k:List KI} {s:SS} {all:Array Oper} {done:List Stp} {rest:List Oper} (Γ:TyE C.P) (hm:C.P.follows .mixedOrders=true) (n:Nat) (hs:all.toList=done.map (·.o)++rest) (h:Uv C Γ n k all done rest s):DR C k all done rest s :=
 (Al1 hm n).2 k all done rest s hs h
theorem rG {C:Cx} {k:List KI} {s:SS} (Γ:TyE C.P) (hm:C.P.follows .mixedOrders=true) (h:K1 C Γ 400 k s):G C k s:=run Γ hm 400 h
theorem rD {C:Cx} {k:List KI} {s:SS} {all:Array Oper} {done:List Stp} {rest:List Oper} (Γ:TyE C.P) (hm:C.P.follows .mixedOrders=true) (hs:all.toList=done.map (·.o)++rest) (h:Uv C Γ 400 k all done rest s):DR C k all done rest s:=runD Γ hm 400 hs h
theorem Af {C:Cx} {k:List KI} {s:SS} {all:Array Oper} {o:Oper} {rest:List Oper} {U:Up} (hg:Good C.P o s U) (hd:Oy C.n o=true) (hw:Dt C.n all o s=some true) (h:G C (.ops all rest::k) (s.upd o.dst U)):G C (.ops all (o::rest)::k) s :=
 G_op hg (fun _ _ _ hs=>Tf hs (Eg hw).2 (Eg hw).1) (Zx hd) h
theorem Bm {C:Cx} {k:List KI} {s:SS} {all:Array Oper} {done:List Stp} {o:Oper} {rest:List Oper} {U:Up} (hg:Good C.P o s U) (hi:all[done.length]? = some o) (hw:Dt C.n all o s=some true)
  (h:DR C k all (done++[⟨done.length,o,U,true⟩]) rest (s.upd o.dst U)) (hn:(Hp o || Kx o)=false:=by rfl):DR C k all done (o::rest) s:=Asx U (.of hg hn) hi (Eg hw).1 h
theorem done {P:Program} {fn:Func} {F:Fr} {R:SV} {H':Obs} {Γ:Ty P} {n:Nat} {bn:List Nat} {hbn:∀ k,F.k0 k≠.new→k∈bn} {k:List KI} {s:SS} {rs:List ResultVar} (hf:fn.results=rs.toArray) {xs:List SV} (hx:ResVs Γ.get s rs xs)
  (ρ:List (Nat × Nat)) (L:Obs) (hL:∀ p∈H',p∈L) (hR:R.ren (Az ρ)=Ahj xs) (hRn:R.inn L.keys=true) (hsub:Sub ⟨P,Γ,F,n,Xt P fn F R H',bn,hbn⟩ s ρ [] L):G ⟨P,Γ,F,n,Xt P fn F R H',bn,hbn⟩ (.code .ret::k) s :=
 G_ret fun _ _ _ hs=>(Alh hf hx ρ L hL hR hRn hsub hs).1
theorem A1 {P:Program} {fn:Func} {F:Fr} {R:SV} {H':Obs} {Γ:Ty P} {n:Nat} {bn:List Nat} {hbn:∀ k,F.k0 k≠.new→k∈bn} {s:SS} {rs:List ResultVar} (hf:fn.results=rs.toArray) {xs:List SV} (hx:ResVs Γ.get s rs xs)
  (ρ:List (Nat × Nat)) (L:Obs) (hL:∀ p∈H',p∈L) (hR:R.ren (Az ρ)=Ahj xs) (hRn:R.inn L.keys=true) (hsub:Sub ⟨P,Γ,F,n,Xt P fn F R H',bn,hbn⟩ s ρ [] L):G ⟨P,Γ,F,n,Xt P fn F R H',bn,hbn⟩ [] s :=
 G_nil fun _ _ _ hs=>(Alh hf hx ρ L hL hR hRn hsub hs).2
theorem Ap {P:Program} {fn:Func} {F:Fr} {R:SV} {Γ:Ty P} {n:Nat} {hbn:∀ k,F.k0 k≠.new→k∈[]} {k:List KI} {s:SS} {rs:List ResultVar} (hf:fn.results=rs.toArray) {xs:List SV} (hx:ResVs Γ.get s rs xs)
  (hR:R=Ahj xs) (hRn:R.inn []=true):G ⟨P,Γ,F,n,Xt P fn F R [],[],hbn⟩ (.code .ret::k) s:=by
 have hid:∀ x:SV,x.ren (Az [])=x:=fun x=>A5 x
 exact done hf hx [] [] (fun _ h=>h) (by rw[hid];exact hR) hRn ⟨Y,Y,E,E⟩
def fieldsOf (P:Program):List Field→Option (List (Nat × Nat))
 | []=>some []
 | f::fs=>match P.info? f.type,fieldsOf P fs with
  | some i,some r=>some ((f.offset,i.size)::r)
  | _,_=>none
theorem W2 {P:Program}:∀ {fs:List Field} {r:List (Nat × Nat)},fieldsOf P fs=some r→Ed P fs r
 | [],r,h=>by simp only[fieldsOf,Option.some.injEq]at h;subst h;trivial
 | f::fs,r,h=>by
  simp only[fieldsOf]at h
  split at h
  ·rename_i i q hi hq
   simp only[Option.some.injEq]at h
   subst h
   exact⟨E,by rw[hi];rfl,W2 hq⟩
  ·cases h
def tkOf (P:Program) (d:TypeDesc):Option TK :=
 match d with
 | .bool=>some .bool
 | .int k=>some (.int k)
 | .string=>some .string
 | .slice e=>(match P.info? e with
  | some i=>(match i.zero with
   | some z=>some (.slice e i.size i.bytes z.cells.toList)
   | none=>none)
  | none=>none)
 | .struct fs=>(match fieldsOf P fs.toList with
  | some r=>some (.struct r)
  | none=>none)
 | .array len e=>(match P.info? e with
  | some i=>some (.array e len i.size)
  | none=>none)
 | .pointer _=>some .ptr
 | .interface _=>some .iface
 | .func _ _ _=>some .func
 | _=>none
theorem Atb {P:Program} {d:TypeDesc} {k:TK} (h:tkOf P d=some k):TK.ok P d k:=by
 unfold tkOf at h
 split at h
 ·cases h;rfl
 ·cases h;rfl
 ·cases h;rfl
 ·split at h
  ·rename_i i hi
   split at h
   ·rename_i z hz
    cases h
    exact⟨E,i,z,hi,E,E,hz,E⟩
   ·cases h
  ·cases h
 ·split at h
  ·rename_i r hr
   cases h
   exact⟨_,E,W2 hr⟩
  ·cases h
 ·split at h
  ·rename_i i hi
   cases h
   exact⟨E,i,hi,E⟩
  ·cases h
 ·cases h;exact⟨_,rfl⟩
 ·cases h;exact⟨_,rfl⟩
 ·cases h;exact⟨_,_,_,rfl⟩
 ·cases h
def A7 (P:Program) (t:TypeId):Option TI :=
 match P.underlying t,P.info? t with
 | some d,some info=>(match tkOf P d,info.zero with
  | some k,some z=>some ⟨k,info.size,z.cells.toList⟩
  | _,_=>none)
 | _,_=>none
theorem Atc {P:Program} {t:TypeId} {i:TI} (h:A7 P t=some i):i.ok P t:=by
 unfold A7 at h
 split at h
 ·rename_i d info hd hi
  split at h
  ·rename_i k z hk hz
   cases h
   exact⟨d,info,z,hd,Atb hk,hi,E,hz,E⟩
  ·cases h
 ·cases h
inductive Tr (α:Type) | lf | nd (k:Nat) (v:α) (l r:Tr α)
def Tr.look {α:Type} (t:Nat):Tr α→Option α
 | .lf=>none
 | .nd k v l r=>bif Nat.beq t k then some v else bif Nat.blt t k then l.look t else r.look t
def Tr.all {α:Type} (p:Nat→α→Prop):Tr α→Prop
 | .lf=>True
 | .nd k v l r=>p k v∧l.all p∧r.all p
theorem Tr.look_ok {α:Type} {p:Nat→α→Prop} {t:Nat} {v:α}:∀ {T:Tr α},T.all p→T.look t=some v→p t v
 | .lf,_,h=>by cases h
 | .nd k u l r,ha,h=>by
  simp only[Tr.look,Bool.cond_eq_ite]at h
  split at h
  ·rename_i hb
   have:=Nat.eq_of_beq_eq_true hb
   subst this
   simp only[Option.some.injEq]at h
   subst h
   exact ha.1
  ·split at h
   ·exact Tr.look_ok ha.2.1 h
   ·exact Tr.look_ok ha.2.2 h
def ekOf (P:Program) (t:TypeId):Option EK :=
 match P.underlying t with
 | some (.int k)=>some (.int k)
 | some .bool=>some .bool
 | some .string=>some .string
 | _=>none
def Aha (P:Program):Nat→List Field→Option (List EK)
 | _,[]=>some []
 | i,f::fs=>match ekOf P f.type,Aha P (i+1) fs with
  | some k, some r => if f.name ≠ "_" ∧ f.offset = i then some (k :: r) else none
  | _,_=>none
theorem Ag9 {P:Program}:∀ {fs:List Field} {i:Nat} {r:List EK},Aha P i fs=some r→Aj9 P i fs r
 | [],i,r,h=>by simp only[Aha,Option.some.injEq]at h;subst h;trivial
 | f::fs,i,r,h=>by
  simp only[Aha]at h
  split at h
  ·rename_i k q hk hq
   split at h
   ·rename_i hc
    cases h
    refine⟨hc.1,hc.2,?_,Ag9 hq⟩
    unfold ekOf at hk
    split at hk<;>first | (cases hk;assumption) | cases hk
   ·cases h
  ·cases h
def Lk (P:Program) (t:TypeId):Option (List EK) :=
 match P.underlying t with
 | some (.struct fs)=>if P.stoodInHeld t=false∧P.eqGuardType P.depth t=false then Aha P 0 fs.toList else none
 | _=>none
theorem Ar2 {P:Program} {t:TypeId} {r:List EK} (h:Lk P t=some r):EqOK P t r:=by
 unfold Lk at h
 split at h
 ·rename_i fs hfs
  split at h
  ·rename_i hc
   have hf:P.fieldsOf t=fs:=by simp[Program.fieldsOf,hfs]
   exact⟨by rw[hf];exact hfs,hc.1,hc.2,by rw[hf];exact Ag9 h⟩
  ·cases h
 ·cases h
def Ako (fn:Func):Code:=fn.body.getD .skip
end Go.Sy
namespace Go.Sy
def Alt {α:Type 1}:List α→Nat→Bool
 | [],_=>true
 | _::_,0=>false
 | _::l,n+1=>Alt l n
theorem Ago {α:Type 1}:∀ {l:List α} {n:Nat},Alt l n=true→l.length≤n
 | [],_,_=>Nat.zero_le _
 | _::_,0,h=>by cases h
 | _::l,n+1,h=>Nat.succ_le_succ (Ago (l:=l) h)
theorem U0 {P:Program} (Γ:TyE P) (hm:P.follows .mixedOrders=true) (N:Nat) {f:FuncId} {fn:Func} {c:Code} {A:List SV} {H:Obs} {R:SV} {H':Obs} (hF:Fun P f fn c) {n:Nat} (hn':fn.ntmps=n) (hn:Alt A n=true)
  (h:∀ (F:Fr) (hF:∀ k,F.k0 k≠.new→k∈H.keys),K1 ⟨P,Γ.toTy,F,n,Xt P fn F R H',H.keys,hF⟩ Γ N [.code c] ⟨argσ A,mkh H⟩):Sy.Spec P f A H R H' :=
 Amx Γ.toTy hF.1 hF.2 hn' (Ago hn) fun F hF=>run Γ hm N (h F hF)
variable {C:Cx} {k:List KI} {s:SS}
theorem Kl {all:Array Oper} {o:Oper} {rest:List Oper} {f:FuncId} {fn:Func} {c:Code} {xs:List Operand} {ts:Array TypeId} {A:List SV} {R:SV} (hs:Sy.Spec C.P f A [] R []) (hf:Fun C.P f fn c) (h:o.op=.call ⟨.value (.func f),xs.toArray,ts⟩)
  (hA:A=xs.map (ev s)) (hok:(By [] A && R.inn [])=true) (hd:Oy C.n o=true) (hw:Dt C.n all o s=some true) (hg:G C (.ops all rest::k) (s.upd o.dst ⟨R,[],[]⟩)):G C (.ops all (o::rest)::k) s:=by
 have hid:∀ x:SV,x.ren (Az [])=x:=fun x=>A5 x
 have hidL:∀ x:List SV,Ie (Az []) x=x:=fun x=>Hb x
 have:=Ad (s:=s) (o:=o) [] h hf hs (by rw[hidL];exact hA) trivial (by simp_all[I4,Qz,Ac0,Obs.keys]) trivial
 rw[hid]at this
 exact Af this hd hw hg
theorem Asg {all:Array Oper} {done:List Stp} {o:Oper} {rest:List Oper} {f:FuncId} {fn:Func} {c:Code} {xs:List Operand} {ts:Array TypeId} {A:List SV} {R:SV} (hs:Sy.Spec C.P f A [] R []) (hf:Fun C.P f fn c) (h:o.op=.call ⟨.value (.func f),xs.toArray,ts⟩)
  (hA:A=xs.map (ev s)) (hok:(By [] A && R.inn [])=true) (hi:all[done.length]? = some o) (hw:Dt C.n all o s=some true) (hg:DR C k all (done++[⟨done.length,o,⟨R,[],[]⟩,true⟩]) rest (s.upd o.dst ⟨R,[],[]⟩)):DR C k all done (o::rest) s:=by
 have hid:∀ x:SV,x.ren (Az [])=x:=fun x=>A5 x
 have hidL:∀ x:List SV,Ie (Az []) x=x:=fun x=>Hb x
 have:=Ad (s:=s) (o:=o) [] h hf hs (by rw[hidL];exact hA) trivial (by simp_all[I4,Qz,Ac0,Obs.keys]) trivial
 rw[hid]at this
 exact Bm this hi hw hg (by simp[Hp,Kx,h])
theorem Al7 {all:Array Oper} {o:Oper} {rest:List Oper} (V:List Nat) {f:FuncId} {fn:Func} {c:Code} {xs:List Operand} {ts:Array TypeId} {A:List SV} {R:SV} (hs:Sy.Spec C.P f A [] R []) (hf:Fun C.P f fn c) (h:o.op=.call ⟨.value (.func f),xs.toArray,ts⟩)
  (hA:VwL s V (xs.map (ev s)) A) (hok:(By [] A && R.plain)=true) (hd:Oy C.n o=true) (hw:Dt C.n all o s=some true) (hg:G C (.ops all rest::k) (s.upd o.dst ⟨R,V,[]⟩)):G C (.ops all (o::rest)::k) s:=by
 simp only[Bool.and_eq_true]at hok
 exact Af (Eu V h hf hs hA hok.1 hok.2) hd hw hg
def Ek (P:Program) (f:FuncId) (A:List SV) (R:SV):Prop:=(∃ fn c,Fun P f fn c)∧Sy.Spec P f A [] R []
theorem call0E {all:Array Oper} {o:Oper} {rest:List Oper} {f:FuncId} {B A:List SV} {R:SV} (hE:Ml C.P o s [] f B) (hs:Sy.Spec C.P f A [] R [])
  (hA:A=B) (hok:(By [] A && R.inn [])=true) (hd:Oy C.n o=true) (hw:Dt C.n all o s=some true) (hg:G C (.ops all rest::k) (s.upd o.dst ⟨R,[],[]⟩)):G C (.ops all (o::rest)::k) s:=by
 have hid:∀ x:SV,x.ren (Az [])=x:=fun x=>A5 x
 have hidL:∀ x:List SV,Ie (Az []) x=x:=fun x=>Hb x
 have:=Bs (s:=s) (o:=o) [] hE hs (by rw[hidL];exact hA) trivial (by simp_all[I4,Qz,Ac0,Obs.keys]) trivial
 rw[hid]at this
 exact Af this hd hw hg
theorem Dq {all:Array Oper} {o:Oper} {rest:List Oper} {f:FuncId} {x:Operand} {xs:List Operand} {ts:Array TypeId} {first cap A:List SV} {R:SV} (hs:Ek C.P f A R) (h:o.op=.call ⟨.value x,xs.toArray,ts⟩) (hx:ev s x=.clo (.func f) first cap)
  (hA:A=first++xs.map (ev s)++cap) (hok:(By [] A && R.inn [])=true) (hd:Oy C.n o=true) (hw:Dt C.n all o s=some true) (hg:G C (.ops all rest::k) (s.upd o.dst ⟨R,[],[]⟩)):G C (.ops all (o::rest)::k) s:=by
 obtain ⟨⟨fn,c,hf⟩,hs⟩:=hs
 exact call0E (B4 h hx hf) hs hA hok hd hw hg
theorem Aun {all:Array Oper} {done:List Stp} {o:Oper} {rest:List Oper} {f:FuncId} {B A:List SV} {R:SV} (hE:Ml C.P o s [] f B) (hn:(Hp o || Kx o)=false) (hs:Sy.Spec C.P f A [] R [])
  (hA:A=B) (hok:(By [] A && R.inn [])=true) (hi:all[done.length]? = some o) (hw:Dt C.n all o s=some true) (hg:DR C k all (done++[⟨done.length,o,⟨R,[],[]⟩,true⟩]) rest (s.upd o.dst ⟨R,[],[]⟩)):DR C k all done (o::rest) s:=by
 have hid:∀ x:SV,x.ren (Az [])=x:=fun x=>A5 x
 have hidL:∀ x:List SV,Ie (Az []) x=x:=fun x=>Hb x
 have:=Bs (s:=s) (o:=o) [] hE hs (by rw[hidL];exact hA) trivial (by simp_all[I4,Qz,Ac0,Obs.keys]) trivial
 rw[hid]at this
 exact Bm this hi hw hg hn
theorem Akm {all:Array Oper} {done:List Stp} {o:Oper} {rest:List Oper} {f:FuncId} {x:Operand} {xs:List Operand} {ts:Array TypeId} {first cap A:List SV} {R:SV} (hs:Ek C.P f A R) (h:o.op=.call ⟨.value x,xs.toArray,ts⟩) (hx:ev s x=.clo (.func f) first cap)
  (hA:A=first++xs.map (ev s)++cap) (hok:(By [] A && R.inn [])=true) (hi:all[done.length]? = some o) (hw:Dt C.n all o s=some true) (hg:DR C k all (done++[⟨done.length,o,⟨R,[],[]⟩,true⟩]) rest (s.upd o.dst ⟨R,[],[]⟩)):DR C k all done (o::rest) s:=by
 obtain ⟨⟨fn,c,hf⟩,hs⟩:=hs
 exact Aun (B4 h hx hf) (by simp[Hp,Kx,h]) hs hA hok hi hw hg
theorem Asf {all:Array Oper} {done:List Stp} {o:Oper} {rest:List Oper} (V:List Nat) {f:FuncId} {fn:Func} {c:Code} {xs:List Operand} {ts:Array TypeId} {A:List SV} {R:SV} (hs:Sy.Spec C.P f A [] R []) (hf:Fun C.P f fn c) (h:o.op=.call ⟨.value (.func f),xs.toArray,ts⟩)
  (hA:VwL s V (xs.map (ev s)) A) (hok:(By [] A && R.plain)=true) (hi:all[done.length]? = some o) (hw:Dt C.n all o s=some true) (hg:DR C k all (done++[⟨done.length,o,⟨R,V,[]⟩,true⟩]) rest (s.upd o.dst ⟨R,V,[]⟩)):DR C k all done (o::rest) s:=by
 simp only[Bool.and_eq_true]at hok
 exact Bm (Eu V h hf hs hA hok.1 hok.2) hi hw hg (by simp[Hp,Kx,h])
end Go.Sy
namespace Go.Sy
theorem Aou {P:Program} (w:World) (dT sT ty elem:TypeId) (d a:Option Addr) (dLen dCap sLen sCap:Nat) {i:TypeInfo} (hu:P.underlying dT=some (.slice elem)) (hq:P.info? elem=some i) (_hi:i.size=1) (hn:min sLen dLen=0) :
  (Builtin.copy_ #[dT,sT] ty #[.slice d dLen dCap,.slice a sLen sCap]).run P w=.ok (.int .i64 0) w:=by
 have hl:∀ (x:Addr),(loadCells x 0).run P w=.ok #[] w:=fun x=>by simpa using run_loadCells_list (P:=P) w x [] y_
 have hn':Nat.min sLen dLen=0:=hn
 cases d<;>cases a<;>simp[Builtin.copy_,run_underlying hu,Builtin.lenOf,Builtin.firstCells,sizeOf,typeInfo,hq,hn',storeCells,hl]<;>rfl
theorem Aco {P:Program} (w w':World) (dT sT ty elem:TypeId) (d a:Addr) (dLen dCap sLen sCap:Nat) {i:TypeInfo} (cs:List Value) (hu:P.underlying dT=some (.slice elem)) (hq:P.info? elem=some i) (hi:i.size=1) (hn:cs.length=min sLen dLen)
  (hsrc:∀ j v,cs[j]? = some v→w.cell? (a.add j)=some v) (hst:(storeCells d cs 0).run P w=.ok () w') :
  (Builtin.copy_ #[dT,sT] ty #[.slice (some d) dLen dCap,.slice (some a) sLen sCap]).run P w=.ok (.int .i64 cs.length) w':=by
 have hl:=run_loadCells_list (P:=P) w a cs hsrc
 have hn':cs.length=Nat.min sLen dLen:=hn
 simp[Builtin.copy_,run_underlying hu,Builtin.lenOf,Builtin.firstCells,sizeOf,typeInfo,hq,hi,← hn',hl,hst]
 rfl
theorem V4 {P:Program} (Γ:Ty P) {o:Oper} {s:SS} {t:TypeId} {ti:TI} {et:TypeId} {eb k:Nat} {ez:List Value} {x y:Operand} {ks:List Nat} {α:Type} {e:α→SV} {l m:List α}
  (h:o.op=.call ⟨.builtin .copy,#[x,y],#[t,t]⟩) (ht:Γ.get t=some ti) (hk:ti.k=.slice et 1 eb ez) (hx:ev s x=.osl k) (ho':s.h k=.row 1 e l) (hs:AppSrc s 1 (ev s y) ks m.length (rowF e m)) :
  Good P o s ⟨.val (.int .i64 (min m.length l.length:Nat)),ks,[(k,.row 1 e (m.take l.length++l.drop m.length))]⟩:=by
 intro κ a w hi hr ho N Q hN
 have h1:=hr x (by simp[h,Op.operands,Call.operands])
 have h2:=hr y (by simp[h,Op.operands,Call.operands])
 have h3:=ho k (.inr (by simp[Up.ws]))
 rw[ho']at h3
 obtain ⟨hu,i,z,q1,q2,q3,q4,q5⟩:=B7 Γ ht hk
 have hsrc:=hs.src h2 (fun j hj=>ho j (.inl hj))
 have hlen:∃ ad cap,a.eval x=.slice ad l.length cap∧(l≠[]→∃ b c,κ k=.row b l.length c∧ad=some ⟨b,0,none⟩):=by
  have:=Ob.len_ok (ob:=.row 1 e l) (n:=l.length) rfl h3 (v:=a.eval x) (by rw[← hx];exact h1)
  obtain ⟨ad,cap,e1,e2⟩:=this
  exact⟨ad,cap,e1,fun hl=>e2 (by simpa using hl)⟩
 obtain ⟨ad,cap,e1,e2⟩:=hlen
 by_cases hz:min m.length l.length=0
 ·have hsame:m.take l.length++l.drop m.length=l:=by
   rcases Nat.eq_zero_or_pos m.length with h0 | h0
   ·have:m=[]:=List.length_eq_zero_iff.1 h0
    subst this
    simp
   ·have:l=[]:=List.length_eq_zero_iff.1 q_
    subst this
    simp
  have hsl:∃ a' c',a.eval y=.slice a' m.length c':=by
   rcases hsrc with ⟨h0,_,a',c',h4⟩ | ⟨b,off,c',news,h4,_⟩
   ·exact⟨a',c',by rw[h4,h0]⟩
   ·exact⟨_,_,h4⟩
  obtain ⟨a',c',h4⟩:=hsl
  have hrun:(execOp a.eval o).run P w=.ok (.value (.int .i64 (min m.length l.length:Nat))) w:=by
   have:=Aou (P:=P) w t t o.type et ad a' l.length cap m.length c' hu q1 q2 hz
   rw[hz]
   simp[execOp,h,resolve,invoke,builtin,e1,h4,this]
  simp only[Oper.wp,hrun,Oper.upon]
  refine hN _ κ w ((Hg [] κ hi).1.weaken y_) hi (by simp[Rd]) (fun p hp=>?_)
  simp only[List.mem_singleton]at hp
  subst hp
  rw[hsame]
  exact h3
 ·have hl:l≠[]:=by rintro rfl;simp at hz
  have h4:=h3.rowAt hl
  obtain ⟨b,cap',cs,T,fr,f1,f2,f3,f4,f5,f6⟩:=h4
  obtain ⟨b',c',g1,g2⟩:=e2 hl
  rw[f1]at g1
  cases g1
  rcases hsrc with ⟨h0,_⟩ | ⟨b2,off,c2,news,g3,g4,g5,g6,g7⟩
  ·simp[h0]at hz
  ·have hn:(news.take (min m.length l.length)).length=min m.length l.length:=by simp;omega
   obtain ⟨w',k1,k2,k3,k4,k5,k6,k7⟩:=Ck P b 0 T fr (news.take (min m.length l.length)) 0 cs w f2 f3 (by rw[hn];omega) (fun v hv=>g5 v (List.mem_of_mem_take hv))
   have hc:=Aco (P:=P) w w' t t o.type et ⟨b,0,none⟩ ⟨b2,off,none⟩ l.length cap m.length c2 (news.take (min m.length l.length)) hu q1 q2 hn (fun j v hv=>by
    rw[Addr.add_lit]
    refine g6 j v ?_
    rw[List.getElem?_take]at hv
    split at hv
    ·exact hv
    ·cases hv) k1
   rw[hn]at hc
   have hrun:(execOp a.eval o).run P w=.ok (.value (.int .i64 (min m.length l.length:Nat))) w':=by
    subst g2
    simp[execOp,h,resolve,invoke,builtin,e1,g3,hc]
   simp only[Oper.wp,hrun,Oper.upon]
   obtain ⟨st,inv⟩:=Ls hi (k:=k) (b:=b) (by rw[f1];rfl) k3 k4 k5 k6 k7
   refine hN _ κ w' (st.weaken (by simp[Up.ws])) inv (by simp[Rd]) (fun p hp=>?_)
   simp only[List.mem_singleton]at hp
   subst hp
   have hll:(m.take l.length++l.drop m.length).length=l.length:=by simp;omega
   refine .inr ⟨b,cap',_,T,fr,by rw[hll];exact f1,k2,by rw[Bw];exact f3,by rw[Bw];exact f4,by rw[hll];exact f5,?_⟩
   rintro j x ⟨hj,rfl⟩
   rw[hll]at hj
   refine⟨by rw[hll];exact hj,?_⟩
   have hset:=Jn cs (news.take (min m.length l.length)) 0
   by_cases hjm:j<m.length
   ·obtain ⟨_,u,u1,u2,u3,u4⟩:=g7 j (e m[j]) ⟨hjm,rfl⟩
    refine⟨u,?_,u2,u3,fun i hi'=>?_⟩
    ·have:(m.take l.length++l.drop m.length)[j]=m[j]:=by
      rw[List.getElem_append_left (by simp;omega),List.getElem_take]
     rw[this]
     exact RdD.keep st.keeps _ _ u1
    ·have hi0:i=0:=by omega
     subst hi0
     simp only[Nat.mul_one,Nat.add_zero]at u4 ⊢
     rw[hset _ q_,if_pos q_,List.getElem?_take,if_pos q_]
     have:=u4 0 q_
     simpa using this
   ·obtain ⟨_,u,u1,u2,u3,u4⟩:=f6 j (e l[j]) ⟨hj,rfl⟩
    refine⟨u,?_,u2,u3,fun i hi'=>?_⟩
    ·have:(m.take l.length++l.drop m.length)[j]'(by rw[hll];exact hj)=l[j]:=by
      rw[List.getElem_append_right (by simp;omega),List.getElem_drop]
      congr 1
      simp;omega
     rw[this]
     exact RdD.keep st.keeps _ _ u1
    ·have hi0:i=0:=by omega
     subst hi0
     simp only[Nat.mul_one,Nat.add_zero]at u4 ⊢
     rw[hset _ q_,if_neg q_]
     have:=u4 0 q_
     simpa using this
def Ah2 (C:Cx) (n:Nat) (L:Nat→List (Nat × SV)) (O:Nat→Obs) (i:Nat) (a:Act) (w:World):Prop :=
 ∃ x':{j:Nat // j≤n},∃ κ,n-x'.1<n-i∧St C.F C.n (mkS (L x'.1) (O x'.1)) κ a w
theorem A3 {C:Cx} {k:List KI} {s:SS} {body:Code} (n:Nat) (L:Nat→List (Nat × SV)) (O:Nat→Obs) (ρ:List (Nat × Nat)) (hsub:Sub C s ρ (L 0) (O 0))
  (h:∀ i,i≤n→G C (.code body::.inv (Ah2 C n L O i)::k) (mkS (L i) (O i))):G C (.code (.loop body)::k) s :=
 O6 (α:={j:Nat // j≤n}) (fun x=>L x.1) (fun x=>O x.1) (fun x=>n-x.1) ⟨0,Nat.zero_le _⟩ ρ hsub (fun x=>h x.1 x.2)
theorem Av {C:Cx} {k:List KI} {s:SS} {n:Nat} {L:Nat→List (Nat × SV)} {O:Nat→Obs} {i:Nat} (ρ:List (Nat × Nat)) (hi:i+1≤n) (hsub:Sub C s ρ (L (i+1)) (O (i+1))):G C (.inv (Ah2 C n L O i)::k) s :=
 Si (α:={j:Nat // j≤n}) (L:=fun x=>L x.1) (O:=fun x=>O x.1) (μ:=fun x=>n-x.1) (x:=⟨i,by omega⟩) ⟨i+1,hi⟩ ρ (by simp only;omega) hsub
end Go.Sy
