/-
  Sy10 Sy11 Sy12 Sy13 Sy14 Sy15 Sy16 Sy17 Sy18 Sy19 Sy22: parts of a proof, joined by program.
-/
import Derived.Test.YtjenpnjajjplkaaGreatDoorXO1
import Derived.Still
import Derived.Laws.IdiomStrings
import Derived.Laws.StructEq
import Derived.KernelRfl
set_option linter.all false
set_option linter.unusedVariables false
set_option linter.unusedSimpArgs false
set_option linter.deprecated false
namespace Go.Sy
variable {C:Cx} {k:List KI} {s:SS}
structure Fun (P:Program) (f:FuncId) (fn:Func) (c:Code):Prop where
 has:P.funcs[f]? = some fn
 body:fn.body=some c
 name : (fn.name == "runtime.NumGoroutine") = false
theorem S6 {P:Program} {f:FuncId} {fn:Func} {c:Code} (h:Fun P f fn c) (args:Array Value) (w:World):(callFunc f args).run P w=.ok (.enter f args) w:=by
 have hn : ¬ fn.name = "runtime.NumGoroutine" := by simpa using h.name
 simp[callFunc,h.has,hn,h.body]
theorem Spec.at {P:Program} {f:FuncId} {A:List SV} {H:Obs} {R:SV} {H':Obs} (h:Spec P f A H R H') {ρ:Nat→Nat} (hinj:∀ i∈H'.keys,∀ j∈H'.keys,ρ i=ρ j→i=j) (hHH:∀ k∈H.keys,k∈H'.keys)
  (hAn:C6 H.keys A=true) (hHn:∀ p∈H,p.2.inn H.keys=true) (hRn:R.inn H'.keys=true) (hHn':∀ p∈H',p.2.inn H'.keys=true)
  {κ:Ka} {w:World} {vs:List Value} (hi:Inv κ w) (hA:RdL κ w (Kq ρ A) vs) (hH:∀ p∈H,ObOK κ w (ρ p.1) (p.2.ren ρ)) (hnew:∀ k∈H'.keys,k∉H.keys→κ (ρ k)=.new) :
  Calls P f vs.toArray w fun e w'=>∃ v κ',e=.returned v∧Step (fun n=>∃ k∈H'.keys,ρ k=n) κ w κ' w'∧Inv κ' w'∧Rd κ' w' (R.ren ρ) v∧∀ p∈H',ObOK κ' w' (ρ p.1) (p.2.ren ρ):=by
 let κc:Ka:=⟨fun k=>if k∈H.keys then κ (ρ k) else .new,fun b=>κ.M b∨∃ n,(∀ k∈H.keys,ρ k≠n)∧(κ n).block? = some b⟩
 have hc1:∀ k,k∈H.keys→κc k=κ (ρ k):=fun k hk=>by simp[κc,hk]
 have hc2:∀ k,k∉H.keys→κc k=.new:=fun k hk=>by simp[κc,hk]
 have hcb:∀ k b,(κc k).block? = some b→k∈H.keys∧(κ (ρ k)).block? = some b:=fun k b hb=>by
  by_cases hk:k∈H.keys
  ·rw[hc1 k hk]at hb;exact⟨hk,hb⟩
  ·rw[hc2 k hk]at hb;cases hb
 have hic:Inv κc w:=by
  refine⟨fun i j b h1 h2=>?_,fun j b h1=>hi.bnd _ b (hcb j b h1).2,fun j b h1 hm=>?_,fun b hm=>?_⟩
  ·obtain ⟨a1,a2⟩:=hcb i b h1
   obtain ⟨b1,b2⟩:=hcb j b h2
   exact hinj i (hHH i a1) j (hHH j b1) (hi.inj _ _ b a2 b2)
  ·obtain ⟨a1,a2⟩:=hcb j b h1
   rcases hm with hm | ⟨n,hn,hm⟩
   ·exact hi.apart _ b a2 hm
   ·exact hn j a1 (hi.inj _ _ b a2 hm)
  ·rcases hm with hm | ⟨n,_,hm⟩
   ·exact hi.mbnd b hm
   ·exact hi.bnd n b hm
 have hown:∀ b,b<w.heap.size→¬ Own κ b→¬ Own κc b:=by
  rintro b _ hn (⟨j,hj⟩ | (hm | ⟨n,_,hm⟩))
  ·exact hn (.inl ⟨_,(hcb j b hj).2⟩)
  ·exact hn (.inr hm)
  ·exact hn (.inl ⟨n,hm⟩)
 have hren:Ren ρ H.keys κ κc:=⟨fun k hk=>hc1 k hk⟩
 have hA':RdL κc w A vs:=RdL.unren hren hown A vs hAn hA
 have hH':Obs.ok κc w H:=fun p hp=>ObOK.unren hren hown (List.mem_map.2 ⟨p,hp,rfl⟩) (hHn p hp) (hH p hp)
 refine(h κc w vs hic (fun j hj=>Classical.byContradiction fun hn=>hj (hc2 j hn)) hA' hH').mono ?_
 rintro e w' ⟨v,κd,rfl,hctx,hid,hR,hO⟩
 let pick:Nat→Option Nat:=fun n=>H'.keys.find? (fun k=>decide (ρ k=n))
 let κ':Ka:=⟨fun n=>match pick n with | some k=>κd k | none=>κ n,κ.M⟩
 have hp1:∀ k,k∈H'.keys→pick (ρ k)=some k:=fun k hk=>by
  cases hf:pick (ρ k) with
  | none =>
   have:=List.find?_eq_none.1 hf k hk
   simp at this
  | some j =>
   have h1:=List.find?_some hf
   have h2:=List.mem_of_find?_eq_some hf
   rw[hinj j h2 k hk (of_decide_eq_true h1)]
 have hp2:∀ n,(∀ k∈H'.keys,ρ k≠n)→pick n=none:=fun n hn=>List.find?_eq_none.2 (fun k hk=>by simpa using hn k hk)
 have hk1:∀ k,k∈H'.keys→κ' (ρ k)=κd k:=fun k hk=>by show (match pick (ρ k) with | some k=>κd k | none=>κ (ρ k))=κd k;rw[hp1 k hk]
 have hk2:∀ n,(∀ k∈H'.keys,ρ k≠n)→κ' n=κ n:=fun n hn=>by show (match pick n with | some k=>κd k | none=>κ n)=κ n;rw[hp2 n hn]
 have hcase:∀ n,(∃ k∈H'.keys,ρ k=n)∨(∀ k∈H'.keys,ρ k≠n):=fun n=>by
  by_cases hn:∃ k∈H'.keys,ρ k=n
  ·exact .inl hn
  ·exact .inr (fun k hk e=>hn ⟨k,hk,e⟩)
 have hMd:κd.M=κc.M:=hctx.M
 have hold:∀ b,b<w.heap.size→(∀ j,(κc j).block? ≠ some b)→w'.heap[b]? = w.heap[b]?:=fun b hb hn=>hctx.old b hb hn
 have hback:∀ j b,(κd j).block? = some b→w.heap.size≤b∨∃ i∈H.keys,(κ (ρ i)).block? = some b:=fun j b hj=>by
  rcases hctx.own j b hj with h1 | ⟨i,h1⟩
  ·exact .inl h1
  ·exact .inr ⟨i,hcb i b h1⟩
 have hstep:Step (fun n=>∃ k∈H'.keys,ρ k=n) κ w κ' w':=by
  refine⟨hctx.size,hctx.os,hctx.tape,hctx.output,Y,fun b hm=>?_,fun b hb hn=>?_,fun n b hn hb=>?_,fun n hn=>hk2 n (fun k hk e=>hn ⟨k,hk,e⟩),?_,?_⟩
  ·exact hold b (hi.mbnd b hm) (fun j hj=>hi.apart _ b (hcb j b hj).2 hm)
  ·exact hold b hb (fun j hj=>hn (.inl ⟨_,(hcb j b hj).2⟩))
  ·refine hold b (hi.bnd n b hb) (fun j hj=>?_)
   obtain ⟨a1,a2⟩:=hcb j b hj
   exact hn ⟨j,hHH j a1,hi.inj _ _ b a2 hb⟩
  ·rintro n ⟨j,hj,rfl⟩
   rw[hk1 j hj]
   by_cases hjH:j∈H.keys
   ·by_cases hnw:κ (ρ j)=.new
    ·exact .inl hnw
    ·have:=hctx.nam j (by show κc j≠.new;rw[hc1 j hjH];exact hnw)
     rw[← hc1 j hjH]
     exact .inr this
   ·exact .inl (hnew j hj hjH)
  ·rintro b (⟨n,hn⟩ | hn)
   ·rcases hcase n with ⟨j,hj,rfl⟩ | hne
    ·rw[hk1 j hj]at hn
     rcases hback j b hn with h1 | ⟨i,_,h1⟩
     ·exact .inr h1
     ·exact .inl (.inl ⟨_,h1⟩)
    ·rw[hk2 n hne]at hn
     exact .inl (.inl ⟨n,hn⟩)
   ·exact .inl (.inr hn)
 have hinv:Inv κ' w':=by
  have mixed:∀ j∈H'.keys,∀ n,(∀ k∈H'.keys,ρ k≠n)→∀ b,(κd j).block? = some b→(κ n).block? = some b→False:=fun j hj n hn b h1 h2=>by
   rcases hback j b h1 with h3 | ⟨i,hi',h3⟩
   ·have:=hi.bnd n b h2;omega
   ·exact hn i (hHH i hi') (hi.inj _ _ b h3 h2)
  refine⟨fun m n b h1 h2=>?_,fun n b h1=>?_,fun n b h1 hm=>?_,fun b hm=>Nat.lt_of_lt_of_le (hi.mbnd b hm) hctx.size⟩
  ·rcases hcase m with ⟨i,hi',rfl⟩ | hm<;>rcases hcase n with ⟨j,hj,rfl⟩ | hn
   ·rw[hk1 i hi']at h1
    rw[hk1 j hj]at h2
    rw[hid.inj i j b h1 h2]
   ·rw[hk1 i hi']at h1
    rw[hk2 n hn]at h2
    exact(mixed i hi' n hn b h1 h2).elim
   ·rw[hk2 m hm]at h1
    rw[hk1 j hj]at h2
    exact(mixed j hj m hm b h2 h1).elim
   ·rw[hk2 m hm]at h1
    rw[hk2 n hn]at h2
    exact hi.inj m n b h1 h2
  ·rcases hcase n with ⟨j,hj,rfl⟩ | hn
   ·rw[hk1 j hj]at h1;exact hid.bnd j b h1
   ·rw[hk2 n hn]at h1;exact Nat.lt_of_lt_of_le (hi.bnd n b h1) hctx.size
  ·rcases hcase n with ⟨j,hj,rfl⟩ | hn
   ·rw[hk1 j hj]at h1
    exact hid.apart j b h1 (by rw[hMd];exact .inl hm)
   ·rw[hk2 n hn]at h1;exact hi.apart n b h1 hm
 have hren':Ren ρ H'.keys κ' κd:=⟨fun k hk=>(hk1 k hk).symm⟩
 have hown':∀ b,b<w'.heap.size→¬ Own κd b→¬ Own κ' b:=by
  rintro b _ hn (⟨n,h1⟩ | h1)
  ·rcases hcase n with ⟨j,hj,rfl⟩ | hne
   ·rw[hk1 j hj]at h1;exact hn (.inl ⟨j,h1⟩)
   ·rw[hk2 n hne]at h1
    exact hn (.inr (by rw[hMd];exact .inr ⟨n,fun k hk=>hne k (hHH k hk),h1⟩))
  ·exact hn (.inr (by rw[hMd];exact .inl h1))
 exact⟨v,κ',Y,hstep,hinv,Rd.ren hren' hown' R v hRn hR,fun p hp=>ObOK.ren hren' hown' (List.mem_map.2 ⟨p,hp,Y⟩) (hHn' p hp) (hO p hp)⟩
def U7 (A:List SV) (H:Obs) (R:SV) (H':Obs) (ρ:List (Nat × Nat)):Bool :=
 Ta ρ [] H'.keys && Afz H.keys H'.keys && C6 H.keys A && (H.all fun p=>p.2.inn H.keys) && R.inn H'.keys && (H'.all fun p=>p.2.inn H'.keys)
def Aea (s:SS) (ρ:List (Nat × Nat)) (K:List Nat):List Nat→Prop
 | []=>True
 | k::r=>(L1 K k=true∨s.h (Bs ρ k)=.fresh)∧Aea s ρ K r
def Afn (s:SS) (ρ:List (Nat × Nat)):Obs→Prop
 | []=>True
 | (i,x)::r=>x.ren (Bs ρ)=s.h (Bs ρ i)∧Afn s ρ r
def Uq (ρ:List (Nat × Nat)):Obs→Obs
 | []=>[]
 | (i,x)::r=>(Bs ρ i,x.ren (Bs ρ))::Uq ρ r
theorem Uo (ρ:List (Nat × Nat)):∀ H:Obs,Uq ρ H=H.map fun p=>(Bs ρ p.1,p.2.ren (Bs ρ))
 | []=>rfl
 | (i,x)::r=>by simp[Uq,Uo ρ r]
def Yw (P:Program) (o:Oper) (s:SS) (rd:List Nat) (f:FuncId) (B:List SV):Prop :=
 ∀ (κ:Ka) (a:Act) (w:World),(∀ x∈o.op.operands,Rd κ w (ev s x) (a.eval x))→(∀ k∈rd,ObOK κ w k (s.h k))→∃ vs:List Value,(execOp a.eval o).run P w=.ok (.enter f vs.toArray) w∧RdL κ w B vs
theorem V2 {P:Program} {o:Oper} {s:SS} {f:FuncId} {fn:Func} {c:Code} {xs:List Operand} {ts:Array TypeId} (h:o.op=.call ⟨.value (.func f),xs.toArray,ts⟩) (hf:Fun P f fn c):Yw P o s [] f (xs.map (ev s)) :=
 fun κ a w hr _=>by
  refine⟨xs.map a.eval,?_,Qh xs (fun x hx=>hr x (by simp[h,Op.operands,Call.operands,hx]))⟩
  have:=S6 hf (xs.map a.eval).toArray w
  simp[execOp,h,resolve,Act.eval,Deferred.ofValue,invoke]at this ⊢
  exact this
theorem A0 {P:Program} {o:Oper} {s:SS} {f:FuncId} {fn:Func} {c:Code} {x:Operand} {xs:List Operand} {ts:Array TypeId} {first cap:List SV} (h:o.op=.call ⟨.value x,xs.toArray,ts⟩) (hx:ev s x=.clo (.func f) first cap) (hf:Fun P f fn c) :
  Yw P o s [] f (first++xs.map (ev s)++cap) :=
 fun κ a w hr _=>by
  have h1:=hr x (by simp[h,Op.operands,Call.operands])
  rw[hx]at h1
  simp only[Rd]at h1
  obtain ⟨fs,cs,e1,e2,e3⟩:=h1
  refine⟨fs++xs.map a.eval++cs,?_,RdL.append (RdL.append e2 (Qh xs (fun y hy=>hr y (by simp[h,Op.operands,Call.operands,hy])))) e3⟩
  have:=S6 hf (fs++xs.map a.eval++cs).toArray w
  simp only[execOp,h,resolve,Deferred.ofValue,invoke,e1,Sem.run_bind,Sem.run_pure,Result.andThen_ok]at this ⊢
  rw[← this]
  simp
theorem Ax {P:Program} {o:Oper} {s:SS} {f:FuncId} {rd:List Nat} {B:List SV} {A:List SV} {H:Obs} {R:SV} {H':Obs} (ρ:List (Nat × Nat)) (hE:Yw P o s rd f B) (hs:Spec P f A H R H')
  (hA:Kq (Bs ρ) A=B) (hH:Afn s ρ H) (hok:U7 A H R H' ρ=true) (hnew:Aea s ρ H.keys H'.keys):Good P o s ⟨R.ren (Bs ρ),rd,Uq ρ H'⟩:=by
 intro κ a w hi hr ho N Q hN
 simp only[U7,Bool.and_eq_true,List.all_eq_true]at hok
 obtain ⟨⟨⟨⟨⟨c1,c2⟩,c3⟩,c4⟩,c5⟩,c6⟩:=hok
 obtain ⟨hinj,_⟩:=Un c1
 have hHH:∀ k∈H.keys,k∈H'.keys:=fun k hk=>by
  simp only[Afz,List.all_eq_true]at c2
  exact memN_iff.1 (c2 k hk)
 have hws:∀ k∈H'.keys,Bs ρ k∈(Up.mk (R.ren (Bs ρ)) rd (Uq ρ H')).ws:=fun k hk=>by
  obtain ⟨p,hp,rfl⟩:=List.mem_map.1 hk
  simp only[Up.ws,Uo,List.map_map,List.mem_map]
  exact⟨p,hp,Y⟩
 obtain ⟨vs,hrun,hxs⟩:=hE κ a w hr (fun k hk=>ho k (.inl hk))
 have hvs:RdL κ w (Kq (Bs ρ) A) vs:=by rw[hA];exact hxs
 have hHk:∀ H0:Obs,(∀ p∈H0,p∈H)→Afn s ρ H0→∀ p∈H0,ObOK κ w (Bs ρ p.1) (p.2.ren (Bs ρ)):=by
  intro H0
  induction H0 with
  | nil=>intro _ _ p hp;cases hp
  | cons q r ih =>
   obtain ⟨i,x⟩:=q
   intro hsub he p hp
   simp only[Afn]at he
   rcases List.mem_cons.1 hp with rfl | hp
   ·have hk:i∈H.keys:=List.mem_map.2 ⟨(i,x),hsub _ qe,rfl⟩
    rw[he.1]
    exact ho _ (.inr (hws i (hHH i hk)))
   ·exact ih (fun q hq=>hsub q (by simp[hq])) he.2 p hp
 have hnk:∀ k∈H'.keys,k∉H.keys→κ (Bs ρ k)=.new:=by
  have key:∀ K:List Nat,(∀ k∈K,k∈H'.keys)→Aea s ρ H.keys K→∀ k∈K,k∉H.keys→κ (Bs ρ k)=.new:=by
   intro K
   induction K with
   | nil=>intro _ _ k hk;cases hk
   | cons j r ih =>
    intro hsub hn k hk hkn
    simp only[Aea]at hn
    rcases List.mem_cons.1 hk with rfl | hk
    ·rcases hn.1 with h1 | h1
     ·exact absurd (memN_iff.1 h1) hkn
     ·have:=ho _ (.inr (hws k (hsub k qe)))
      rw[h1]at this
      exact this
    ·exact ih (fun k hk=>hsub k (by simp[hk])) hn.2 k hk hkn
  exact key _ (fun _ hk=>hk) hnew
 have hcall:=hs.at (ρ:=Bs ρ) hinj hHH c3 (fun p hp=>c4 p hp) c5 (fun p hp=>c6 p hp) hi hvs (hHk H (fun _ hp=>hp) hH) hnk
 simp only[Oper.wp,hrun,Oper.upon]
 refine hcall.mono ?_
 rintro e w' ⟨v,κ',rfl,st,inv,hv,hO⟩
 refine hN v κ' w' (st.weaken ?_) inv hv (fun p hp=>?_)
 ·rintro n ⟨j,hj,rfl⟩
  exact hws j hj
 ·simp only[Uo,List.mem_map]at hp
  obtain ⟨q,hq,rfl⟩:=hp
  exact hO q hq
def Jj (κ:Ka):List Nat→Ka
 | []=>κ
 | n::V=>Jj (En κ n .dead) V
theorem Ajf (κ:Ka):∀ V:List Nat,(Jj κ V).M=κ.M
 | []=>rfl
 | n::V=>by rw[Jj,Ajf];rfl
theorem Kc {w:World}:∀ (V:List Nat) (κ:Ka),Inv κ w→Step (·∈V) κ w (Jj κ V) w∧Inv (Jj κ V) w
 | [],κ,hi=>⟨Step.refl _ κ w,hi⟩
 | n::V,κ,hi=>by
  have h1:=I1 (κ:=κ) (w:=w) (some n)
  have h2:=Kl hi (some n)
  obtain ⟨h3,h4⟩:=Kc V (En κ n .dead) h2
  exact⟨(h1.weaken (fun j hj=>by simp only[Option.some.injEq]at hj;subst hj;simp)).trans (h3.weaken (fun j hj=>by simp[hj])),h4⟩
theorem X4 (κ:Ka):∀ (V:List Nat) (n:Nat),n∈V∨κ n=.dead→Jj κ V n=.dead
 | [],n,h=>h.resolve_left qe
 | m::V,n,h=>by
  rw[Jj]
  apply X4
  by_cases hm:n=m
  ·subst hm;right;exact A9 _ _ _
  ·rcases h with h | h
   ·left;simpa [hm] using h
   ·right;rw[Cy _ _ hm];exact h
theorem Aeo (κ:Ka):∀ (V:List Nat) (n:Nat),n∉V→Jj κ V n=κ n
 | [],n,_=>rfl
 | m::V,n,h=>by
  simp only[List.mem_cons,not_or]at h
  rw[Jj,Aeo _ V n h.2,Cy _ _ h.1]
theorem Z8 {κ:Ka} {w:World} (hi:Inv κ w) {V:List Nat} {n b:Nat} (hn:n∈V) (hb:(κ n).block? = some b):¬ Own (Jj κ V) b:=by
 rintro (⟨j,hj⟩ | hj)
 ·by_cases hjV:j∈V
  ·rw[X4 κ V j (.inl hjV)]at hj;cases hj
  ·rw[Aeo κ V j hjV]at hj
   exact hjV (by rw[hi.inj j n b hj hb];exact hn)
 ·rw[Ajf]at hj;exact hi.apart n b hb hj
mutual
inductive Vw (s:SS) (V:List Nat):SV→SV→Prop
 | refl (x:SV):Vw s V x x
 | row {n sz:Nat} {α:Type} {e:α→SV} {l:List α} (h:s.h n=.row sz e l) (hn:L1 V n=true):Vw s V (.osl n) (.sl sz e l)
 | lit {n sz:Nat} {α:Type} {e:α→SV} {l:List α} {svs:List SV} (h:s.h n=.lit sz svs) (hl:l.map e=svs) (hn:L1 V n=true):Vw s V (.osl n) (.sl sz e l)
 | nil {sz:Nat} {α:Type} {e:α→SV}:Vw s V (.val (.slice none 0 0)) (.sl sz e [])
 | box {n sz o:Nat} {y:SV} {l:List SV} (h:s.h n=.box l) (hl:cellsOf y=l) (hc:(y.boxed && y.data && Nat.beq l.length sz)=true) (hn:L1 V n=true):Vw s V (.ptr n o) (.ref sz y o)
 | agg {l m:List SV} (h:VwL s V l m):Vw s V (.agg l) (.agg m)
inductive VwL (s:SS) (V:List Nat):List SV→List SV→Prop
 | nil:VwL s V [] []
 | cons {x y:SV} {l m:List SV} (h:Vw s V x y) (hs:VwL s V l m):VwL s V (x::l) (y::m)
end
theorem Aff {κ κ':Ka} {w:World} {d sz:Nat} {l:List SV} {x:SV} (h:ObOK κ w d (.box l)) (hl:cellsOf x=l) (hb:x.boxed=true) (hsz:l.length=sz) (ho:∀ b,b<w.heap.size→¬ Own κ b→¬ Own κ' b)
  (hdead:∀ b,(κ d).block? = some b→b<w.heap.size∧¬ Own κ' b) (hxd:x.data=true) (o:Nat) (v:Value) (hv:Rd κ w (.ptr d o) v):Rd κ' w (.ref sz x o) v:=by
 obtain ⟨b,cs,T,fr,e1,e2,e3,e4,e5⟩:=h
 simp only[Rd,e1]at hv
 obtain ⟨h1,h2⟩:=hdead b (by rw[e1];rfl)
 rw[← hl]at e5
 obtain ⟨u,f1,f2⟩:=Rd.of_cells hb e4 e5
 simp only[Rd,RdD]
 refine⟨b,0,u,by rw[Nat.zero_add];exact hv,h2,h1,RdD.keep ⟨Nat.le_refl _,fun _ _ _=>rfl,ho⟩ _ _ (Rd.data _ _ hxd f1),?_,by rw[f2];exact e4,fun j hj=>?_⟩
 ·have:=e5.length
  rw[← hsz,← hl,← this,← f2]
  simp
 ·rw[Nat.zero_add,cell_of_row w b _ cs.toArray T fr e2,← f2]
theorem Ajr {V:List Nat} {κ:Ka} {w:World} (hi:Inv κ w) {n sz:Nat} {α:Type} {e:α→SV} {l:List α} (hn:n∈V) (h:(κ n=.nil∧l=[])∨RowAt κ w n sz l.length (rowF e l)) {v:Value} (hv:Rd κ w (.osl n) v) :
  Rd (Jj κ V) w (.sl sz e l) v:=by
 rcases h with ⟨h1,rfl⟩ | h1
 ·simp only[Rd,h1]at hv
  simp only[Rd,RdD]
  exact .inl ⟨by simp,none,0,hv⟩
 ·exact h1.freeze hv (Kc V κ hi).1.keeps.out (fun b hb=>⟨hi.bnd n b hb,Z8 hi hn hb⟩)
mutual
theorem Vw.rd {s:SS} {V:List Nat} {κ:Ka} {w:World} (hi:Inv κ w) (ho:∀ n∈V,ObOK κ w n (s.h n)):∀ {x y:SV} (_:Vw s V x y) {v:Value},Rd κ w x v→Rd (Jj κ V) w y v
 | _,_,.refl x,_,hv=>Rd.step (Kc V κ hi).1 _ _ hv
 | _,_,.row h hn,_,hv=>by
  have h1:=ho _ (memN_iff.1 hn)
  rw[h]at h1
  exact Ajr hi (memN_iff.1 hn) h1 hv
 | _,_,.lit (l:=l) h hl hn,_,hv=>by
  have h1:=ho _ (memN_iff.1 hn)
  rw[h]at h1
  obtain ⟨b,cap,cs,T,fr,e1,e2,e3,e4,e5,e6⟩:=h1
  refine Ajr hi (memN_iff.1 hn) (.inr ?_) hv
  have hlen:=congrArg List.length hl
  simp only[List.length_map]at hlen
  exact⟨b,cap,cs,T,fr,by rw[hlen];exact e1,e2,e3,e4,by omega,fun i x hx=>by rw[hlen];exact e6 i x (S8 hl i x hx)⟩
 | _,_,.nil,_,hv=>by
  simp only[Rd,RdD]
  exact .inl ⟨by simp,none,0,hv.val⟩
 | _,_,.box h hl hc hn,_,hv=>by
  have h1:=ho _ (memN_iff.1 hn)
  rw[h]at h1
  simp only[Bool.and_eq_true]at hc
  exact Aff h1 hl hc.1.1 (Nat.eq_of_beq_eq_true hc.2) (Kc V κ hi).1.keeps.out (fun b hb=>⟨hi.bnd _ b hb,Z8 hi (memN_iff.1 hn) hb⟩) hc.1.2 _ _ hv
 | _,_,.agg h,_,hv=>by
  simp only[Rd]at hv ⊢
  obtain ⟨cs,h1,h2,h3⟩:=hv
  exact⟨cs,h1,h2,VwL.rd hi ho h h3⟩
theorem VwL.rd {s:SS} {V:List Nat} {κ:Ka} {w:World} (hi:Inv κ w) (ho:∀ n∈V,ObOK κ w n (s.h n)):∀ {l m:List SV} (_:VwL s V l m) {vs:List Value},RdL κ w l vs→RdL (Jj κ V) w m vs
 | _,_,.nil,_,hv=>by simpa [RdL] using hv
 | _,_,.cons h hs,_,hv=>by
  simp only[RdL]at hv ⊢
  obtain ⟨v,r,h1,h2,h3⟩:=hv
  exact⟨v,r,h1,Vw.rd hi ho h h2,VwL.rd hi ho hs h3⟩
end
mutual
def SV.plain:SV→Bool
 | .top=>true
 | .val _=>true
 | .agg l=>Xl l
 | .tup l=>Xl l
 | _=>false
def Xl:List SV→Bool
 | []=>true
 | x::l=>x.plain && Xl l
end
mutual
theorem Rd.plain {κ κ':Ka} {w w':World}:∀ (x:SV) (v:Value),x.plain=true→Rd κ w x v→Rd κ' w' x v
 | .top,_,_,_=>by simp[Rd]
 | .val u,v,_,h=>by simpa [Rd] using h
 | .agg l,v,hp,h=>by
  simp only[Rd,SV.plain]at h hp ⊢
  obtain ⟨cs,h1,h0,h2⟩:=h
  exact⟨cs,h1,h0,RdL.plain l cs hp h2⟩
 | .tup l,v,hp,h=>by
  simp only[Rd,SV.plain]at h hp ⊢
  obtain ⟨cs,h1,h2⟩:=h
  exact⟨cs,h1,RdL.plain l cs hp h2⟩
 | .sl _ _ _,_,hp,_=>by simp[SV.plain]at hp
 | .ref _ _ _,_,hp,_=>by simp[SV.plain]at hp
 | .ptr _ _,_,hp,_=>by simp[SV.plain]at hp
 | .rpt _ _ _ _,_,hp,_=>by simp[SV.plain]at hp
 | .osl _,_,hp,_=>by simp[SV.plain]at hp
 | .ifc _ _,_,hp,_=>by simp[SV.plain]at hp
 | .clo _ _ _,_,hp,_=>by simp[SV.plain]at hp
theorem RdL.plain {κ κ':Ka} {w w':World}:∀ (l:List SV) (vs:List Value),Xl l=true→RdL κ w l vs→RdL κ' w' l vs
 | [],_,_,h=>by simpa [RdL] using h
 | x::l,vs,hp,h=>by
  simp only[RdL,Xl,Bool.and_eq_true]at h hp ⊢
  obtain ⟨v,r,h1,h2,h3⟩:=h
  exact⟨v,r,h1,Rd.plain x v hp.1 h2,RdL.plain l r hp.2 h3⟩
end
mutual
theorem B7:∀ x:SV,x.ren id=x
 | .ptr _ _=>rfl
 | .rpt _ _ _ _=>rfl
 | .osl _=>rfl
 | .agg l=>by simp only[SV.ren,J2 l]
 | .tup l=>by simp only[SV.ren,J2 l]
 | .ifc t x=>by simp only[SV.ren,B7 x]
 | .clo fn f l=>by simp only[SV.ren,J2 f,J2 l]
 | .top=>rfl
 | .val _=>rfl
 | .sl _ _ _=>rfl
 | .ref _ _ _=>rfl
theorem J2:∀ l:List SV,Kq id l=l
 | []=>rfl
 | x::l=>by simp only[Kq,B7 x,J2 l]
end
theorem Aex {P:Program} {o:Oper} {s:SS} {f:FuncId} {rd:List Nat} {B:List SV} {A:List SV} {R:SV} (V:List Nat) (hE:Yw P o s rd f B) (hs:Spec P f A [] R [])
  (hA:VwL s V B A) (hAn:C6 [] A=true) (hR:R.plain=true):Good P o s ⟨R,V++rd,[]⟩:=by
 intro κ a w hi hr ho N Q hN
 have hoV:∀ n∈V,ObOK κ w n (s.h n):=fun n hn=>ho n (.inl (by simp[hn]))
 obtain ⟨st0,inv0⟩:=Kc V κ hi
 obtain ⟨vs,hrun,hxs⟩:=hE κ a w hr (fun k hk=>ho k (.inl (by simp[hk])))
 have hvs:RdL (Jj κ V) w A vs:=hA.rd hi hoV hxs
 let κc:Ka:=⟨fun _=>.new,Own (Jj κ V)⟩
 have hic:Inv κc w:=by
  refine⟨fun i j b h1 _=>?_,fun j b h1=>?_,fun j b h1=>?_,fun b hb=>?_⟩
  ·cases h1
  ·cases h1
  ·cases h1
  ·rcases hb with ⟨j,hj⟩ | hj
   ·exact inv0.bnd j b hj
   ·exact inv0.mbnd b hj
 have hown:∀ b,b<w.heap.size→¬ Own (Jj κ V) b→¬ Own κc b:=by
  rintro b _ hn (⟨j,hj⟩ | hj)
  ·cases hj
  ·exact hn hj
 have hA':RdL κc w A vs:=RdL.unren (ρ:=id) (K:=[]) (κ:=Jj κ V) ⟨fun k hk=>by cases hk⟩ hown A _ hAn (by rw[J2];exact hvs)
 have hcall:=hs κc w _ hic (fun j hj=>absurd rfl hj) hA' (fun p hp=>by cases hp)
 simp only[Oper.wp,hrun,Oper.upon]
 refine hcall.mono ?_
 rintro e w' ⟨v,κ',rfl,hctx,inv,hv,_⟩
 have hall:∀ b,b<w.heap.size→w'.heap[b]? = w.heap[b]?:=fun b hb=>hctx.old b hb (fun j hj=>by cases hj)
 refine hN v κ w' ⟨hctx.size,hctx.os,hctx.tape,hctx.output,Y,fun b hb=>hall b (hi.mbnd b hb),fun b hb _=>hall b hb,fun j b _ hb=>hall b (hi.bnd j b hb),fun _ _=>rfl,fun _ _=>.inr (.inl Y),fun _ hb=>.inl hb⟩
  ⟨hi.inj,fun j b hb=>Nat.lt_of_lt_of_le (hi.bnd j b hb) hctx.size,hi.apart,fun b hb=>Nat.lt_of_lt_of_le (hi.mbnd b hb) hctx.size⟩ (Rd.plain _ _ hR hv) (fun p hp=>by cases hp)
theorem Af {P:Program} {o:Oper} {s:SS} {f:FuncId} {fn:Func} {c:Code} {xs:List Operand} {ts:Array TypeId} {A:List SV} {H:Obs} {R:SV} {H':Obs} (ρ:List (Nat × Nat)) (h:o.op=.call ⟨.value (.func f),xs.toArray,ts⟩) (hf:Fun P f fn c) (hs:Spec P f A H R H')
  (hA:Kq (Bs ρ) A=xs.map (ev s)) (hH:Afn s ρ H) (hok:U7 A H R H' ρ=true) (hnew:Aea s ρ H.keys H'.keys):Good P o s ⟨R.ren (Bs ρ),[],Uq ρ H'⟩ :=
 Ax ρ (V2 h hf) hs hA hH hok hnew
theorem Bu {P:Program} {o:Oper} {s:SS} {f:FuncId} {fn:Func} {c:Code} {xs:List Operand} {ts:Array TypeId} {A:List SV} {R:SV} (V:List Nat) (h:o.op=.call ⟨.value (.func f),xs.toArray,ts⟩) (hf:Fun P f fn c) (hs:Spec P f A [] R [])
  (hA:VwL s V (xs.map (ev s)) A) (hAn:C6 [] A=true) (hR:R.plain=true):Good P o s ⟨R,V,[]⟩ :=
 by simpa using Aex V (V2 h hf) hs hA hAn hR
end Go.Sy
namespace Go.Sy
theorem SS.ext' {s t:SS} (h1:∀ i,s.σ i=t.σ i) (h2:∀ k,s.h k=t.h k):s=t:=by
 obtain ⟨a,b⟩:=s
 obtain ⟨c,d⟩:=t
 have e1:a=c:=funext h1
 have e2:b=d:=funext h2
 rw[e1,e2]
structure Stp where
 i:Nat
 o:Oper
 U:Up
 want:Bool
def Ob.shp:Ob→Nat × Option Nat × Option (Nat × SV × Nat)
 | .box _=>(1,none,none)
 | .row _ _ l=>(0,some l.length,none)
 | .lit _ svs=>(0,some svs.length,none)
 | .glob sz x g=>(2,none,some (sz,x,g))
 | .rown _ _ l _ _=>(0,some l.length,none)
 | _=>(0,none,none)
theorem Ob.shp_len {x y:Ob} {n:Nat} (h:x.shp=y.shp) (hy:y.len=some n):x.len=some n:=by
 cases x<;>cases y<;>simp_all[Ob.shp,Ob.len]
theorem Ob.shp_box {x:Ob} {l:List SV} (h:x.shp=(Ob.box l).shp):∃ m,x=.box m:=by
 cases x<;>simp_all[Ob.shp]
def J1 (o:Oper):Bool:=match o.op with | .indexAddr ..=>true | _=>false
def Sq (o:Oper):Bool:=match o.op with | .store ..=>true | _=>false
def Ape (P:Program) (o:Oper) (s:SS) (U:Up):Prop :=
 ∀ (κ:Ka) (a:Act) (w:World),Inv κ w→(∀ x∈o.op.operands,Rd κ w (ev s x) (a.eval x))→(∀ k,k∈U.rd∨k∈U.ws→ObOK κ w k (s.h k)) →
  ∀ (N:Act→World→Prop) (Q:Exit→Act→World→Prop),
   (∀ v κ' w',Step (fun k=>k∈U.ws∨k∈U.rd) κ w κ' w'→Inv κ' w'→Rd κ' w' U.v v→(∀ x∈U.objs,ObOK κ' w' x.1 x.2)→(∀ k,k∈U.rd→k∉U.ws→ObOK κ' w' k (s.h k))→N (a.put o.dst v) w')→o.wp P a w N Q
theorem Good.two {P:Program} {o:Oper} {s:SS} {U:Up} (h:Good P o s U):Ape P o s U:=fun κ a w hi hr ho N Q hN =>
 h κ a w hi hr ho N Q fun v κ' w' st inv hv hob=>hN v κ' w' (st.weaken fun _ hk=>.inl hk) inv hv hob fun k hk hw=>ObOK.step st hw _ (ho k (.inl hk))
theorem Good.keep {P:Program} {o:Oper} {s:SS} {U:Up} (h:Good P o s U) (hk:∀ p∈U.objs,s.h p.1=p.2):Ape P o s ⟨U.v,U.rd++U.ws,[]⟩:=fun κ a w hi hr ho N Q hN =>
 h κ a w hi hr (fun k hk'=>ho k (.inl (by simpa using hk'))) N Q fun v κ' w' st inv hv hob=>hN v κ' w' (st.weaken fun k hk'=>.inr (by simp[hk'])) inv hv (fun x hx=>by cases hx) fun k hk1 _=>by
  by_cases hw:k∈U.ws
  ·obtain ⟨p,hp,rfl⟩:=List.mem_map.1 hw
   rw[hk p hp]
   exact hob p hp
  ·exact ObOK.step st hw _ (ho k (.inl hk1))
theorem St.put2 {F:Fr} {n:Nat} {s:SS} {κ κ':Ka} {a:Act} {w w':World} (h:St F n s κ a w) {dst:Option Nat} {U:Up} {v:Value} (hd:∀ d,dst=some d→d<n)
  (st:Step (fun k=>k∈U.ws∨k∈U.rd) κ w κ' w') (hi:Inv κ' w') (hv:Rd κ' w' U.v v) (ho:∀ x∈U.objs,ObOK κ' w' x.1 x.2) (hr:∀ k,k∈U.rd→k∉U.ws→ObOK κ' w' k (s.h k)):St F n (s.upd dst U) κ' (a.put dst v) w' where
 defers:=by cases dst<;>exact h.defers
 size:=by cases dst<;>simp[Act.put,h.size]
 inv:=hi
 ctx:=h.ctx.step hi st
 slot i:=by
  cases dst with
  | none=>exact Rd.step st _ _ (h.slot i)
  | some d =>
   have hlt:=hd d rfl
   by_cases hi':i=d
   ·subst hi'
    simp only[SS.upd,Cm,Act.put]
    have hs:i<a.tmps.size:=by rw[h.size];exact hlt
    simpa [hs] using hv
   ·simp only[SS.upd,Do _ _ hi',Act.put]
    have:(a.tmps.setIfInBounds d v).getD i undef=a.tmps.getD i undef:=by
     simp[Array.getElem?_setIfInBounds_ne (Ne.symm hi')]
    rw[this]
    exact Rd.step st _ _ (h.slot i)
 obj k:=Aaw _ _ _ ho (fun hk=>by
  by_cases h2:k∈U.rd
  ·exact hr k h2 hk
  ·exact ObOK.step st (fun h3=>h3.elim hk h2) _ (h.obj k))
structure GoodX (P:Program) (o:Oper) (s:SS) (U:Up):Prop where
 good:Ape P o s U
 idx:J1 o=true→U.objs=[]∧∀ s':SS,(∀ x∈o.op.operands,ev s' x=ev s x)→(∀ k∈U.rd,(s'.h k).shp=(s.h k).shp)→Good P o s' U
 st:Sq o=true→∀ p∈U.objs,p.2.shp=(s.h p.1).shp
theorem GoodX.of {P:Program} {o:Oper} {s:SS} {U:Up} (h:Good P o s U) (hn:(J1 o || Sq o)=false):GoodX P o s U:=by
 simp only[Bool.or_eq_false_iff]at hn
 exact⟨h.two,fun h1=>by (rw[hn.1]at h1;cases h1),fun h1=>by (rw[hn.2]at h1;cases h1)⟩
def Stp.ok (P:Program) (all:Array Oper) (s:SS) (t:Stp):Prop :=
 all[t.i]? = some t.o∧S0 all s t.o.guard t.want∧(t.want=true→GoodX P t.o s t.U)∧(t.want=false→t.U=⟨.val undef,[],[]⟩)
def Aox (K L:List Nat):Bool:=K.all fun k=>!(L1 L k)
theorem Acb {K L:List Nat} (h:Aox K L=true):∀ k∈K,k∉L:=fun k hk hl=>by
 simp only[Aox,List.all_eq_true]at h
 have:=h k hk
 rw[memN_iff.2 hl]at this
 cases this
def O2 (all:Array Oper) (p t:Stp):Bool :=
 p.o.apart all t.o && Aox p.U.ws t.U.ws && (Aox p.U.ws t.U.rd || (Sq p.o && J1 t.o)) && (Aox t.U.ws p.U.rd || (Sq t.o && J1 p.o))
def Aq1 (all:Array Oper):Nat→Nat→Oper→Bool
 | 0,_,_=>false
 | n+1,i,o=>o.after.toList.any fun e=>Region.binds .any e && (Nat.beq e.on i || (match all[e.on]? with | some u=>Aq1 all n i u | none=>false))
def aft (all:Array Oper) (p t:Stp):Bool:=Aq1 all 4 p.i t.o
def Cl (all:Array Oper) (listed:Array Bool):Prop:=∀ i o,all[i]? = some o→listed.getD i true=true→∀ e∈o.after,Region.binds .any e=true→listed.getD e.on false=true
theorem Ajj {listed:Array Bool} {i:Nat} (h:listed.getD i false=true):listed.getD i true=true:=by
 simp only[Array.getD_eq_getD_getElem?]at h ⊢
 cases hh:listed[i]? with
 | none=>rw[hh]at h;cases h
 | some b=>rw[hh]at h;exact h
theorem V7 {all:Array Oper} {listed:Array Bool} (hc:Cl all listed) {i:Nat}:∀ (n:Nat) (o:Oper),(∀ e∈o.after,Region.binds .any e=true→listed.getD e.on false=true)→Aq1 all n i o=true→listed.getD i false=true
 | 0,_,_,h=>by cases h
 | n+1,o,ho,h=>by
  simp only[Aq1,List.any_eq_true,Bool.and_eq_true,Bool.or_eq_true]at h
  obtain ⟨e,h1,h2,h3⟩:=h
  have h4:=ho e (by simpa using h1) h2
  rcases h3 with h3 | h3
  ·rw[← Nat.eq_of_beq_eq_true h3];exact h4
  ·cases hu:all[e.on]? with
   | none=>rw[hu]at h3;cases h3
   | some u =>
    rw[hu]at h3
    exact V7 hc n u (hc e.on u hu (Ajj h4)) h3
def Ux (all:Array Oper) (p:Stp):List Stp→Bool
 | []=>true
 | t::r=>(O2 all p t || aft all p t) && Ux all p r
def J5 (all:Array Oper):List Stp→Bool
 | []=>true
 | p::r=>Ux all p r && J5 all r
def Wp (t:Stp):Bool:=t.o.after.toList.all fun e=>!(Region.binds .any e) || Nat.blt e.on t.i
def fin (s:SS):List Stp→SS
 | []=>s
 | t::r=>fin (s.upd t.o.dst t.U) r
def Chain (P:Program) (all:Array Oper):SS→List Stp→Prop
 | _,[]=>True
 | s,t::r=>t.ok P all s∧Chain P all (s.upd t.o.dst t.U) r
theorem Acr {β:Type 1} (f:Nat→β) {d e:Nat} (u v:β) (h:d≠e):upd (upd f d u) e v=upd (upd f e v) d u:=by
 funext i
 by_cases h1:i=d
 ·subst h1;rw[Do _ _ h,Cm,Cm]
 ·by_cases h2:i=e
  ·subst h2;rw[Cm,Do _ _ h1,Cm]
  ·rw[Do _ _ h2,Do _ _ h1,Do _ _ h1,Do _ _ h2]
theorem Acs (h:Nat→Ob) (k:Nat) (o:Ob):∀ (l:List (Nat × Ob)),k∉l.map (·.1)→Ms (upd h k o) l=upd (Ms h l) k o
 | [],_=>rfl
 | (j,x)::r,hk=>by
  simp only[List.map_cons,List.mem_cons,not_or]at hk
  rw[Ms,Ms,Acr _ _ _ hk.1,Acs _ k o r hk.2]
theorem Zm:∀ (l m:List (Nat × Ob)) (h:Nat→Ob),(∀ k∈l.map (·.1),k∉m.map (·.1))→Ms (Ms h l) m=Ms (Ms h m) l
 | [],m,h,_=>rfl
 | (k,o)::r,m,h,hd=>by
  rw[Ms,Ms,Zm r m _ (fun j hj=>hd j (by simp at hj ⊢;exact .inr hj)),Acs h k o m (hd k qe)]
theorem V5 {all:Array Oper} {p t:Stp} (h:O2 all p t=true) :
  (∀ d,p.o.dst=some d→d∉t.o.looksAt all)∧(∀ d,p.o.dst=some d→t.o.dst≠some d)∧(∀ d,t.o.dst=some d→d∉p.o.looksAt all)∧(∀ k∈p.U.ws,k∉t.U.ws) ∧
   ((∀ k∈p.U.ws,k∉t.U.rd)∨(Sq p.o=true∧J1 t.o=true))∧((∀ k∈t.U.ws,k∉p.U.rd)∨(Sq t.o=true∧J1 p.o=true)):=by
 simp only[O2,Bool.and_eq_true,Bool.or_eq_true]at h
 obtain ⟨⟨⟨h1,h2⟩,h3⟩,h4⟩:=h
 obtain ⟨a1,a2,a3⟩:=Oper.apart_spec h1
 exact⟨a1,a2,a3,Acb h2,h3.imp Acb id,h4.imp Acb id⟩
theorem Acq {all:Array Oper} {p t:Stp} (h:O2 all p t=true) (s:SS):(s.upd p.o.dst p.U).upd t.o.dst t.U=(s.upd t.o.dst t.U).upd p.o.dst p.U:=by
 obtain ⟨_,h2,_,h4,_,_⟩:=V5 h
 unfold SS.upd
 congr 1
 ·cases hp:p.o.dst with
  | none=>rfl
  | some d =>
   cases ht:t.o.dst with
   | none=>rfl
   | some e=>exact Acr _ _ _ (fun e'=>h2 d hp (by rw[ht,e']))
 ·exact Zm _ _ _ (fun k hk=>h4 k hk)
theorem Vc {all:Array Oper} {s s':SS} {o:Oper} {b:Bool} (a2:S0 all s o.guard b) (h1:∀ d,d∈o.looksAt all→s'.σ d=s.σ d):S0 all s' o.guard b:=by
 unfold S0 at a2 ⊢
 cases hg:o.guard with
 | none=>rw[hg]at a2;exact a2
 | some q =>
  obtain ⟨j,want⟩:=q
  rw[hg]at a2
  obtain ⟨d,b1,b2⟩:=a2
  have hd:s'.σ d=s.σ d:=h1 d (by simp[Oper.looksAt,hg,b1])
  exact⟨d,b1,by rw[hd];exact b2⟩
theorem Ae3 {all:Array Oper} {s s':SS} {o:Oper} (h1:∀ d,d∈o.looksAt all→s'.σ d=s.σ d):∀ x∈o.op.operands,ev s' x=ev s x:=fun x hx=>by
 cases x with
 | tmp d =>
  have hd:s'.σ d=s.σ d:=h1 d (by
   simp only[Oper.looksAt,List.mem_append,List.mem_filterMap]
   exact .inl ⟨.tmp d,by simpa using hx,Y⟩)
  simpa only [ev] using hd
 | const v=>rfl
 | global g=>rfl
 | func f=>rfl
theorem Stp.congr {P:Program} {all:Array Oper} {s s':SS} {t:Stp} (h:t.ok P all s) (h1:∀ d,d∈t.o.looksAt all→s'.σ d=s.σ d) (h2:∀ k,k∈t.U.rd∨k∈t.U.ws→s'.h k=s.h k):t.ok P all s':=by
 obtain ⟨a1,a2,a3,a4⟩:=h
 have hev:=Ae3 h1
 refine⟨a1,Vc a2 h1,fun hw=>?_,a4⟩
 obtain ⟨g1,g2,g3⟩:=a3 hw
 refine⟨fun κ a w hi hr ho N Q hN=>?_,fun hi=>?_,fun hi p hp=>?_⟩
 ·exact g1 κ a w hi (fun x hx=>by rw[← hev x hx];exact hr x hx) (fun k hk=>by rw[← h2 k hk];exact ho k hk) N Q (fun v κ' w' st inv hv hob hrd=>hN v κ' w' st inv hv hob fun k hk hw=>by rw[h2 k (.inl hk)];exact hrd k hk hw)
 ·obtain ⟨e1,e2⟩:=g2 hi
  exact⟨e1,fun s'' q1 q2=>e2 s'' (fun x hx=>(q1 x hx).trans (hev x hx)) (fun k hk=>by rw[q2 k hk,h2 k (.inl hk)])⟩
 ·rw[g3 hi p hp,h2 p.1 (.inr (List.mem_map.2 ⟨p,hp,rfl⟩))]
theorem Stp.congrI {P:Program} {all:Array Oper} {s s':SS} {t:Stp} (h:t.ok P all s) (hi:J1 t.o=true) (h1:∀ d,d∈t.o.looksAt all→s'.σ d=s.σ d) (h2:∀ k∈t.U.rd,(s'.h k).shp=(s.h k).shp):t.ok P all s':=by
 obtain ⟨a1,a2,a3,a4⟩:=h
 have hev:=Ae3 h1
 refine⟨a1,Vc a2 h1,fun hw=>?_,a4⟩
 obtain ⟨g1,g2,g3⟩:=a3 hw
 obtain ⟨e1,e2⟩:=g2 hi
 refine⟨(e2 s' hev h2).two,fun _=>⟨e1,fun s'' q1 q2=>e2 s'' (fun x hx=>(q1 x hx).trans (hev x hx)) (fun k hk=>by rw[q2 k hk,h2 k hk])⟩,fun _ p hp=>?_⟩
 rw[e1]at hp
 cases hp
theorem Acu:∀ (l:List (Nat × Ob)) (h:Nat→Ob) (k:Nat),(∀ q∈l,q.2.shp=(h q.1).shp)→(Ms h l k).shp=(h k).shp
 | [],_,_,_=>rfl
 | (j,o)::r,h,k,hq=>by
  rw[Ms,Acu r (Sy.upd h j o) k (fun q hqr=>?_)]
  ·by_cases hj:k=j
   ·subst hj;rw[Cm];exact hq (k,o) qe
   ·rw[Do _ _ hj]
  ·rw[hq q (by simp[hqr])]
   by_cases hj:q.1=j
   ·rw[hj,Cm];exact(hq (j,o) qe).symm
   ·rw[Do _ _ hj]
theorem Stp.lens {P:Program} {all:Array Oper} {s:SS} {t:Stp} (h:t.ok P all s) (hi:Sq t.o=true) (k:Nat):((s.upd t.o.dst t.U).h k).shp=(s.h k).shp:=by
 obtain ⟨_,_,a3,a4⟩:=h
 cases hw:t.want with
 | false=>rw[a4 hw];rfl
 | true=>exact Acu _ _ _ ((a3 hw).st hi)
theorem upd_σ_ne {s:SS} {dst:Option Nat} {U:Up} {d:Nat} (h:dst≠some d):(s.upd dst U).σ d=s.σ d:=by
 cases dst with
 | none=>rfl
 | some e=>exact Do _ _ (fun e'=>h (by rw[e']))
theorem Chain.first {P:Program} {all:Array Oper} {t:Stp} {post:List Stp}:∀ {pre:List Stp} {s:SS},Chain P all s (pre++t::post)→(∀ p∈pre,O2 all p t=true) →
  t.ok P all s∧Chain P all (s.upd t.o.dst t.U) (pre++post)∧fin s (pre++t::post)=fin (s.upd t.o.dst t.U) (pre++post)
 | [],s,h,_=>⟨h.1,h.2,rfl⟩
 | p::pre,s,h,hp=>by
  obtain ⟨h1,h2⟩:=h
  obtain ⟨i1,i2,i3⟩:=Chain.first h2 (fun q hq=>hp q (by simp[hq]))
  have ha:=hp p qe
  obtain ⟨b1,b2,b3,b4,b5,b6⟩:=V5 ha
  have ht:t.ok P all s:=by
   rcases b5 with b5 | ⟨c1,c2⟩
   ·exact Stp.congr i1 (fun d hd=>(upd_σ_ne (fun e=>b1 d e hd)).symm) (fun k hk=>(Ww (fun hm=>by
     rcases hk with hk | hk
     ·exact b5 k hm hk
     ·exact b4 k hm hk)).symm)
   ·exact Stp.congrI i1 c2 (fun d hd=>(upd_σ_ne (fun e=>b1 d e hd)).symm) (fun k _=>(Stp.lens h1 c1 k).symm)
  have hpk:p.ok P all (s.upd t.o.dst t.U):=by
   rcases b6 with b6 | ⟨c1,c2⟩
   ·exact Stp.congr h1 (fun d hd=>upd_σ_ne (fun e=>b3 d e hd)) (fun k hk=>Ww (fun hm=>by
     rcases hk with hk | hk
     ·exact b6 k hm hk
     ·exact b4 k hk hm))
   ·exact Stp.congrI h1 c2 (fun d hd=>upd_σ_ne (fun e=>b3 d e hd)) (fun k _=>Stp.lens ht c1 k)
  refine⟨ht,⟨hpk,?_⟩,?_⟩
  ·rw[← Acq ha];exact i2
  ·show fin (s.upd p.o.dst p.U) (pre++t::post)=fin ((s.upd t.o.dst t.U).upd p.o.dst p.U) (pre++post)
   rw[i3,Acq ha]
theorem Vp {all:Array Oper} {t:Stp} {post:List Stp}:∀ {pre:List Stp},J5 all (pre++t::post)=true→(∀ p∈pre,O2 all p t=true∨aft all p t=true)∧J5 all (pre++post)=true
 | [],h=>by
  simp only[List.nil_append,J5,Bool.and_eq_true]at h
  exact⟨by simp,h.2⟩
 | p::pre,h=>by
  simp only[List.cons_append,J5,Bool.and_eq_true]at h
  obtain ⟨h1,h2⟩:=h
  obtain ⟨i1,i2⟩:=Vp h2
  have key:∀ l:List Stp,Ux all p (l++t::post)=true→(O2 all p t=true∨aft all p t=true)∧Ux all p (l++post)=true:=by
   intro l
   induction l with
   | nil=>intro h;simp only[List.nil_append,Ux,Bool.and_eq_true,Bool.or_eq_true]at h;exact h
   | cons q l ih =>
    intro h
    simp only[List.cons_append,Ux,Bool.and_eq_true]at h ⊢
    exact⟨(ih h.2).1,h.1,(ih h.2).2⟩
  obtain ⟨k1,k2⟩:=key pre h1
  refine⟨fun q hq=>?_,?_⟩
  ·rcases List.mem_cons.1 hq with rfl | hq
   ·exact k1
   ·exact i1 q hq
  ·simp only[List.cons_append,J5,Bool.and_eq_true]
   exact⟨k2,i2⟩
theorem Al1 {P:Program} {F:Fr} {n:Nat} {all:Array Oper} {Q:Exit→Act→World→Prop} (hdst:∀ (i:Nat) (o:Oper),all[i]? = some o→∀ d,o.dst=some d→d<n) :
  ∀ (m:Nat) (rem:List Stp) (listed:Array Bool) (s:SS) (κ:Ka) (a:Act) (w:World),rem.length=m→St F n s κ a w→Chain P all s rem→J5 all rem=true→(∀ t∈rem,Wp t=true) →
   (∀ i,listed.getD i true=false↔∃ t∈rem,t.i=i)→(rem.Pairwise fun p t=>p.i<t.i)→(∀ i,i<all.size→i<listed.size)→Cl all listed→(∀ κ' a' w',St F n (fin s rem) κ' a' w'→Q .normal a' w')→wpAny P .any all Q m listed a w:=by
 intro m
 induction m with
 | zero =>
  intro rem listed s κ a w hm hs _ _ _ hl _ _ _ hQ
  have:rem=[]:=List.eq_nil_of_length_eq_zero hm
  subst this
  refine⟨?_,hQ κ a w hs⟩
  apply List.eq_nil_iff_forall_not_mem.2
  intro i hi
  have h1:=(mem_ready.1 hi).1
  rw[hl i]at h1
  obtain ⟨t,ht,_⟩:=h1
  cases ht
 | succ m ih =>
  intro rem listed s κ a w hm hs hc hp he hl hlt hsz hcl hQ
  have hready:∀ t post,rem=t::post→t.i∈Region.ready .any all listed:=fun t post h0=>by
   subst h0
   refine mem_ready.2 ⟨(hl t.i).2 ⟨t,by simp,Y⟩,t.o,hc.1.1,fun e hedge hb=>?_⟩
   have h1:=he t qe
   simp only[Wp,List.all_eq_true,Bool.or_eq_true,Bool.not_eq_true']at h1
   have h2:e.on<t.i:=by
    rcases h1 e (by simpa using hedge) with h2 | h2
    ·rw[hb]at h2;cases h2
    ·exact Nat.le_of_ble_eq_true h2
   have hin:e.on<listed.size:=by
    refine hsz _ ?_
    have:t.i<all.size:=by
     have:=hc.1.1
     rcases Nat.lt_or_ge t.i all.size with h | h
     ·exact h
     ·rw[Array.getElem?_eq_none h]at this;cases this
    omega
   have h3:listed.getD e.on true≠false:=fun h4=>by
    obtain ⟨q,hq,hqi⟩:=(hl e.on).1 h4
    rcases List.mem_cons.1 hq with rfl | hq
    ·omega
    ·have:=(List.pairwise_cons.1 hlt).1 q hq;omega
   simp only[Array.getD_eq_getD_getElem?,Array.getElem?_eq_getElem hin,Option.getD_some]at h3 ⊢
   cases hh:listed[e.on] with
   | true=>rfl
   | false=>exact absurd hh h3
  refine⟨fun h0=>?_,fun i hi=>?_⟩
  ·cases rem with
   | nil=>simp at hm
   | cons t post =>
    have:=hready t post rfl
    rw[h0]at this
    cases this
  ·obtain ⟨h1,oi,h2,h3⟩:=mem_ready.1 hi
   obtain ⟨t,ht,rfl⟩:=(hl i).1 h1
   obtain ⟨pre,post,rfl⟩:=List.append_of_mem ht
   obtain ⟨p1,p2⟩:=Vp hp
   have hap:∀ p∈pre,O2 all p t=true:=fun p hpp=>by
    rcases p1 p hpp with h4 | h4
    ·exact h4
    ·exfalso
     have hto:oi=t.o:=by
      have hok:all[t.i]? = some t.o:=by
       have:∀ (l:List Stp) (s:SS),Chain P all s (l++t::post)→all[t.i]? = some t.o:=by
        intro l
        induction l with
        | nil=>intro s h;exact h.1.1
        | cons q l ih=>intro s h;exact ih _ h.2
       exact this pre s hc
      rw[hok]at h2
      exact(Option.some.inj h2).symm
     rw[hto]at h3
     have h5:=Ajj (V7 hcl 4 t.o h3 h4)
     have h6:=(hl p.i).2 ⟨p,by simp[hpp],rfl⟩
     rw[h5]at h6
     cases h6
   obtain ⟨c1,c2,c3⟩:=hc.first hap
   have hlt':(pre++post).Pairwise fun p t=>p.i<t.i:=by
    rw[List.pairwise_append]at hlt ⊢
    obtain ⟨q1,q2,q3⟩:=hlt
    exact⟨q1,(List.pairwise_cons.1 q2).2,fun x hx y hy=>q3 x hx y (by simp[hy])⟩
   have hne:∀ q∈pre++post,q.i≠t.i:=fun q hq=>by
    rw[List.pairwise_append]at hlt
    obtain ⟨q1,q2,q3⟩:=hlt
    rcases List.mem_append.1 hq with hq | hq
    ·have:=q3 q hq t qe;omega
    ·have:=(List.pairwise_cons.1 q2).1 q hq;omega
   have hl':∀ i,(listed.setIfInBounds t.i true).getD i true=false↔∃ q∈pre++post,q.i=i:=fun i=>by
    by_cases hti:t.i=i
    ·subst hti
     constructor
     ·intro h4
      exfalso
      rcases Nat.lt_or_ge t.i listed.size with h5 | h5
      ·simp[h5]at h4
      ·rw[Array.getD_eq_getD_getElem?,Array.getElem?_eq_none (by simpa using h5)]at h4;cases h4
     ·rintro ⟨q,hq,hqi⟩
      exact absurd hqi (hne q hq)
    ·rw[getD_set_ne true hti,hl i]
     constructor
     ·rintro ⟨q,hq,rfl⟩
      refine⟨q,?_,Y⟩
      simp only[List.mem_append,List.mem_cons]at hq ⊢
      rcases hq with hq | rfl | hq
      ·exact .inl hq
      ·exact absurd Y hti
      ·exact .inr hq
     ·rintro ⟨q,hq,rfl⟩
      refine⟨q,?_,Y⟩
      simp only[List.mem_append,List.mem_cons]at hq ⊢
      rcases hq with hq | hq
      ·exact .inl hq
      ·exact .inr (.inr hq)
   have hmono:∀ i,listed.getD i false=true→(listed.setIfInBounds t.i true).getD i false=true:=fun i h=>by
    by_cases hti:t.i=i
    ·subst hti
     rcases Nat.lt_or_ge t.i listed.size with h5 | h5
     ·simp[h5]
     ·rw[Array.getD_eq_getD_getElem?,Array.getElem?_eq_none h5]at h;cases h
    ·rw[getD_set_ne false hti];exact h
   have hcl':Cl all (listed.setIfInBounds t.i true):=fun i o hio hli e he1 he2=>by
    refine hmono _ ?_
    by_cases hti:t.i=i
    ·subst hti
     rw[h2]at hio
     cases hio
     exact h3 e he1 he2
    ·rw[getD_set_ne true hti]at hli
     exact hcl i o hio hli e he1 he2
   have next:∀ (κ':Ka) (a':Act) (w':World),St F n (s.upd t.o.dst t.U) κ' a' w'→wpAny P .any all Q m (listed.setIfInBounds t.i true) a' w':=fun κ' a' w' hs' =>
    ih (pre++post) _ (s.upd t.o.dst t.U) κ' a' w' (by simp at hm ⊢;omega) hs' c2 p2 (fun q hq=>he q (by simp only[List.mem_append,List.mem_cons]at hq ⊢;exact hq.imp id .inr)) hl' hlt' (by simpa using hsz) hcl' (by rw[← c3];exact hQ)
   have hto:all[t.i]? = some t.o:=c1.1
   have hdt:=hdst t.i t.o hto
   unfold wpOp
   rw[hto]
   obtain ⟨_,d2,d3,d4⟩:=c1
   have hwant:=O5 (o:=t.o) hs (fun j want hg d hd=>by
    cases hj:all[j]? with
    | none=>rw[hj]at hd;cases hd
    | some oj=>rw[hj]at hd;exact hdst j oj hj d (by simpa using hd)) d2
   simp only[hwant]
   cases hw:t.want with
   | true =>
    simp only[if_true]
    exact .inl ((d3 hw).good κ a w hs.inv (fun x _=>hs.ev x) (fun j _=>hs.obj j) _ _ (fun v κ' w' st inv hv ho hrd=>next κ' _ w' (hs.put2 hdt st inv hv ho hrd)))
   | false =>
    simp only[Bool.false_eq_true,if_false]
    refine next κ _ w ?_
    rw[d4 hw]
    exact hs.put (U:=⟨.val undef,[],[]⟩) hdt (Step.refl _ κ w) hs.inv (by simp[Rd]) (fun p hp=>by cases hp)
variable {C:Cx} {k:List KI} {s:SS}
def DR (C:Cx) (k:List KI) (all:Array Oper) (done:List Stp) (rest:List Oper) (s:SS):Prop :=
 ∃ ts:List Stp,ts.map (·.o)=rest∧(∀ j t,ts[j]? = some t→t.i=done.length+j)∧Chain C.P all s ts∧J5 all (done++ts)=true∧(done++ts).all Wp=true∧G C k (fin s ts)
def Aca (all:Array Oper) (done:List Stp):Bool:=J5 all done && done.all Wp
theorem DR_nil {all:Array Oper} {done:List Stp} (hp:Aca all done=true) (h:G C k s):DR C k all done [] s:=by
 simp only[Aca,Bool.and_eq_true]at hp
 exact⟨[],Y,by simp,q_,by simpa using hp.1,by rw[List.append_nil];exact hp.2,h⟩
theorem Apj {all:Array Oper} {done:List Stp} {o:Oper} {rest:List Oper} (U:Up) (hg:GoodX C.P o s U) (hi:all[done.length]? = some o) (hw:S0 all s o.guard true)
  (h:DR C k all (done++[⟨done.length,o,U,true⟩]) rest (s.upd o.dst U)):DR C k all done (o::rest) s:=by
 obtain ⟨ts,h1,h2,h3,h4,h5,h6⟩:=h
 refine⟨⟨done.length,o,U,true⟩::ts,by simp[h1],fun j t hj=>?_,⟨⟨hi,hw,fun _=>hg,fun hf=>by cases hf⟩,h3⟩,by simpa using h4,by simpa using h5,h6⟩
 cases j with
 | zero=>simp only[List.getElem?_cons_zero,Option.some.injEq]at hj;subst hj;rfl
 | succ j=>have:=h2 j t (by simpa using hj);simp at this;omega
theorem Aq6 {all:Array Oper} {done:List Stp} {o:Oper} {rest:List Oper} (hi:all[done.length]? = some o) (hw:S0 all s o.guard false)
  (h:DR C k all (done++[⟨done.length,o,⟨.val undef,[],[]⟩,false⟩]) rest (s.upd o.dst ⟨.val undef,[],[]⟩)):DR C k all done (o::rest) s:=by
 obtain ⟨ts,h1,h2,h3,h4,h5,h6⟩:=h
 refine⟨⟨done.length,o,⟨.val undef,[],[]⟩,false⟩::ts,by simp[h1],fun j t hj=>?_,⟨⟨hi,hw,fun hf=>(by cases hf),fun _=>rfl⟩,h3⟩,by simpa using h4,by simpa using h5,h6⟩
 cases j with
 | zero=>simp only[List.getElem?_cons_zero,Option.some.injEq]at hj;subst hj;rfl
 | succ j=>have:=h2 j t (by simpa using hj);simp at this;omega
def Aii (n:Nat) (ops:List Oper):Bool:=ops.all fun o=>match o.dst with | some d=>Nat.blt d n | none=>true
theorem G_draw {id:Nat} {ops:Array Oper} (hm:C.P.follows .mixedOrders=true) (hd:Aii C.n ops.toList=true) (h:DR C k ops [] ops.toList s):G C (.code (.region id ops true)::k) s:=fun κ a w hs=>by
 obtain ⟨ts,h1,h2,h3,h4,h5,h6⟩:=h
 have hdst:∀ (i:Nat) (o:Oper),ops[i]? = some o→∀ d,o.dst=some d→d<C.n:=fun i o hi d hod=>by
  simp only[Aii,List.all_eq_true]at hd
  have hmem:o∈ops.toList:=by
   rw[← Array.getElem?_toList]at hi
   exact List.mem_of_getElem? hi
  have:=hd o hmem
  rw[hod]at this
  exact Nat.le_of_ble_eq_true this
 have hlen:ts.length=ops.size:=by
  have:=congrArg List.length h1
  simpa using this
 have hs':St C.F C.n s κ a { w with drawn:=w.drawn+1 }:=by
  have g:=Grew.drew w
  have st:Step (fun _=>False) κ w κ w.drew:=⟨g.size,g.os,g.tape,g.output,rfl,fun b _=>rfl,fun b _ _=>rfl,fun _ _ _ _=>rfl,fun _ _=>rfl,fun _ h=>h.elim,fun _ h=>.inl h⟩
  have inv:Inv κ w.drew:=⟨hs.inv.inj,hs.inv.bnd,hs.inv.apart,hs.inv.mbnd⟩
  exact⟨hs.defers,hs.size,inv,hs.ctx.step inv st,fun i=>Rd.step st _ _ (hs.slot i),fun j=>ObOK.step st (fun h=>h) _ (hs.obj j)⟩
 refine wp_region_any hm (Al1 hdst ops.size ts (Array.replicate ops.size false) s κ a _ hlen hs' h3 (by simpa using h4) (by simpa using h5) ?_ ?_ qe ?_ (fun κ' a' w' hs''=>h6 κ' a' w' hs''))
 ·intro i
  simp only[Array.getD_eq_getD_getElem?,Array.getElem?_replicate]
  constructor
  ·intro h7
   split at h7
   ·rename_i hi
    have:i<ts.length:=by omega
    exact⟨ts[i],List.getElem_mem this,by simpa using h2 i ts[i] (List.getElem?_eq_getElem this)⟩
   ·cases h7
  ·rintro ⟨t,ht,rfl⟩
   obtain ⟨j,hj,rfl⟩:=List.mem_iff_getElem.1 ht
   have:=h2 j ts[j] (List.getElem?_eq_getElem hj)
   simp only[List.length_nil,Nat.zero_add]at this
   rw[this,if_pos z_]
   rfl
 ·rw[List.pairwise_iff_getElem]
  intro i j hi hj hij
  have e1:=h2 i ts[i] (List.getElem?_eq_getElem hi)
  have e2:=h2 j ts[j] (List.getElem?_eq_getElem hj)
  omega
 ·intro i o hio hli
  exfalso
  have:i<ops.size:=by
   rcases Nat.lt_or_ge i ops.size with h | h
   ·exact h
   ·rw[Array.getElem?_eq_none h]at hio;cases hio
  simp only[Array.getD_eq_getD_getElem?,Array.getElem?_replicate,if_pos this]at hli
  cases hli
end Go.Sy
namespace Go.Sy
def Bn (b:UInt8):SV:=.val (.int .u8 b.toNat)
def Aa (n:Int):SV:=.val (.int .i64 n)
def Ab (b:Bool):SV:=.val (.bool b)
def B4 (n:Int):SV:=.val (.int .u64 n)
def A3 (n:Int):SV:=.val (.int .u32 n)
def Ad (s:ByteArray):SV:=.val (.string s)
theorem Aab {P:Program} (Γ:Ty P) {t:TypeId} {ti:TI} {k:IntKind} (ht:Γ.get t=some ti) (hk:ti.k=.int k):P.underlying t=some (.int k):=by
 obtain ⟨d,info,z,k1,k2,_⟩:=Γ.ok t ti ht
 rw[hk]at k2
 simp only[TK.ok]at k2
 subst k2
 exact k1
theorem Ajy {P:Program} (Γ:Ty P) {t:TypeId} {ti:TI} (ht:Γ.get t=some ti) (hk:ti.k=.string):P.underlying t=some .string:=by
 obtain ⟨d,info,z,k1,k2,_⟩:=Γ.ok t ti ht
 rw[hk]at k2
 simp only[TK.ok]at k2
 subst k2
 exact k1
theorem T1 {P:Program} (Γ:Ty P) {o:Oper} {s:SS} {src dst:TypeId} {si di ei:TI} {x:Operand} {et:TypeId} {eb n:Nat} {ez:List Value} {ks:List Nat} {f:Nat→SV→Prop} (bs:List UInt8) (h:o.op=.convert src dst x)
  (hs:Γ.get src=some si) (hsk:si.k=.slice et 1 eb ez) (he:Γ.get et=some ei) (hek:ei.k=.int .u8) (hd:Γ.get dst=some di) (hdk:di.k=.string) (hx:AppSrc s 1 (ev s x) ks n f) (hn:n=bs.length) (hf:∀ i (h:i<bs.length),f i (Bn bs[i])) :
  Good P o s ⟨.val (.string ⟨bs.toArray⟩),ks,[]⟩ :=
 Good.pure fun κ a w hi hr ho=>by
  have r1:=hr x (by simp[h,Op.operands])
  have hsrc:=hx.src r1 ho
  obtain ⟨hu,_⟩:=Em Γ hs hsk
  have he':=Aab Γ he hek
  have hd':=Ajy Γ hd hdk
  refine⟨.string ⟨bs.toArray⟩,?_,by simp[Rd]⟩
  rcases hsrc with ⟨h0,hno,ad,cap,e1⟩ | ⟨b,off,cap,news,e1,e2,e3,e4,e5⟩
  ·have hb:bs=[]:=List.eq_nil_of_length_eq_zero z_
   subst hb
   cases ad with
   | none=>simp[execOp,h,e1,run_convert_bytes_nil w src et hu he' 0 cap dst hd'];rfl
   | some ad =>
    have:=run_convert_bytes_back (P:=P) w src dst et ad cap [] hu he' hd' (fun j hj=>by simp at hj)
    simp only[List.length_nil]at this
    simp[execOp,h,e1,this]
  ·have:=run_convert_bytes_back (P:=P) w src dst et ⟨b,off,none⟩ cap bs hu he' hd' (fun j hj=>by
    obtain ⟨q0,u,q1,q2,q3,q4⟩:=e5 j _ (hf j hj)
    have hu2:u=.int .u8 bs[j].toNat:=by simpa [Bn,RdD] using q1
    have q5:=q4 0 z_
    rw[hu2]at q5
    simp only[Nat.mul_one,Nat.add_zero,Value.cells]at q5
    rw[Addr.add_lit]
    exact e4 j _ (by simpa using q5))
   rw[← hn]at this
   simp[execOp,h,e1,this]
inductive EK | int (k:IntKind) | bool | string
def EK.desc:EK→TypeDesc | .int k=>.int k | .bool=>.bool | .string=>.string
def Aie (P:Program):Nat→List Field→List EK→Prop
 | _,[],[]=>True
 | i, f :: fs, k :: ks => f.name ≠ "_" ∧ f.offset = i ∧ P.underlying f.type = some k.desc ∧ Aie P (i + 1) fs ks
 | _,_,_=>False
structure EqOK (P:Program) (t:TypeId) (ks:List EK):Prop where
 under:P.underlying t=some (.struct (P.fieldsOf t))
 stood:P.stoodInHeld t=false
 guard:P.eqGuardType P.depth t=false
 fields:Aie P 0 (P.fieldsOf t).toList ks
def eq1 (k:EK) (x y:SV):Option Bool :=
 match k,x,y with
 | .int _,.val (.int k1 a),.val (.int k2 b)=>if k1=k2 then some (a == b) else none
 | .bool,.val (.bool a),.val (.bool b)=>some (a == b)
 | .string,.val (.string a),.val (.string b)=>some (a == b)
 | _,_,_=>none
theorem Ajm {P:Program} {κ:Ka} {w:World} (d:Nat) {t:TypeId} {k:EK} (ht:P.underlying t=some k.desc) {x y:SV} {u v:Value} {b:Bool} (h:eq1 k x y=some b) (hx:Rd κ w x u) (hy:Rd κ w y v):(Op.equalIn (d+1) t u v).run P w=.ok b w:=by
 unfold eq1 at h
 split at h
 ·split at h
  ·rename_i hk
   subst hk
   simp only[Option.some.injEq]at h
   rw[hx.val,hy.val,← h]
   exact run_equalIn_int w d t _ _ _ _ ht
  ·cases h
 ·simp only[Option.some.injEq]at h
  rw[hx.val,hy.val,← h]
  exact run_equalIn_bool' w d t _ _ ht
 ·simp only[Option.some.injEq]at h
  rw[hx.val,hy.val,← h,beq_toListBytes]
  exact run_equalIn_string w d t _ _ ht
 ·cases h
def eqS:List EK→List SV→List SV→Option Bool
 | [],[],[]=>some true
 | k::ks,x::l,y::m=>match eq1 k x y,eqS ks l m with
  | some a,some b=>some (a && b)
  | _,_=>none
 | _,_,_=>none
theorem Mz {P:Program} (w:World) {t:TypeId} {k:EK} (h:P.underlying t=some k.desc) (cs:Array Value) {i:Nat} {v:Value} (hv:cs[i]? = some v):(part t cs i).run P w=.ok v w:=by
 cases k<;>simp only[EK.desc]at h<;>simp[part,isAgg,run_underlying h,hv]
theorem Aid {P:Program} {κ:Ka} {w:World} {xs ys:Array Value} (d:Nat):∀ (ks:List EK) (fs:List Field) (i:Nat) (l m:List SV) (r:Bool),Aie P i fs ks→RdL κ w l (xs.toList.drop i)→RdL κ w m (ys.toList.drop i)→eqS ks l m=some r →
  (Op.eqFields (d+1) xs ys fs).run P w=.ok r w
 | [],[],i,l,m,r,_,_,_,he=>by
  cases l<;>cases m<;>simp[eqS]at he
  subst he
  simp[Op.eqFields]
 | [],_::_,i,l,m,r,h,_,_,_=>by simp[Aie]at h
 | _::_,[],i,l,m,r,h,_,_,_=>by simp[Aie]at h
 | k::ks,f::fs,i,[],m,r,h,hl,hm,he=>by simp[eqS]at he
 | k::ks,f::fs,i,x::l,[],r,h,hl,hm,he=>by simp[eqS]at he
 | k::ks,f::fs,i,x::l,y::m,r,h,hl,hm,he=>by
  simp only[Aie]at h
  obtain ⟨h1,h2,h3,h4⟩:=h
  simp only[RdL]at hl hm
  obtain ⟨v,q,e1,e2,e3⟩:=hl
  obtain ⟨u,p,f1,f2,f3⟩:=hm
  have g1:xs[i]? = some v:=by
   have:=congrArg (fun l=>l[0]?) e1
   simpa using this
  have g2:ys[i]? = some u:=by
   have:=congrArg (fun l=>l[0]?) f1
   simpa using this
  have e4:xs.toList.drop (i+1)=q:=by
   have:=congrArg (List.drop 1) e1
   simpa [Nat.add_comm] using this
  have f4:ys.toList.drop (i+1)=p:=by
   have:=congrArg (List.drop 1) f1
   simpa [Nat.add_comm] using this
  have p1:=Mz (P:=P) w h3 xs g1
  have p2:=Mz (P:=P) w h3 ys g2
  simp only[eqS]at he
  cases hb:eq1 k x y with
  | none=>rw[hb]at he;cases he
  | some b =>
   cases hq:eqS ks l m with
   | none=>rw[hb,hq]at he;cases he
   | some r' =>
    rw[hb,hq]at he
    simp only[Option.some.injEq]at he
    have hrun:=Ajm (P:=P) (κ:=κ) (w:=w) d h3 hb e2 f2
    have ih:=Aid d ks fs (i+1) l m r' h4 (by rw[e4];exact e3) (by rw[f4];exact f3) hq
    simp only[Op.eqFields,if_pos h1,Sem.run_bind,h2,p1,p2,Result.andThen_ok,hrun]
    subst he
    cases b
    ·simp
    ·simp[ih]
theorem Vv {P:Program} {o:Oper} {s:SS} {op:BinOp} {t yt:TypeId} {x y:Operand} {l m:List SV} {ks:List EK} {r:Bool} (h:o.op=.binOp op t x y yt) (hop:op=.eql∨op=.neq) (hq:EqOK P t ks)
  (hx:ev s x=.agg l) (hy:ev s y=.agg m) (hr:eqS ks l m=some r):Good P o s ⟨.val (.bool (if op=.eql then r else !r)),[],[]⟩ :=
 Good.pure fun κ a w _ hrd _=>by
  have h1:=hrd x (by simp[h,Op.operands])
  have h2:=hrd y (by simp[h,Op.operands])
  rw[hx]at h1
  rw[hy]at h2
  simp only[Rd]at h1 h2
  obtain ⟨cs,e1,_,e3⟩:=h1
  obtain ⟨ds,f1,_,f3⟩:=h2
  have hrun:(Op.equal t (.agg cs.toArray) (.agg ds.toArray)).run P w=.ok r w:=by
   show (Op.equalIn (9999+1) t (.agg cs.toArray) (.agg ds.toArray)).run P w=.ok r w
   rw[run_equalIn_struct w 9999 t _ _ hq.under hq.stood]
   exact Aid (κ:=κ) 9998 ks _ 0 l m r hq.fields (by simpa using e3) (by simpa using f3) hr
  have hg:(eqGuard op t x y (.agg cs.toArray) (.agg ds.toArray)).run P w=.ok () w:=by
   rcases hop with rfl | rfl<;>simp[eqGuard,hq.guard]
  refine⟨.bool (if op=.eql then r else !r),?_,by simp[Rd]⟩
  rcases hop with rfl | rfl<;>simp[execOp,h,e1,f1,hg,binOp,hrun]
theorem T0 {P:Program} (Γ:Ty P) {o:Oper} {s:SS} {op:BinOp} {t yt:TypeId} {ti:TI} {x y:Operand} {p q:Bool} (h:o.op=.binOp op t x y yt) (hop:op=.eql∨op=.neq) (ht:Γ.get t=some ti) (hk:ti.k=.bool)
  (hx:ev s x=.val (.bool p)) (hy:ev s y=.val (.bool q)):Good P o s ⟨.val (.bool (if op=.eql then p == q else p != q)),[],[]⟩ :=
 Good.pure fun κ a w _ hrd _=>by
  have h1:=hrd x (by simp[h,Op.operands])
  have h2:=hrd y (by simp[h,Op.operands])
  rw[hx]at h1
  rw[hy]at h2
  obtain ⟨d,info,z,k1,k2,_⟩:=Γ.ok t ti ht
  rw[hk]at k2
  simp only[TK.ok]at k2
  subst k2
  have hrun:=run_equal_bool (P:=P) w t p q k1
  refine⟨.bool (if op=.eql then p == q else p != q),?_,by simp[Rd]⟩
  rcases hop with rfl | rfl<;>simp[execOp,h,h1.val,h2.val,eqGuard_at_bool,binOp,hrun,bne]
theorem Ql {P:Program} (w:World) (d:Nat) {t e:TypeId} (h:P.underlying t=some (.pointer e)) (p:Option Addr):(Op.equalIn (d+1) t (.pointer p) (.pointer none)).run P w=.ok p.isNone w:=by
 cases p<;>simp[Op.equalIn,run_underlying h]
theorem Vu {P:Program} (Γ:Ty P) {o:Oper} {s:SS} {op:BinOp} {t yt:TypeId} {ti:TI} {x y:Operand} (h:o.op=.binOp op t x y yt) (hop:op=.eql∨op=.neq) (ht:Γ.get t=some ti) (hk:ti.k=.ptr)
  (hy:ev s y=.val (.pointer none)) {b:Bool} {rd:List Nat} (hx:(∃ k off l,ev s x=.ptr k off∧s.h k=.box l∧rd=[k]∧b=false)∨(ev s x=.val (.pointer none)∧rd=[]∧b=true)):Good P o s ⟨.val (.bool (if op=.eql then b else !b)),rd,[]⟩ :=
 Good.pure fun κ a w _ hrd ho=>by
  have h1:=hrd x (by simp[h,Op.operands])
  have h2:=hrd y (by simp[h,Op.operands])
  rw[hy]at h2
  obtain ⟨d,info,z,k1,k2,_⟩:=Γ.ok t ti ht
  rw[hk]at k2
  simp only[TK.ok]at k2
  obtain ⟨e,rfl⟩:=k2
  have key:∃ p:Option Addr,a.eval x=.pointer p∧p.isNone=b:=by
   rcases hx with ⟨k,off,l,hx,hl,rfl,rfl⟩ | ⟨hx,rfl,rfl⟩
   ·have h3:=ho k qe
    rw[hl]at h3
    obtain ⟨bb,cs,T,fr,e1,_⟩:=h3
    rw[hx]at h1
    simp only[Rd,e1]at h1
    exact⟨_,h1,Y⟩
   ·rw[hx]at h1
    exact⟨none,h1.val,Y⟩
  obtain ⟨p,e1,e2⟩:=key
  have hrun:(Op.equal t (.pointer p) (.pointer none)).run P w=.ok b w:=by
   show (Op.equalIn (9999+1) t (.pointer p) (.pointer none)).run P w=.ok b w
   rw[Ql w 9999 k1,e2]
  refine⟨.bool (if op=.eql then b else !b),?_,by simp[Rd]⟩
  rcases hop with rfl | rfl<;>simp[execOp,h,e1,h2.val,eqGuard_at_pointer,binOp,hrun]
def fv (x:SV) (K:SV→Prop):Prop :=
 match x with
 | .val v=>(match v with
  | .int k n=>K (.val (.int k n))
  | .bool b=>K (.val (.bool b))
  | .string b=>K (.val (.string b))
  | v=>K (.val v))
 | .agg l=>K (.agg l)
 | .tup l=>K (.tup l)
 | .sl sz e l=>K (.sl sz e l)
 | .ref sz x o=>K (.ref sz x o)
 | .ptr k o=>K (.ptr k o)
 | .rpt k sz i o=>K (.rpt k sz i o)
 | .osl k=>K (.osl k)
 | .ifc t x=>K (.ifc t x)
 | .clo f g l=>K (.clo f g l)
 | .top=>K .top
theorem U5 (x:SV) (K:SV→Prop):fv x K↔K x:=by
 unfold fv
 split<;>first | rfl | (split<;>rfl)
def fl (l:List SV) (K:List SV→Prop):Prop :=
 match l with
 | []=>K []
 | x::r=>fv x fun x'=>fl r fun r'=>K (x'::r')
theorem K9:∀ (l:List SV) (K:List SV→Prop),fl l K↔K l
 | [],K=>Iff.rfl
 | x::r,K=>by unfold fl;rw[U5,K9 r]
def fa (x:SV) (K:SV→Prop):Prop :=
 match x with
 | .agg l=>fl l fun l=>K (.agg l)
 | .tup l=>fl l fun l=>K (.tup l)
 | x=>fv x K
theorem Aoq (x:SV) (K:SV→Prop):fa x K↔K x:=by
 unfold fa
 split
 ·exact K9 _ _
 ·exact K9 _ _
 ·exact U5 _ _
def I64 (x:Int):Prop:=-9223372036854775808≤x∧x≤9223372036854775807
theorem I64.wrap {x:Int} (h:I64 x):IntKind.i64.wrap x=x:=by
 obtain ⟨h1,h2⟩:=h
 rw[IntKind.wrap_i64]
 omega
def Aoa (op:BinOp) (k:IntKind) (a b:Int) (K:SV→Prop) (stop:Prop):Prop :=
 match op with
 | .add=>(match k with | .i64=>I64 (a+b)∧K (.val (.int .i64 (a+b))) | k=>K (.val (.int k (k.wrap (a+b)))))
 | .sub=>(match k with | .i64=>I64 (a-b)∧K (.val (.int .i64 (a-b))) | k=>K (.val (.int k (k.wrap (a-b)))))
 | .mul=>(match k with | .i64=>I64 (a * b)∧K (.val (.int .i64 (a * b))) | k=>K (.val (.int k (k.wrap (a * b)))))
 | .quo=>b≠0∧K (.val (.int k (k.wrap (a.tdiv b))))
 | .rem=>b≠0∧K (.val (.int k (a.tmod b)))
 | .and=>K (.val (.int k (bits .and k a b)))
 | .or=>K (.val (.int k (bits .or k a b)))
 | .xor=>K (.val (.int k (bits .xor k a b)))
 | .andNot=>K (.val (.int k (bits .andNot k a b)))
 | .lss=>K (.val (.bool (decide (a<b))))
 | .leq=>K (.val (.bool (decide (a≤b))))
 | .gtr=>K (.val (.bool (decide (a>b))))
 | .geq=>K (.val (.bool (decide (a≥b))))
 | .eql=>K (.val (.bool (a == b)))
 | .neq=>K (.val (.bool (a != b)))
 | _=>stop
def Aa0 (op:BinOp) (k:IntKind) (a b:Int) (K:SV→Prop) (stop:Prop):Prop :=
 match op with
 | .shl=>0≤b∧K (.val (.int k (k.wrap (a * 2 ^ (min b.toNat k.bits)))))
 | .shr=>0≤b∧K (.val (.int k (a.fdiv (2 ^ (min b.toNat k.bits)))))
 | _=>stop
def Aql:BinOp→Bool | .shl=>true | .shr=>true | _=>false
def Amn (op:BinOp) (a b:ByteArray) (K:SV→Prop) (stop:Prop):Prop :=
 match op with
 | .add=>a.size+b.size≤9223372036854775807∧K (.val (.string (a++b)))
 | .eql=>K (.val (.bool (a == b)))
 | .neq=>K (.val (.bool (!(a == b))))
 | .lss=>K (.val (.bool (Op.bytesLess a.toList b.toList)))
 | .gtr=>K (.val (.bool (!(Op.bytesLess a.toList b.toList || a == b))))
 | _=>stop
structure TyE (P:Program) extends Ty P where
 eqs:TypeId→Option (List EK)
 eqok:∀ t ks,eqs t=some ks→EqOK P t ks
def bnd (s:SS) (x:Option Operand) (d:Int) (K:Int→Prop) (stop:Prop):Prop :=
 match x with
 | none=>K d
 | some y=>(match ev s y with
  | .val (.int _ n)=>K n
  | _=>stop)
def Ai (b:ByteArray) (i:Nat):UInt8:=b.data.toList.getD i 0
def opW {P:Program} (Γ:TyE P) (o:Oper) (s:SS) (K:Up→Prop) (stop:Prop):Prop :=
 match o.op with
 | .move x=>fv (ev s x) fun v=>K ⟨v,[],[]⟩
 | .assign x=>fv (ev s x) fun v=>K ⟨v,[],[]⟩
 | .pick c a b=>(match ev s c with
  | .val (.bool c)=>(match c with
   | true=>fv (ev s a) fun v=>K ⟨v,[],[]⟩
   | false=>fv (ev s b) fun v=>K ⟨v,[],[]⟩)
  | _=>stop)
 | .alloc t=>(match o.dst with
  | some d=>(match s.h d with
   | .fresh=>(match Γ.get t with
    | some i=>(match Vq i.zero with
     | true=>fl (i.zero.map .val) fun l=>K ⟨.ptr d 0,[],[(d,.box l)]⟩
     | false=>stop)
    | none=>stop)
   | _=>stop)
  | none=>stop)
 | .box _ x=>(match o.dst with
  | some d=>(match s.h d with
   | .fresh=>(match (ev s x).boxed with
    | true=>fl (cellsOf (ev s x)) fun l=>K ⟨.ptr d 0,[],[(d,.box l)]⟩
    | false=>stop)
   | _=>stop)
  | none=>stop)
 | .load t x=>(match Γ.get t with
  | some i=>(match ev s x with
   | .ptr k off=>(match s.h k with
    | .box l=>(match Ki i l off with
     | some y=>fa y fun y=>K ⟨y,[k],[]⟩
     | none=>stop)
    | _=>stop)
   | .ref _ z off=>(match z.boxed with
    | true=>(match Ki i (cellsOf z) off with
     | some y=>fa y fun y=>K ⟨y,[],[]⟩
     | none=>stop)
    | false=>stop)
   | .rpt k sz n off=>(match s.h k with
    | .row sz' e l=>sz'=sz∧∃ h:n<l.length,(match (e l[n]).boxed with
     | true=>(match Ki i (cellsOf (e l[n])) off with
      | some y=>fa y fun y=>K ⟨y,[k],[]⟩
      | none=>False)
     | false=>False)
    | .lit sz' svs=>sz'=sz∧(match Ir svs n with
     | some z=>(match z.boxed with
      | true=>(match Ki i (cellsOf z) off with
       | some y=>fa y fun y=>K ⟨y,[k],[]⟩
       | none=>False)
      | false=>False)
     | none=>False)
    | _=>stop)
   | _=>stop)
  | none=>stop)
 | .store t x y=>(match Γ.get t with
  | some i=>(match ev s x with
   | .ptr k off=>(match s.h k with
    | .box l=>(match (ev s y).boxed && Nat.beq (cellsOf (ev s y)).length i.size && Nat.ble (off+i.size) l.length with
     | true=>fl (setAt l off (cellsOf (ev s y))) fun l=>K ⟨.val undef,[],[(k,.box l)]⟩
     | false=>stop)
    | _=>stop)
   | .rpt k sz n off=>(match s.h k with
    | .row (α:=α) sz' e l=>sz'=sz∧∃ (h:n<l.length) (z:α),cellsOf (e z)=setAt (cellsOf (e l[n])) off (cellsOf (ev s y)) ∧
      (((ev s y).boxed && Nat.beq (cellsOf (ev s y)).length i.size && Nat.ble (off+i.size) sz && (e l[n]).boxed && (e z).boxed && (e z).data)=true)∧K ⟨.val undef,[],[(k,.row sz' e (l.set n z))]⟩
    | _=>stop)
   | _=>stop)
  | none=>stop)
 | .fieldAddr t x f=>(match Γ.get t with
  | some i=>(match i.k with
   | .struct fs=>(match fs[f]? with
    | some (fo,fn)=>(match fn with
     | 0=>stop
     | _+1=>(match ev s x with
      | .ptr k off=>(match s.h k with
       | .box _=>K ⟨.ptr k (off+fo),[k],[]⟩
       | _=>stop)
      | .ref sz z off=>K ⟨.ref sz z (off+fo),[],[]⟩
      | .rpt k sz n off=>(match s.h k with
       | .row (α:=α) sz' e l=>l≠[]∧K ⟨.rpt k sz n (off+fo),[k],[]⟩
       | .lit _ _=>K ⟨.rpt k sz n (off+fo),[k],[]⟩
       | _=>stop)
      | _=>stop))
    | none=>stop)
   | _=>stop)
  | none=>stop)
 | .nilCheck x=>(match ev s x with
  | .ptr k off=>(match s.h k with
   | .box _=>K ⟨.ptr k off,[k],[]⟩
   | _=>stop)
  | .ref sz z off=>K ⟨.ref sz z off,[],[]⟩
  | .clo fn first cap=>(match fn with
   | .func f=>K ⟨.clo (.func f) first cap,[],[]⟩
   | _=>stop)
  | _=>stop)
 | .indexAddr t x y=>(match Γ.get t with
  | some i=>(match i.k with
   | .slice _ esz _ _=>(match ev s y with
    | .val (.int _ n)=>(match ev s x with
     | .sl sz e l=>esz=sz∧∃ (_:0≤n) (h:n.toNat<l.length),K ⟨.ref sz (e l[n.toNat]) 0,[],[]⟩
     | .osl k=>(match (s.h k).len with
      | some len=>0≤n∧n.toNat<len∧K ⟨.rpt k esz n.toNat 0,[k],[]⟩
      | none=>stop)
     | _=>stop)
    | _=>stop)
   | .array _ len esz=>(match ev s y with
    | .val (.int _ n)=>(match ev s x with
     | .ptr k off=>(match s.h k with
      | .box _=>0≤n∧n.toNat<len∧K ⟨.ptr k (off+n.toNat * esz),[k],[]⟩
      | _=>stop)
     | .ref sz z off=>0≤n∧n.toNat<len∧K ⟨.ref sz z (off+n.toNat * esz),[],[]⟩
     | _=>stop)
    | _=>stop)
   | _=>stop)
  | none=>stop)
 | .binOp op t x y _=>(match ev s x,ev s y with
  | .val (.int k a),.val (.int k' b)=>(match Aql op with
   | true=>Aa0 op k a b (fun v=>K ⟨v,[],[]⟩) stop
   | false=>if k=k' then Aoa op k a b (fun v=>K ⟨v,[],[]⟩) stop else stop)
  | .val (.string a),.val (.string b)=>Amn op a b (fun v=>K ⟨v,[],[]⟩) stop
  | .val (.bool p),.val (.bool q)=>(match Γ.get t with
   | some i=>(match i.k with
    | .bool=>(match op with
     | .eql=>K ⟨.val (.bool (p == q)),[],[]⟩
     | .neq=>K ⟨.val (.bool (p != q)),[],[]⟩
     | _=>stop)
    | _=>stop)
   | none=>stop)
  | .agg l,.agg m=>(match Γ.eqs t with
   | some ks=>(match eqS ks l m with
    | some r=>(match op with
     | .eql=>K ⟨.val (.bool r),[],[]⟩
     | .neq=>K ⟨.val (.bool (!r)),[],[]⟩
     | _=>stop)
    | none=>stop)
   | none=>stop)
  | .ptr k _,.val (.pointer none)=>(match s.h k with
   | .box _=>(match Γ.get t with
    | some i=>(match i.k with
     | .ptr=>(match op with
      | .eql=>K ⟨.val (.bool false),[k],[]⟩
      | .neq=>K ⟨.val (.bool true),[k],[]⟩
      | _=>stop)
     | _=>stop)
    | none=>stop)
   | _=>stop)
  | _,_=>stop)
 | .unOp op _ x=>(match op,ev s x with
  | .not,.val (.bool b)=>K ⟨.val (.bool (!b)),[],[]⟩
  | .neg,.val (.int k n)=>K ⟨.val (.int k (k.wrap (0-n))),[],[]⟩
  | _,_=>stop)
 | .extract x i=>(match ev s x with
  | .tup l=>(match Ir l i with
   | some y=>fa y fun y=>K ⟨y,[],[]⟩
   | none=>stop)
  | _=>stop)
 | .convert src dst x=>(match Γ.get src,Γ.get dst with
  | some si,some di=>(match di.k,ev s x with
   | .int k',.val (.int _ n)=>K ⟨.val (.int k' (k'.wrap n)),[],[]⟩
   | .string,.val (.string b)=>(match si.k with
    | .string=>K ⟨.val (.string b),[],[]⟩
    | _=>stop)
   | _,_=>stop)
  | _,_=>stop)
 | .makeInterface t x=>(match Γ.get t with
  | some i=>(match i.k with
   | .iface=>stop
   | .other=>stop
   | .array _ _ _=>stop
   | _=>fv (ev s x) fun v=>K ⟨.ifc t v,[],[]⟩)
  | none=>stop)
 | .build t ps=>(match Γ.get t with
  | some i=>(match i.k with
   | .struct fs=>(match Vq i.zero with
    | true=>(match Yj fs (i.zero.map .val) (ps.toList.map fun p=>(p.1,ev s p.2)) with
     | some out=>fl out fun out=>K ⟨.agg out,[],[]⟩
     | none=>stop)
    | false=>stop)
   | _=>stop)
  | none=>stop)
 | .buildSlice t len ps=>(match o.dst with
  | some d=>(match s.h d with
   | .fresh=>(match Γ.get t with
    | some i=>(match i.k with
     | .slice _ sz _ _=>(match Ke 0 ps.toList with
      | some xs=>(match Nat.beq xs.length len && Nat.ble (len * sz) 16777216 && Z7 sz (xs.map (ev s)) with
       | true=>fl (xs.map (ev s)) fun svs=>K ⟨.osl d,[],[(d,.lit sz svs)]⟩
       | false=>stop)
      | none=>stop)
     | _=>stop)
    | none=>stop)
   | _=>stop)
  | none=>stop)
 | .index t x y=>(match Γ.get t with
  | some i=>(match i.k with
   | .string=>(match ev s x with
    | .val (.string b)=>(match ev s y with
     | .val (.int _ n)=>0≤n∧n.toNat<b.size∧K ⟨.val (.int .u8 (Ai b n.toNat).toNat),[],[]⟩
     | _=>stop)
    | _=>stop)
   | _=>stop)
  | none=>stop)
 | .slice t x lo hi mx=>(match mx with
  | none=>(match Γ.get t with
   | some i=>(match i.k with
    | .string=>(match ev s x with
     | .val (.string b)=>bnd s lo 0 (fun l=>bnd s hi b.size (fun h=>(0≤l∧l≤h∧h≤b.size)∧K ⟨.val (.string (b.extract l.toNat h.toNat)),[],[]⟩) stop) stop
     | _=>stop)
    | _=>stop)
   | none=>stop)
  | some _=>stop)
 | .makeFunc fn first cap=>fl (first.toList.map (ev s)) fun f=>fl (cap.toList.map (ev s)) fun l=>K ⟨.clo fn f l,[],[]⟩
 | .call c=>(match c.callee with
  | .builtin .len=>(match c.args.toList,c.argTypes.toList with
   | [x],t::_=>(match Γ.get t with
    | some i=>(match i.k with
     | .slice _ _ _ _=>(match ev s x with
      | .sl _ _ l=>K ⟨.val (.int .i64 l.length),[],[]⟩
      | .osl k=>(match (s.h k).len with
       | some n=>K ⟨.val (.int .i64 n),[k],[]⟩
       | none=>stop)
      | .val (.slice _ n _)=>K ⟨.val (.int .i64 n),[],[]⟩
      | _=>stop)
     | .string=>(match ev s x with
      | .val (.string b)=>K ⟨.val (.int .i64 b.size),[],[]⟩
      | _=>stop)
     | _=>stop)
    | none=>stop)
   | _,_=>stop)
  | _=>stop)
 | _=>stop
theorem An9 {P:Program} {o:Oper} {s:SS} {op:BinOp} {t yt:TypeId} {x y:Operand} {k:IntKind} {m n:Int} {K:Up→Prop} {stop:Prop} (h:o.op=.binOp op t x y yt)
  (hx:ev s x=.val (.int k m)) (hy:ev s y=.val (.int k n)) (hw:Aoa op k m n (fun v=>K ⟨v,[],[]⟩) stop):(∃ U,Good P o s U∧K U)∨stop:=by
 have mk:∀ u:Value,(∀ w,(binOp op t (.int k m) (.int k n)).run P w=.ok u w)→K ⟨.val u,[],[]⟩→(∃ U,Good P o s U∧K U)∨stop:=fun u hu hk=>.inl ⟨_,Aon h hx hy hu,hk⟩
 unfold Aoa at hw
 split at hw
 ·split at hw
  ·exact mk _ (fun w=>by simp[binOp_add,Op.intArith,hw.1.wrap]) hw.2
  ·exact mk _ (fun w=>by simp[binOp_add,Op.intArith]) hw
 ·split at hw
  ·exact mk _ (fun w=>by simp[binOp_sub,Op.intArith,hw.1.wrap]) hw.2
  ·exact mk _ (fun w=>by simp[binOp_sub,Op.intArith]) hw
 ·split at hw
  ·exact mk _ (fun w=>by simp[binOp_mul,Op.intArith,hw.1.wrap]) hw.2
  ·exact mk _ (fun w=>by simp[binOp_mul,Op.intArith]) hw
 ·exact mk _ (fun w=>by simp[binOp_quo,Op.intDiv,hw.1]) hw.2
 ·exact mk _ (fun w=>by simp[binOp_rem,Op.intDiv,hw.1]) hw.2
 ·exact mk _ (fun w=>by simp[binOp_and,intBits_and]) hw
 ·exact mk _ (fun w=>by simp[binOp_or,intBits_or]) hw
 ·exact mk _ (fun w=>by simp[binOp_xor,intBits_xor]) hw
 ·exact mk _ (fun w=>by simp[binOp_andNot,intBits_andNot]) hw
 ·exact mk _ (fun w=>by simp[binOp_lss]) hw
 ·exact mk _ (fun w=>by simp[binOp_leq]) hw
 ·exact mk _ (fun w=>by simp[binOp_gtr]) hw
 ·exact mk _ (fun w=>by simp[binOp_geq]) hw
 ·exact mk _ (fun w=>by simp[binOp_eql]) hw
 ·exact mk _ (fun w=>by simp[binOp_neq]) hw
 ·exact .inr hw
theorem Ye {P:Program} {o:Oper} {s:SS} {op:BinOp} {t yt:TypeId} {x y:Operand} {k k':IntKind} {m n:Int} {u:Value} (h:o.op=.binOp op t x y yt)
  (hx:ev s x=.val (.int k m)) (hy:ev s y=.val (.int k' n)) (hr:∀ w,(binOp op t (.int k m) (.int k' n)).run P w=.ok u w):Good P o s ⟨.val u,[],[]⟩ :=
 Good.pure fun κ a w _ hrd _=>by
  have h1:=hrd x (by simp[h,Op.operands])
  have h2:=hrd y (by simp[h,Op.operands])
  rw[hx]at h1
  rw[hy]at h2
  refine⟨u,?_,by simp[Rd]⟩
  simp[execOp,h,h1.val,h2.val,eqGuard_at_int,hr]
theorem Ago {P:Program} {o:Oper} {s:SS} {op:BinOp} {t yt:TypeId} {x y:Operand} {k k':IntKind} {m n:Int} {K:Up→Prop} {stop:Prop} (h:o.op=.binOp op t x y yt)
  (hx:ev s x=.val (.int k m)) (hy:ev s y=.val (.int k' n)) (hw:Aa0 op k m n (fun v=>K ⟨v,[],[]⟩) stop):(∃ U,Good P o s U∧K U)∨stop:=by
 unfold Aa0 at hw
 split at hw
 ·have hn:¬ n<0:=by omega
  exact .inl ⟨_,Ye (u:=.int k (k.wrap (m * 2 ^ (min n.toNat k.bits)))) h hx hy (fun w=>by simp[binOp_shl,Op.shift,hn]),hw.2⟩
 ·have hn:¬ n<0:=by omega
  exact .inl ⟨_,Ye (u:=.int k (m.fdiv (2 ^ (min n.toNat k.bits)))) h hx hy (fun w=>by simp[binOp_shr,Op.shift,hn]),hw.2⟩
 ·exact .inr hw
theorem Amm {P:Program} {o:Oper} {s:SS} {op:BinOp} {t yt:TypeId} {x y:Operand} {m n:ByteArray} {K:Up→Prop} {stop:Prop} (h:o.op=.binOp op t x y yt)
  (hx:ev s x=.val (.string m)) (hy:ev s y=.val (.string n)) (hw:Amn op m n (fun v=>K ⟨v,[],[]⟩) stop):(∃ U,Good P o s U∧K U)∨stop:=by
 unfold Amn at hw
 split at hw
 ·have hn:¬ (9223372036854775807<((m.size+n.size:Nat):Int)):=by omega
  refine .inl ⟨_,Jl (u:=.string (m++n)) h qe hx hy (fun w=>?_),hw.2⟩
  simp only[Op.stringOp,IntKind.max_i64]
  rw[if_neg hn]
  rfl
 ·exact .inl ⟨_,Jl (u:=.bool (m == n)) h qe hx hy (fun w=>by simp[Op.stringOp,beq_toListBytes]),hw⟩
 ·exact .inl ⟨_,Jl (u:=.bool (!(m == n))) h qe hx hy (fun w=>by simp[Op.stringOp,beq_toListBytes]),hw⟩
 ·exact .inl ⟨_,Jl (u:=.bool (Op.bytesLess m.toList n.toList)) h qe hx hy (fun w=>by simp[Op.stringOp]),hw⟩
 ·exact .inl ⟨_,Jl (u:=.bool (!(Op.bytesLess m.toList n.toList || m == n))) h qe hx hy (fun w=>by simp[Op.stringOp,beq_toListBytes]),hw⟩
 ·exact .inr hw
theorem O1 {P:Program} (Γ:Ty P) {t:TypeId} {ti:TI} {e:TypeId} {len esz:Nat} (ht:Γ.get t=some ti) (hk:ti.k=.array e len esz) :
  P.underlying t=some (.array len e)∧∃ i,P.info? e=some i∧i.size=esz:=by
 obtain ⟨d,info,z,k1,k2,k3,k4,k5,k6⟩:=Γ.ok t ti ht
 rw[hk]at k2
 simp only[TK.ok]at k2
 obtain ⟨rfl,k2⟩:=k2
 exact⟨k1,k2⟩
theorem Lt {P:Program} {t et:TypeId} {len esz:Nat} {i:TypeInfo} {ik:IntKind} {n:Int} {b o:Nat} (w:World) (hu:P.underlying t=some (.array len et)) (hq:P.info? et=some i) (hi:i.size=esz) (h0:0≤n) (hn:n.toNat<len) :
  (Instr.indexAt t (.pointer (some ⟨b,o,none⟩)) (.int ik n)).run P w=.ok (.pointer (some ⟨b,o+n.toNat * esz,none⟩)) w:=by
 have hlt:n<len:=by omega
 simp[Instr.indexAt,asIntOf,run_underlying hu,Instr.sureAddr,h0,hlt,sizeOf,typeInfo,hq,hi,Addr.add_lit]
theorem Hk {P:Program} (Γ:Ty P) {o:Oper} {s:SS} {t:TypeId} {ti:TI} {et:TypeId} {len esz k off:Nat} {x y:Operand} {ik:IntKind} {n:Int} {l:List SV}
  (h:o.op=.indexAddr t x y) (ht:Γ.get t=some ti) (hk:ti.k=.array et len esz) (hx:ev s x=.ptr k off) (hb:s.h k=.box l) (hy:ev s y=.val (.int ik n)) (h0:0≤n) (hn:n.toNat<len) :
  Good P o s ⟨.ptr k (off+n.toNat * esz),[k],[]⟩ :=
 Good.pure fun κ a w _ hr ho=>by
  have h1:=hr x (by simp[h,Op.operands])
  have h2:=hr y (by simp[h,Op.operands])
  have h3:=ho k qe
  rw[hb]at h3
  obtain ⟨b,cs,T,fr,e1,_⟩:=h3
  rw[hx]at h1
  rw[hy]at h2
  simp only[Rd,e1]at h1
  obtain ⟨hu,i,q1,q2⟩:=O1 Γ ht hk
  refine⟨.pointer (some ⟨b,off+n.toNat * esz,none⟩),?_,by simp only[Rd,e1]⟩
  simp only[execOp,h,h1,h2.val]
  simp[Lt w hu q1 q2 h0 hn]
theorem Hj {P:Program} (Γ:Ty P) {o:Oper} {s:SS} {t:TypeId} {ti:TI} {et:TypeId} {len esz sz off:Nat} {x y:Operand} {ik:IntKind} {n:Int} {z:SV}
  (h:o.op=.indexAddr t x y) (ht:Γ.get t=some ti) (hk:ti.k=.array et len esz) (hx:ev s x=.ref sz z off) (hy:ev s y=.val (.int ik n)) (h0:0≤n) (hn:n.toNat<len) :
  Good P o s ⟨.ref sz z (off+n.toNat * esz),[],[]⟩ :=
 Good.pure fun κ a w _ hr _=>by
  have h1:=hr x (by simp[h,Op.operands])
  have h2:=hr y (by simp[h,Op.operands])
  rw[hx]at h1
  rw[hy]at h2
  simp only[Rd,RdD]at h1
  obtain ⟨b,oo,u,e1,e2,e3,e4,e5⟩:=h1
  obtain ⟨hu,i,q1,q2⟩:=O1 Γ ht hk
  refine⟨.pointer (some ⟨b,oo+off+n.toNat * esz,none⟩),?_,?_⟩
  ·simp only[execOp,h,e1,h2.val]
   simp[Lt w hu q1 q2 h0 hn]
  ·simp only[Rd,RdD]
   exact⟨b,oo,u,by rw[Nat.add_assoc],e2,e3,e4,e5⟩
theorem Tz {P:Program} (Γ:Ty P) {o:Oper} {s:SS} {t:TypeId} {ti:TI} {x y:Operand} {ik:IntKind} {n:Int} {b:ByteArray}
  (h:o.op=.index t x y) (ht:Γ.get t=some ti) (hk:ti.k=.string) (hx:ev s x=.val (.string b)) (hy:ev s y=.val (.int ik n)) (h0:0≤n) (hn:n.toNat<b.size) :
  Good P o s ⟨.val (.int .u8 (Ai b n.toNat).toNat),[],[]⟩ :=
 Good.pure fun κ a w _ hr _=>by
  have h1:=hr x (by simp[h,Op.operands])
  have h2:=hr y (by simp[h,Op.operands])
  rw[hx]at h1
  rw[hy]at h2
  obtain ⟨d,info,z,k1,k2,k3,k4,k5,k6⟩:=Γ.ok t ti ht
  rw[hk]at k2
  simp only[TK.ok]at k2
  subst k2
  have hg:b[n.toNat]? = some (Ai b n.toNat):=by
   have hn':n.toNat<b.data.toList.length:=hn
   rw[getElem?_pos b n.toNat hn]
   simp only[Ai,List.getD_eq_getElem?_getD,List.getElem?_eq_getElem hn',Option.getD_some,Option.some.injEq]
   rfl
  refine⟨.int .u8 (Ai b n.toNat).toNat,?_,by simp only[Rd]⟩
  simp[execOp,h,h1.val,h2.val,Instr.index,run_underlying k1,asIntOf,h0,hg]
def BndAt (s:SS) (x:Option Operand) (d n:Int):Prop:=(x=none∧n=d)∨∃ y k,x=some y∧ev s y=.val (.int k n)
theorem Ao2 {s:SS} {x:Option Operand} {d:Int} {K:Int→Prop} {stop:Prop} (h:bnd s x d K stop):(∃ n,BndAt s x d n∧K n)∨stop:=by
 unfold bnd at h
 split at h
 ·exact .inl ⟨d,.inl ⟨Y,Y⟩,h⟩
 ·split at h
  ·rename_i y _ k n hy
   exact .inl ⟨n,.inr ⟨y,k,Y,hy⟩,h⟩
  ·exact .inr h
theorem BndAt.is {s:SS} {x:Option Operand} {d n:Int} {m:Nat} (h:BndAt s x d n) (h0:0≤n) (hd:d.toNat=m):BoundIs s x m n.toNat:=by
 rcases h with ⟨rfl,rfl⟩ | ⟨y,k,rfl,hy⟩
 ·exact .inl ⟨Y,hd⟩
 ·exact .inr ⟨y,k,Y,by rw[hy,Int.toNat_of_nonneg h0]⟩
theorem Anp {P:Program} {Γ:TyE P} {o:Oper} {s:SS} {K:Up→Prop} {stop:Prop} (h:opW Γ o s K stop):(∃ U,Good P o s U∧K U)∨stop:=by
 cases hop:o.op with
 | move x =>
  simp only[opW,hop,U5]at h
  exact .inl ⟨_,Aae (.inl hop),h⟩
 | assign x =>
  simp only[opW,hop,U5]at h
  exact .inl ⟨_,Aae (.inr hop),h⟩
 | pick c a b =>
  simp only[opW,hop,U5]at h
  split at h
  ·rename_i cc hc
   cases cc
   ·exact .inl ⟨_,Aad hop hc,h⟩
   ·exact .inl ⟨_,Aad hop hc,h⟩
  ·exact .inr h
 | alloc t =>
  simp only[opW,hop,K9]at h
  split at h
  ·rename_i d hd
   split at h
   ·rename_i hf
    split at h
    ·rename_i i hi
     split at h
     ·rename_i h1
      exact .inl ⟨_,Ah5 Γ.toTy hop hf hi h1,h⟩
     ·exact .inr h
    ·exact .inr h
   ·exact .inr h
  ·exact .inr h
 | box t x =>
  simp only[opW,hop,K9]at h
  split at h
  ·rename_i d hd
   split at h
   ·rename_i hf
    split at h
    ·rename_i h1
     exact .inl ⟨_,Aoo hop hf h1,h⟩
    ·exact .inr h
   ·exact .inr h
  ·exact .inr h
 | load t x =>
  simp only[opW,hop,Aoq]at h
  split at h
  ·rename_i i hi
   split at h
   ·rename_i k off hx
    split at h
    ·rename_i l hk
     split at h
     ·rename_i y hy
      exact .inl ⟨_,Zg Γ.toTy hop hx hi hk hy,h⟩
     ·exact .inr h
    ·exact .inr h
   ·rename_i sz z off hx
    split at h
    ·rename_i hz
     split at h
     ·rename_i y hy
      exact .inl ⟨_,Zf Γ.toTy hop hx hi hz hy,h⟩
     ·exact .inr h
    ·exact .inr h
   ·rename_i k sz n off hx
    split at h
    ·rename_i sz' α e l hk
     obtain ⟨rfl,hn,h⟩:=h
     split at h
     ·rename_i hz
      split at h
      ·rename_i y hy
       have hne:l≠[]:=by intro he;subst he;simp at hn
       refine .inl ⟨_,Q2 (n:=l.length) (f:=rowF e l) Γ.toTy hop hx hi (fun κ w ho=>?_) ⟨hn,Y⟩ hz hy,h⟩
       rw[hk]at ho
       exact ho.rowAt hne
      ·exact h.elim
     ·exact h.elim
    ·rename_i sz' svs hk
     obtain ⟨rfl,h⟩:=h
     split at h
     ·rename_i z hz0
      split at h
      ·rename_i hz
       split at h
       ·rename_i y hy
        refine .inl ⟨_,Q2 (n:=svs.length) (f:=Zb svs) Γ.toTy hop hx hi (fun κ w ho=>?_) hz0 hz hy,h⟩
        rw[hk]at ho
        exact ho
       ·exact h.elim
      ·exact h.elim
     ·exact h.elim
    ·exact .inr h
   ·exact .inr h
  ·exact .inr h
 | store t x y =>
  simp only[opW,hop,K9]at h
  split at h
  ·rename_i i hi
   split at h
   ·rename_i k off hx
    split at h
    ·rename_i l hk
     split at h
     ·rename_i hc
      simp only[Bool.and_eq_true]at hc
      exact .inl ⟨_,Ov Γ.toTy hop hx hi hk hc.1.1 (Nat.eq_of_beq_eq_true hc.1.2) (Nat.le_of_ble_eq_true hc.2),h⟩
     ·exact .inr h
    ·exact .inr h
   ·rename_i k sz n off hx
    split at h
    ·rename_i sz' α e l hk
     obtain ⟨rfl,hn,z,hz,hc,h⟩:=h
     simp only[Bool.and_eq_true]at hc
     obtain ⟨⟨⟨⟨⟨c1,c2⟩,c3⟩,c4⟩,c5⟩,c6⟩:=hc
     exact .inl ⟨_,Ou Γ.toTy hop hx hi hk c1 (Nat.eq_of_beq_eq_true c2) (Nat.le_of_ble_eq_true c3) hn hz c4 c5 c6,h⟩
    ·exact .inr h
   ·exact .inr h
  ·exact .inr h
 | fieldAddr t x f =>
  simp only[opW,hop]at h
  split at h
  ·rename_i i hi
   split at h
   ·rename_i fs hk
    split at h
    ·rename_i fo fn hf
     split at h
     ·exact .inr h
     ·rename_i fn'
      split at h
      ·rename_i k off hx
       split at h
       ·rename_i l hb
        exact .inl ⟨_,E8 Γ.toTy hop hi hk hf z_ (.inl ⟨k,off,l,hx,hb,Y,Y⟩),h⟩
       ·exact .inr h
      ·rename_i sz z off hx
       exact .inl ⟨_,E8 Γ.toTy hop hi hk hf z_ (.inr (.inl ⟨sz,z,off,hx,Y,Y⟩)),h⟩
      ·rename_i k sz n off hx
       split at h
       ·rename_i sz' α e l hb
        obtain ⟨hne,h⟩:=h
        refine .inl ⟨_,E8 Γ.toTy hop hi hk hf z_ (.inr (.inr ⟨k,sz,n,off,hx,fun κ w ho=>?_,Y,Y⟩)),h⟩
        rw[hb]at ho
        obtain ⟨b,cap,_,_,_,e1,_⟩:=ho.rowAt hne
        exact⟨b,_,cap,e1⟩
       ·rename_i sz' svs hb
        refine .inl ⟨_,E8 Γ.toTy hop hi hk hf z_ (.inr (.inr ⟨k,sz,n,off,hx,fun κ w ho=>?_,Y,Y⟩)),h⟩
        rw[hb]at ho
        obtain ⟨b,cap,_,_,_,e1,_⟩:=ho
        exact⟨b,_,cap,e1⟩
       ·exact .inr h
      ·exact .inr h
    ·exact .inr h
   ·exact .inr h
  ·exact .inr h
 | nilCheck x =>
  simp only[opW,hop]at h
  split at h
  ·rename_i k off hx
   split at h
   ·rename_i l hb
    have:=Ec (P:=P) (rd:=[k]) hop (.inl ⟨k,off,l,hx,hb,rfl⟩)
    rw[hx]at this
    exact .inl ⟨_,this,h⟩
   ·exact .inr h
  ·rename_i sz z off hx
   have:=Ec (P:=P) (rd:=[]) hop (.inr (.inl ⟨sz,z,off,hx,rfl⟩))
   rw[hx]at this
   exact .inl ⟨_,this,h⟩
  ·rename_i fn first cap hx
   split at h
   ·rename_i f
    have:=Ec (P:=P) (rd:=[]) hop (.inr (.inr (.inl ⟨f,first,cap,hx,rfl⟩)))
    rw[hx]at this
    exact .inl ⟨_,this,h⟩
   ·exact .inr h
  ·exact .inr h
 | indexAddr t x y =>
  simp only[opW,hop]at h
  split at h
  ·rename_i i hi
   split at h
   ·rename_i et esz eb ez hk
    split at h
    ·rename_i ik n hy
     split at h
     ·rename_i sz α e l hx
      obtain ⟨rfl,h0,hn,h⟩:=h
      exact .inl ⟨_,Iq Γ.toTy hop hi hk hx hy h0 hn,h⟩
     ·rename_i k hx
      split at h
      ·rename_i len hl
       exact .inl ⟨_,H1 Γ.toTy hop hi hk hx hl hy h.1 h.2.1,h.2.2⟩
      ·exact .inr h
     ·exact .inr h
    ·exact .inr h
   ·rename_i et len esz hk
    split at h
    ·rename_i ik n hy
     split at h
     ·rename_i k off hx
      split at h
      ·rename_i l hl
       exact .inl ⟨_,Hk Γ.toTy hop hi hk hx hl hy h.1 h.2.1,h.2.2⟩
      ·exact .inr h
     ·rename_i sz z off hx
      exact .inl ⟨_,Hj Γ.toTy hop hi hk hx hy h.1 h.2.1,h.2.2⟩
     ·exact .inr h
    ·exact .inr h
   ·exact .inr h
  ·exact .inr h
 | binOp op t x y yt =>
  simp only[opW,hop]at h
  split at h
  ·rename_i k a k' b hx hy
   split at h
   ·exact Ago hop hx hy h
   ·split at h
    ·rename_i hkk
     subst hkk
     exact An9 hop hx hy h
    ·exact .inr h
  ·rename_i a b hx hy
   exact Amm hop hx hy h
  ·rename_i p q hx hy
   split at h
   ·rename_i i hi
    split at h
    ·rename_i hk
     split at h
     ·exact .inl ⟨_,T0 Γ.toTy hop (.inl Y) hi hk hx hy,h⟩
     ·exact .inl ⟨_,T0 Γ.toTy hop (.inr Y) hi hk hx hy,h⟩
     ·exact .inr h
    ·exact .inr h
   ·exact .inr h
  ·rename_i l m hx hy
   split at h
   ·rename_i ks hks
    split at h
    ·rename_i r hr
     split at h
     ·exact .inl ⟨_,Vv hop (.inl Y) (Γ.eqok t ks hks) hx hy hr,h⟩
     ·exact .inl ⟨_,Vv hop (.inr Y) (Γ.eqok t ks hks) hx hy hr,h⟩
     ·exact .inr h
    ·exact .inr h
   ·exact .inr h
  ·rename_i k off hx hy
   split at h
   ·rename_i l hb
    split at h
    ·rename_i i hi
     split at h
     ·rename_i hk
      split at h
      ·exact .inl ⟨_,Vu Γ.toTy hop (.inl Y) hi hk hy (.inl ⟨k,off,l,hx,hb,Y,Y⟩),h⟩
      ·exact .inl ⟨_,Vu Γ.toTy hop (.inr Y) hi hk hy (.inl ⟨k,off,l,hx,hb,Y,Y⟩),h⟩
      ·exact .inr h
     ·exact .inr h
    ·exact .inr h
   ·exact .inr h
  ·exact .inr h
 | unOp op t x =>
  simp only[opW,hop]at h
  split at h
  ·rename_i b hx
   exact .inl ⟨_,Aok hop hx,h⟩
  ·rename_i k n hx
   exact .inl ⟨_,Aol hop hx,h⟩
  ·exact .inr h
 | extract x i =>
  simp only[opW,hop,Aoq]at h
  split at h
  ·rename_i l hx
   split at h
   ·rename_i y hy
    exact .inl ⟨_,Ab0 hop hx hy,h⟩
   ·exact .inr h
  ·exact .inr h
 | convert src dst x =>
  simp only[opW,hop]at h
  split at h
  ·rename_i si di hs hd
   split at h
   ·rename_i k' k n hk hx
    exact .inl ⟨_,U3 Γ.toTy hop hs hd hk hx,h⟩
   ·rename_i b hk hx
    split at h
    ·rename_i hk'
     exact .inl ⟨_,Qo Γ.toTy hop hs hd hk' hk hx,h⟩
    ·exact .inr h
   ·exact .inr h
  ·exact .inr h
 | makeInterface t x =>
  simp only[opW,hop,U5]at h
  split at h
  ·rename_i i hi
   split at h
   ·exact .inr h
   ·exact .inr h
   ·exact .inr h
   ·rename_i h1 h2 h3
    refine .inl ⟨_,Ss Γ.toTy hop hi ?_,h⟩
    cases hk:i.k<;>first | rfl | (exact absurd hk h1) | (exact absurd hk h2) | (exact absurd hk (h3 _ _ _))
  ·exact .inr h
 | build t ps =>
  simp only[opW,hop,K9]at h
  split at h
  ·rename_i i hi
   split at h
   ·rename_i fs hk
    split at h
    ·rename_i h1
     split at h
     ·rename_i out hout
      exact .inl ⟨_,Ah4 (ps:=ps.toList) Γ.toTy (by rw[hop]) hi hk h1 hout,h⟩
     ·exact .inr h
    ·exact .inr h
   ·exact .inr h
  ·exact .inr h
 | buildSlice t len ps =>
  simp only[opW,hop,K9]at h
  split at h
  ·rename_i d hd
   split at h
   ·rename_i hf
    split at h
    ·rename_i i hi
     split at h
     ·rename_i et sz eb ez hk
      split at h
      ·rename_i xs hxs
       split at h
       ·rename_i hc
        simp only[Bool.and_eq_true]at hc
        exact .inl ⟨_,Wj (ps:=ps.toList) Γ.toTy (by rw[hop]) hf hi hk hxs (Nat.eq_of_beq_eq_true hc.1.1) (Nat.le_of_ble_eq_true hc.1.2) hc.2,h⟩
       ·exact .inr h
      ·exact .inr h
     ·exact .inr h
    ·exact .inr h
   ·exact .inr h
  ·exact .inr h
 | index t x y =>
  simp only[opW,hop]at h
  split at h
  ·rename_i i hi
   split at h
   ·rename_i hk
    split at h
    ·rename_i b hx
     split at h
     ·rename_i ik n hy
      exact .inl ⟨_,Tz Γ.toTy hop hi hk hx hy h.1 h.2.1,h.2.2⟩
     ·exact .inr h
    ·exact .inr h
   ·exact .inr h
  ·exact .inr h
 | slice t x lo hi mx =>
  simp only[opW,hop]at h
  split at h
  ·split at h
   ·rename_i i hi'
    split at h
    ·rename_i hk
     split at h
     ·rename_i b hx
      rcases Ao2 h with ⟨l,hl,h⟩ | h
      ·rcases Ao2 h with ⟨r,hr,h⟩ | h
       ·obtain ⟨⟨a1,a2,a3⟩,h⟩:=h
        exact .inl ⟨_,Tw (lo:=l.toNat) (hi:=r.toNat) Γ.toTy hop hi' hk hx (hl.is a1 Y) (hr.is z_ qe) z_ z_,h⟩
       ·exact .inr h
      ·exact .inr h
     ·exact .inr h
    ·exact .inr h
   ·exact .inr h
  ·exact .inr h
 | makeFunc fn first cap =>
  simp only[opW,hop,K9]at h
  exact .inl ⟨_,Ze (ys:=first.toList) (xs:=cap.toList) (by rw[hop]),h⟩
 | call c =>
  simp only[opW,hop]at h
  split at h
  ·rename_i hcal
   split at h
   ·rename_i x t r hargs hats
    have hc:c=⟨.builtin .len,#[x],c.argTypes⟩:=by
     obtain ⟨a,b,d⟩:=c
     simp only at hcal hargs ⊢
     have:b=#[x]:=by
      apply Array.ext'
      simpa using hargs
     rw[hcal,this]
    rw[hc]at hop
    have hat:c.argTypes[0]? = some t:=by
     rw[← Array.getElem?_toList,hats];rfl
    split at h
    ·rename_i i hi
     split at h
     ·rename_i et sz eb ez hk
      split at h
      ·rename_i z α e l hx
       exact .inl ⟨_,Yh Γ.toTy hop hat hi hk (.inl ⟨z,α,e,l,hx,Y,Y⟩),h⟩
      ·rename_i k hx
       split at h
       ·rename_i n hn
        exact .inl ⟨_,Yh Γ.toTy hop hat hi hk (.inr (.inl ⟨k,hx,hn,Y⟩)),h⟩
       ·exact .inr h
      ·rename_i a n cap hx
       exact .inl ⟨_,Yh Γ.toTy hop hat hi hk (.inr (.inr ⟨a,cap,hx,Y⟩)),h⟩
      ·exact .inr h
     ·rename_i hk
      split at h
      ·rename_i b hx
       exact .inl ⟨_,Wi Γ.toTy hop hat hi hk hx,h⟩
      ·exact .inr h
     ·exact .inr h
    ·exact .inr h
   ·exact .inr h
  ·exact .inr h
 | _=>simp only[opW,hop]at h;exact .inr h
theorem Ap8 {P:Program} {Γ:TyE P} {o:Oper} {s:SS} {K:Up→Prop} {stop:Prop} (h:opW Γ o s K stop):(∃ U,GoodX P o s U∧K U)∨stop:=by
 have hgen:(J1 o || Sq o)=false→(∃ U,GoodX P o s U∧K U)∨stop:=fun hn=>by
  rcases Anp h with ⟨U,hU,hk⟩ | h
  ·exact .inl ⟨U,.of hU hn,hk⟩
  ·exact .inr h
 cases hop:o.op with
 | indexAddr t x y =>
  have hst:Sq o=false:=by simp[Sq,hop]
  have hops:x∈o.op.operands∧y∈o.op.operands:=by simp[hop,Op.operands]
  simp only[opW,hop]at h
  split at h
  ·rename_i i hi
   split at h
   ·rename_i et esz eb ez hk
    split at h
    ·rename_i ik n hy
     split at h
     ·rename_i sz α e l hx
      obtain ⟨rfl,h0,hn,h⟩:=h
      exact .inl ⟨_,⟨(Iq Γ.toTy hop hi hk hx hy h0 hn).two,fun _=>⟨rfl,fun s' h1 h2=>Iq Γ.toTy hop hi hk ((h1 x hops.1).trans hx) ((h1 y hops.2).trans hy) h0 hn⟩,fun hc=>(by rw[hst]at hc;cases hc)⟩,h⟩
     ·rename_i k hx
      split at h
      ·rename_i len hl
       exact .inl ⟨_,⟨(H1 Γ.toTy hop hi hk hx hl hy h.1 h.2.1).two,fun _=>⟨rfl,fun s' h1 h2=>H1 Γ.toTy hop hi hk ((h1 x hops.1).trans hx) (Ob.shp_len (h2 k qe) hl) ((h1 y hops.2).trans hy) h.1 h.2.1⟩,fun hc=>(by rw[hst]at hc;cases hc)⟩,h.2.2⟩
      ·exact .inr h
     ·exact .inr h
    ·exact .inr h
   ·rename_i et len esz hk
    split at h
    ·rename_i ik n hy
     split at h
     ·rename_i k off hx
      split at h
      ·rename_i l hl
       exact .inl ⟨_,⟨(Hk Γ.toTy hop hi hk hx hl hy h.1 h.2.1).two,fun _=>⟨rfl,fun s' h1 h2=>(Ob.shp_box ((h2 k qe).trans (congrArg Ob.shp hl))).elim fun m hm=>Hk Γ.toTy hop hi hk ((h1 x hops.1).trans hx) hm ((h1 y hops.2).trans hy) h.1 h.2.1⟩,fun hc=>(by rw[hst]at hc;cases hc)⟩,h.2.2⟩
      ·exact .inr h
     ·rename_i sz z off hx
      exact .inl ⟨_,⟨(Hj Γ.toTy hop hi hk hx hy h.1 h.2.1).two,fun _=>⟨rfl,fun s' h1 h2=>Hj Γ.toTy hop hi hk ((h1 x hops.1).trans hx) ((h1 y hops.2).trans hy) h.1 h.2.1⟩,fun hc=>(by rw[hst]at hc;cases hc)⟩,h.2.2⟩
     ·exact .inr h
    ·exact .inr h
   ·exact .inr h
  ·exact .inr h
 | store t x y =>
  have hidx:J1 o=false:=by simp[J1,hop]
  simp only[opW,hop,K9]at h
  split at h
  ·rename_i i hi
   split at h
   ·rename_i k off hx
    split at h
    ·rename_i l hk
     split at h
     ·rename_i hc
      simp only[Bool.and_eq_true]at hc
      exact .inl ⟨_,⟨(Ov Γ.toTy hop hx hi hk hc.1.1 (Nat.eq_of_beq_eq_true hc.1.2) (Nat.le_of_ble_eq_true hc.2)).two,fun hc=>(by rw[hidx]at hc;cases hc),fun _ p hp=>by
       simp only[List.mem_singleton]at hp
       subst hp
       show (Ob.box _).shp=(s.h k).shp
       rw[hk];rfl⟩,h⟩
     ·exact .inr h
    ·exact .inr h
   ·rename_i k sz n off hx
    split at h
    ·rename_i sz' α e l hk
     obtain ⟨rfl,hn,z,hz,hc,h⟩:=h
     simp only[Bool.and_eq_true]at hc
     obtain ⟨⟨⟨⟨⟨c1,c2⟩,c3⟩,c4⟩,c5⟩,c6⟩:=hc
     exact .inl ⟨_,⟨(Ou Γ.toTy hop hx hi hk c1 (Nat.eq_of_beq_eq_true c2) (Nat.le_of_ble_eq_true c3) hn hz c4 c5 c6).two,fun hc=>(by rw[hidx]at hc;cases hc),fun _ p hp=>by
      simp only[List.mem_singleton]at hp
      subst hp
      show (Ob.row _ _ _).shp=(s.h k).shp
      rw[hk]
      simp[Ob.shp]⟩,h⟩
    ·exact .inr h
   ·exact .inr h
  ·exact .inr h
 | _=>exact hgen (by simp[J1,Sq,hop])
def Yd (idx:Nat):List Oper→Bool
 | []=>false
 | o::r=>(match o.guard with
  | some (j,_)=>Nat.beq j idx
  | none=>false) || Yd idx r
def Aqq (isg:Bool) (U:Up) (K K':Up→Prop):Prop :=
 match isg with
 | false=>K U
 | true=>(match U.v with
  | .val (.bool b)=>(b=true→K' ⟨.val (.bool true),U.rd,U.objs⟩)∧(b=false→K' ⟨.val (.bool false),U.rd,U.objs⟩)
  | _=>K U)
theorem Ajk {X:Up→Prop} {isg:Bool} {U:Up} {K K':Up→Prop} (hK:∀ U,K U→K' U) (hg:X U) (h:Aqq isg U K K'):∃ U',X U'∧K' U':=by
 unfold Aqq at h
 split at h
 ·exact⟨U,hg,hK _ h⟩
 ·split at h
  ·rename_i b hb
   obtain ⟨v,rd,objs⟩:=U
   simp only at hb
   subst hb
   cases b
   ·exact⟨_,hg,h.2 Y⟩
   ·exact⟨_,hg,h.1 Y⟩
  ·exact⟨U,hg,hK _ h⟩
def E7 (n:Nat) (all:Array Oper) (o:Oper) (s:SS):Option Bool :=
 match o.guard with
 | none=>some true
 | some (j,want)=>(match (all[j]?).bind (·.dst) with
  | some d=>(match Nat.blt d n with
   | true=>(match s.σ d with
    | .val (.bool c)=>(match c with
     | true=>some want
     | false=>(match want with | true=>some false | false=>some true))
    | .val (.tuple a)=>(match a.toList with | []=>some false | _=>none)
    | _=>none)
   | false=>none)
  | none=>none)
theorem D5 {n:Nat} {all:Array Oper} {o:Oper} {s:SS} {b:Bool} (h:E7 n all o s=some b):S0 all s o.guard b∧∀ j want,o.guard=some (j,want)→∀ d,((all[j]?).bind (·.dst))=some d→d<n:=by
 unfold E7 at h
 cases hg:o.guard with
 | none =>
  rw[hg]at h
  simp only[Option.some.injEq]at h
  exact⟨h.symm,fun j want hh=>by cases hh⟩
 | some p =>
  obtain ⟨j,want⟩:=p
  rw[hg]at h
  simp only at h
  split at h
  ·rename_i d hd
   split at h
   ·rename_i hlt
    refine⟨⟨d,hd,?_⟩,fun j' want' hh d' hd'=>?_⟩
    ·split at h
     ·rename_i c hc
      left
      refine⟨c,hc,?_⟩
      cases c
      ·cases want<;>simp_all
      ·simp_all
     ·rename_i a ha
      split at h
      ·rename_i he
       right
       have:a=#[]:=by simpa using he
       subst this
       simp only[Option.some.injEq]at h
       exact⟨ha,h.symm⟩
      ·cases h
     ·cases h
    ·simp only[Option.some.injEq,Prod.mk.injEq]at hh
     obtain ⟨rfl,rfl⟩:=hh
     rw[hd]at hd'
     simp only[Option.some.injEq]at hd'
     subst hd'
     exact Nat.le_of_ble_eq_true hlt
   ·cases h
  ·cases h
def Q6 (n:Nat) (o:Oper):Bool:=match o.dst with | some d=>Nat.blt d n | none=>true
mutual
def Ks (C:Cx) (Γ:TyE C.P):Nat→List KI→SS→Prop
 | 0,k,s=>G C k s
 | n+1,k,s=>(match k with
  | []=>G C [] s
  | .blk _::k=>Ks C Γ n k s
  | .inv I::k=>G C (.inv I::k) s
  | .scp::k=>Ks C Γ n k s
  | .ops _ []::k=>Ks C Γ n k s
  | .ops all (o::rest)::k=>(match Q6 C.n o with
   | true=>(match E7 C.n all o s with
    | some true=>opW Γ o s (fun U=>Aqq (Yd (all.size-rest.length-1) rest) U (fun U=>Ks C Γ n (.ops all rest::k) (s.upd o.dst U)) (fun U=>G C (.ops all rest::k) (s.upd o.dst U))) (G C (.ops all (o::rest)::k) s)
    | some false=>Ks C Γ n (.ops all rest::k) (s.upd o.dst ⟨.val undef,[],[]⟩)
    | none=>G C (.ops all (o::rest)::k) s)
   | false=>G C (.ops all (o::rest)::k) s)
  | .code c::k=>(match c with
   | .skip=>Ks C Γ n k s
   | .seq x y=>Ks C Γ n (.code x::.code y::k) s
   | .block id c=>Ks C Γ n (.code c::.blk id::k) s
   | .scope c=>Ks C Γ n (.code c::.scp::k) s
   | .label _=>Ks C Γ n k s
   | .region id ops draw=>(match draw with
    | false=>Ks C Γ n (.ops ops ops.toList::k) s
    | true=>(match Aii C.n ops.toList with
     | true=>T5 C Γ n k ops [] ops.toList s
     | false=>G C (.code (.region id ops true)::k) s))
   | .cond c x y=>(match ev s c with
    | .val (.bool b)=>(b=true→G C (.code x::k) s)∧(b=false→G C (.code y::k) s)
    | _=>G C (.code (.cond c x y)::k) s)
   | .exit id=>(match Q5 id k with
    | some k'=>Ks C Γ n k' s
    | none=>G C (.code (.exit id)::k) s)
   | c=>G C (.code c::k) s))
def T5 (C:Cx) (Γ:TyE C.P):Nat→List KI→Array Oper→List Stp→List Oper→SS→Prop
 | 0,k,all,done,rest,s=>DR C k all done rest s
 | n+1,k,all,done,rest,s=>(match rest with
  | []=>Aca all done=true∧Ks C Γ n k s
  | o::rest=>(match E7 C.n all o s with
   | some true=>opW Γ o s (fun U=>Aqq (Yd (all.size-rest.length-1) rest) U (fun U=>T5 C Γ n k all (done++[⟨done.length,o,U,true⟩]) rest (s.upd o.dst U)) (fun U=>DR C k all (done++[⟨done.length,o,U,true⟩]) rest (s.upd o.dst U))) (DR C k all done (o::rest) s)
   | some false=>T5 C Γ n k all (done++[⟨done.length,o,⟨.val undef,[],[]⟩,false⟩]) rest (s.upd o.dst ⟨.val undef,[],[]⟩)
   | none=>DR C k all done (o::rest) s))
end
theorem Ym {n:Nat} {o:Oper} (h:Q6 n o=true):∀ d,o.dst=some d→d<n:=fun d hd=>by
 unfold Q6 at h
 rw[hd]at h
 exact Nat.le_of_ble_eq_true h
theorem Ao3 {all:Array Oper} {done:List Stp} {o:Oper} {rest:List Oper} (h:all.toList=done.map (·.o)++o::rest):all[done.length]? = some o:=by
 rw[← Array.getElem?_toList,h,List.getElem?_append_right qe]
 simp
theorem Ajl {C:Cx} {Γ:TyE C.P} (hm:C.P.follows .mixedOrders=true):∀ n,(∀ k s,Ks C Γ n k s→G C k s)∧(∀ k all done rest s,all.toList=done.map (·.o)++rest→T5 C Γ n k all done rest s→DR C k all done rest s):=by
 intro n
 induction n with
 | zero=>exact⟨fun k s h=>(by simpa only [Ks] using h),fun k all done rest s _ h=>(by simpa only [T5] using h)⟩
 | succ n ih =>
  obtain ⟨ih1,ih2⟩:=ih
  constructor
  ·intro k s h
   simp only[Ks]at h
   split at h
   ·exact h
   ·exact G_blk (ih1 _ _ h)
   ·exact h
   ·exact G_scp (ih1 _ _ h)
   ·exact Ama (ih1 _ _ h)
   ·rename_i all o rest k'
    split at h
    ·rename_i hd
     have hd':=Ym hd
     split at h
     ·rename_i hg
      obtain ⟨w1,w2⟩:=D5 hg
      rcases Anp h with ⟨U,hU,hk⟩ | h
      ·obtain ⟨U',hU',hk'⟩:=Ajk (X:=Good C.P o s) (fun U hu=>ih1 _ _ hu) hU hk
       exact G_op hU' (fun κ a w hs=>O5 hs w2 w1) hd' hk'
      ·exact h
     ·rename_i hg
      obtain ⟨w1,w2⟩:=D5 hg
      exact Amb (fun κ a w hs=>O5 hs w2 w1) hd' (ih1 _ _ h)
     ·exact h
    ·exact h
   ·rename_i c k'
    split at h
    ·exact G_skip (ih1 _ _ h)
    ·exact G_seq (ih1 _ _ h)
    ·exact Aq5 (ih1 _ _ h)
    ·exact Aq2 (ih1 _ _ h)
    ·exact Aq3 (ih1 _ _ h)
    ·split at h
     ·exact Apg (ih1 _ _ h)
     ·split at h
      ·rename_i hd
       exact G_draw hm hd (ih2 _ _ _ _ _ qe h)
      ·exact h
    ·split at h
     ·rename_i b hc
      exact G_cond hc h.1 h.2
     ·exact h
    ·split at h
     ·rename_i hx
      exact G_exit hx (ih1 _ _ h)
     ·exact h
    ·exact h
  ·intro k all done rest s hsplit h
   simp only[T5]at h
   split at h
   ·exact DR_nil h.1 (ih1 _ _ h.2)
   ·rename_i o rest
    have hi:=Ao3 hsplit
    split at h
    ·rename_i hg
     obtain ⟨w1,w2⟩:=D5 hg
     rcases Ap8 h with ⟨U,hU,hk⟩ | h
     ·obtain ⟨U',hU',hk'⟩:=Ajk (X:=GoodX C.P o s) (fun U hu=>ih2 _ _ _ _ _ (by simp[hsplit]) hu) hU hk
      exact Apj U' hU' hi w1 hk'
     ·exact h
    ·rename_i hg
     obtain ⟨w1,w2⟩:=D5 hg
     exact Aq6 hi w1 (ih2 _ _ _ _ _ (by simp[hsplit]) h)
    ·exact h
theorem aF {p q:Prop} (h:q):(false=true→p)∧(false=false→q):=⟨fun e=>(Bool.false_ne_true e).elim,fun _=>h⟩
theorem aT {p q:Prop} (h:p):(true=true→p)∧(true=false→q):=⟨fun _=>h,fun e=>(Bool.false_ne_true e.symm).elim⟩
theorem run {C:Cx} {k:List KI} {s:SS} (Γ:TyE C.P) (hm:C.P.follows .mixedOrders=true) (n:Nat) (h:Ks C Γ n k s):G C k s:=(Ajl hm n).1 k s h
theorem runD {C:Cx} {k:List KI} {s:SS} {all:Array Oper} {done:List Stp} {rest:List Oper} (Γ:TyE C.P) (hm:C.P.follows .mixedOrders=true) (n:Nat) (hs:all.toList=done.map (·.o)++rest) (h:T5 C Γ n k all done rest s):DR C k all done rest s :=
 (Ajl hm n).2 k all done rest s hs h
theorem rG {C:Cx} {k:List KI} {s:SS} (Γ:TyE C.P) (hm:C.P.follows .mixedOrders=true) (h:Ks C Γ 400 k s):G C k s:=run Γ hm 400 h
theorem rD {C:Cx} {k:List KI} {s:SS} {all:Array Oper} {done:List Stp} {rest:List Oper} (Γ:TyE C.P) (hm:C.P.follows .mixedOrders=true) (hs:all.toList=done.map (·.o)++rest) (h:T5 C Γ 400 k all done rest s):DR C k all done rest s:=runD Γ hm 400 hs h
theorem C0 {C:Cx} {k:List KI} {s:SS} {all:Array Oper} {o:Oper} {rest:List Oper} {U:Up} (hg:Good C.P o s U) (hd:Q6 C.n o=true) (hw:E7 C.n all o s=some true) (h:G C (.ops all rest::k) (s.upd o.dst U)):G C (.ops all (o::rest)::k) s :=
 G_op hg (fun _ _ _ hs=>O5 hs (D5 hw).2 (D5 hw).1) (Ym hd) h
theorem Kd {C:Cx} {k:List KI} {s:SS} {all:Array Oper} {done:List Stp} {o:Oper} {rest:List Oper} {U:Up} (hg:Good C.P o s U) (hi:all[done.length]? = some o) (hw:E7 C.n all o s=some true)
  (h:DR C k all (done++[⟨done.length,o,U,true⟩]) rest (s.upd o.dst U)) (hn:(J1 o || Sq o)=false:=by rfl):DR C k all done (o::rest) s:=Apj U (.of hg hn) hi (D5 hw).1 h
theorem done {P:Program} {fn:Func} {F:Fr} {R:SV} {H':Obs} {Γ:Ty P} {n:Nat} {bn:List Nat} {hbn:∀ k,F.k0 k≠.new→k∈bn} {k:List KI} {s:SS} {rs:List ResultVar} (hf:fn.results=rs.toArray) {xs:List SV} (hx:ResVs Γ.get s rs xs)
  (ρ:List (Nat × Nat)) (L:Obs) (hL:∀ p∈H',p∈L) (hR:R.ren (Bs ρ)=Afc xs) (hRn:R.inn L.keys=true) (hsub:Sub ⟨P,Γ,F,n,Wk P fn F R H',bn,hbn⟩ s ρ [] L):G ⟨P,Γ,F,n,Wk P fn F R H',bn,hbn⟩ (.code .ret::k) s :=
 Arg fun _ _ _ hs=>(Ai9 hf hx ρ L hL hR hRn hsub hs).1
theorem C3 {P:Program} {fn:Func} {F:Fr} {R:SV} {H':Obs} {Γ:Ty P} {n:Nat} {bn:List Nat} {hbn:∀ k,F.k0 k≠.new→k∈bn} {s:SS} {rs:List ResultVar} (hf:fn.results=rs.toArray) {xs:List SV} (hx:ResVs Γ.get s rs xs)
  (ρ:List (Nat × Nat)) (L:Obs) (hL:∀ p∈H',p∈L) (hR:R.ren (Bs ρ)=Afc xs) (hRn:R.inn L.keys=true) (hsub:Sub ⟨P,Γ,F,n,Wk P fn F R H',bn,hbn⟩ s ρ [] L):G ⟨P,Γ,F,n,Wk P fn F R H',bn,hbn⟩ [] s :=
 G_nil fun _ _ _ hs=>(Ai9 hf hx ρ L hL hR hRn hsub hs).2
theorem Ar {P:Program} {fn:Func} {F:Fr} {R:SV} {Γ:Ty P} {n:Nat} {hbn:∀ k,F.k0 k≠.new→k∈[]} {k:List KI} {s:SS} {rs:List ResultVar} (hf:fn.results=rs.toArray) {xs:List SV} (hx:ResVs Γ.get s rs xs)
  (hR:R=Afc xs) (hRn:R.inn []=true):G ⟨P,Γ,F,n,Wk P fn F R [],[],hbn⟩ (.code .ret::k) s:=by
 have hid:∀ x:SV,x.ren (Bs [])=x:=fun x=>B7 x
 exact done hf hx [] [] (fun _ h=>h) (by rw[hid];exact hR) hRn ⟨q_,q_,Y,Y⟩
def fieldsOf (P:Program):List Field→Option (List (Nat × Nat))
 | []=>some []
 | f::fs=>match P.info? f.type,fieldsOf P fs with
  | some i,some r=>some ((f.offset,i.size)::r)
  | _,_=>none
theorem Vz {P:Program}:∀ {fs:List Field} {r:List (Nat × Nat)},fieldsOf P fs=some r→Eu P fs r
 | [],r,h=>by simp only[fieldsOf,Option.some.injEq]at h;subst h;trivial
 | f::fs,r,h=>by
  simp only[fieldsOf]at h
  split at h
  ·rename_i i q hi hq
   simp only[Option.some.injEq]at h
   subst h
   exact⟨Y,by rw[hi];rfl,Vz hq⟩
  ·cases h
def tkOf (P:Program) (d:TypeDesc):Option TK :=
 match d with
 | .bool=>some .bool
 | .int k=>some (.int k)
 | .string=>some .string
 | .slice e=>(match P.info? e with
  | some i=>(match i.zero with
   | some z=>some (.slice e i.size i.bytes z.cells.toList)
   | none=>none)
  | none=>none)
 | .struct fs=>(match fieldsOf P fs.toList with
  | some r=>some (.struct r)
  | none=>none)
 | .array len e=>(match P.info? e with
  | some i=>some (.array e len i.size)
  | none=>none)
 | .pointer _=>some .ptr
 | .interface _=>some .iface
 | .func _ _ _=>some .func
 | _=>none
theorem Apm {P:Program} {d:TypeDesc} {k:TK} (h:tkOf P d=some k):TK.ok P d k:=by
 unfold tkOf at h
 split at h
 ·cases h;rfl
 ·cases h;rfl
 ·cases h;rfl
 ·split at h
  ·rename_i i hi
   split at h
   ·rename_i z hz
    cases h
    exact⟨Y,i,z,hi,Y,Y,hz,Y⟩
   ·cases h
  ·cases h
 ·split at h
  ·rename_i r hr
   cases h
   exact⟨_,Y,Vz hr⟩
  ·cases h
 ·split at h
  ·rename_i i hi
   cases h
   exact⟨Y,i,hi,Y⟩
  ·cases h
 ·cases h;exact⟨_,rfl⟩
 ·cases h;exact⟨_,rfl⟩
 ·cases h;exact⟨_,_,_,rfl⟩
 ·cases h
def Cg (P:Program) (t:TypeId):Option TI :=
 match P.underlying t,P.info? t with
 | some d,some info=>(match tkOf P d,info.zero with
  | some k,some z=>some ⟨k,info.size,z.cells.toList⟩
  | _,_=>none)
 | _,_=>none
theorem Apn {P:Program} {t:TypeId} {i:TI} (h:Cg P t=some i):i.ok P t:=by
 unfold Cg at h
 split at h
 ·rename_i d info hd hi
  split at h
  ·rename_i k z hk hz
   cases h
   exact⟨d,info,z,hd,Apm hk,hi,Y,hz,Y⟩
  ·cases h
 ·cases h
inductive Tr (α:Type) | lf | nd (k:Nat) (v:α) (l r:Tr α)
def Tr.look {α:Type} (t:Nat):Tr α→Option α
 | .lf=>none
 | .nd k v l r=>bif Nat.beq t k then some v else bif Nat.blt t k then l.look t else r.look t
def Tr.all {α:Type} (p:Nat→α→Prop):Tr α→Prop
 | .lf=>True
 | .nd k v l r=>p k v∧l.all p∧r.all p
theorem Tr.look_ok {α:Type} {p:Nat→α→Prop} {t:Nat} {v:α}:∀ {T:Tr α},T.all p→T.look t=some v→p t v
 | .lf,_,h=>by cases h
 | .nd k u l r,ha,h=>by
  simp only[Tr.look,Bool.cond_eq_ite]at h
  split at h
  ·rename_i hb
   have:=Nat.eq_of_beq_eq_true hb
   subst this
   simp only[Option.some.injEq]at h
   subst h
   exact ha.1
  ·split at h
   ·exact Tr.look_ok ha.2.1 h
   ·exact Tr.look_ok ha.2.2 h
def ekOf (P:Program) (t:TypeId):Option EK :=
 match P.underlying t with
 | some (.int k)=>some (.int k)
 | some .bool=>some .bool
 | some .string=>some .string
 | _=>none
def Ae6 (P:Program):Nat→List Field→Option (List EK)
 | _,[]=>some []
 | i,f::fs=>match ekOf P f.type,Ae6 P (i+1) fs with
  | some k, some r => if f.name ≠ "_" ∧ f.offset = i then some (k :: r) else none
  | _,_=>none
theorem Ae5 {P:Program}:∀ {fs:List Field} {i:Nat} {r:List EK},Ae6 P i fs=some r→Aie P i fs r
 | [],i,r,h=>by simp only[Ae6,Option.some.injEq]at h;subst h;trivial
 | f::fs,i,r,h=>by
  simp only[Ae6]at h
  split at h
  ·rename_i k q hk hq
   split at h
   ·rename_i hc
    cases h
    refine⟨hc.1,hc.2,?_,Ae5 hq⟩
    unfold ekOf at hk
    split at hk<;>first | (cases hk;assumption) | cases hk
   ·cases h
  ·cases h
def Yk (P:Program) (t:TypeId):Option (List EK) :=
 match P.underlying t with
 | some (.struct fs)=>if P.stoodInHeld t=false∧P.eqGuardType P.depth t=false then Ae6 P 0 fs.toList else none
 | _=>none
theorem Aos {P:Program} {t:TypeId} {r:List EK} (h:Yk P t=some r):EqOK P t r:=by
 unfold Yk at h
 split at h
 ·rename_i fs hfs
  split at h
  ·rename_i hc
   have hf:P.fieldsOf t=fs:=by simp[Program.fieldsOf,hfs]
   exact⟨by rw[hf];exact hfs,hc.1,hc.2,by rw[hf];exact Ae5 h⟩
  ·cases h
 ·cases h
def Yq (fn:Func):Code:=fn.body.getD .skip
end Go.Sy
namespace Go.Sy
def Ael {α:Type 1}:List α→Nat→Bool
 | [],_=>true
 | _::_,0=>false
 | _::l,n+1=>Ael l n
theorem X3 {α:Type 1}:∀ {l:List α} {n:Nat},Ael l n=true→l.length≤n
 | [],_,_=>Nat.zero_le _
 | _::_,0,h=>by cases h
 | _::l,n+1,h=>Nat.succ_le_succ (X3 (l:=l) h)
theorem Ht {P:Program} (Γ:TyE P) (hm:P.follows .mixedOrders=true) (N:Nat) {f:FuncId} {fn:Func} {c:Code} {A:List SV} {H:Obs} {R:SV} {H':Obs} (hF:Fun P f fn c) {n:Nat} (hn':fn.ntmps=n) (hn:Ael A n=true)
  (h:∀ (F:Fr) (hF:∀ k,F.k0 k≠.new→k∈H.keys),Ks ⟨P,Γ.toTy,F,n,Wk P fn F R H',H.keys,hF⟩ Γ N [.code c] ⟨argσ A,mkh H⟩):Sy.Spec P f A H R H' :=
 Aj4 Γ.toTy hF.1 hF.2 hn' (X3 hn) fun F hF=>run Γ hm N (h F hF)
variable {C:Cx} {k:List KI} {s:SS}
theorem Mq {all:Array Oper} {o:Oper} {rest:List Oper} {f:FuncId} {fn:Func} {c:Code} {xs:List Operand} {ts:Array TypeId} {A:List SV} {R:SV} (hs:Sy.Spec C.P f A [] R []) (hf:Fun C.P f fn c) (h:o.op=.call ⟨.value (.func f),xs.toArray,ts⟩)
  (hA:A=xs.map (ev s)) (hok:(C6 [] A && R.inn [])=true) (hd:Q6 C.n o=true) (hw:E7 C.n all o s=some true) (hg:G C (.ops all rest::k) (s.upd o.dst ⟨R,[],[]⟩)):G C (.ops all (o::rest)::k) s:=by
 have hid:∀ x:SV,x.ren (Bs [])=x:=fun x=>B7 x
 have hidL:∀ x:List SV,Kq (Bs []) x=x:=fun x=>J2 x
 have:=Af (s:=s) (o:=o) [] h hf hs (by rw[hidL];exact hA) trivial (by simp_all[U7,Ta,Afz,Obs.keys]) trivial
 rw[hid]at this
 exact C0 this hd hw hg
theorem Ao1 {all:Array Oper} {done:List Stp} {o:Oper} {rest:List Oper} {f:FuncId} {fn:Func} {c:Code} {xs:List Operand} {ts:Array TypeId} {A:List SV} {R:SV} (hs:Sy.Spec C.P f A [] R []) (hf:Fun C.P f fn c) (h:o.op=.call ⟨.value (.func f),xs.toArray,ts⟩)
  (hA:A=xs.map (ev s)) (hok:(C6 [] A && R.inn [])=true) (hi:all[done.length]? = some o) (hw:E7 C.n all o s=some true) (hg:DR C k all (done++[⟨done.length,o,⟨R,[],[]⟩,true⟩]) rest (s.upd o.dst ⟨R,[],[]⟩)):DR C k all done (o::rest) s:=by
 have hid:∀ x:SV,x.ren (Bs [])=x:=fun x=>B7 x
 have hidL:∀ x:List SV,Kq (Bs []) x=x:=fun x=>J2 x
 have:=Af (s:=s) (o:=o) [] h hf hs (by rw[hidL];exact hA) trivial (by simp_all[U7,Ta,Afz,Obs.keys]) trivial
 rw[hid]at this
 exact Kd this hi hw hg (by simp[J1,Sq,h])
def Jz (P:Program) (f:FuncId) (A:List SV) (R:SV):Prop:=(∃ fn c,Fun P f fn c)∧Sy.Spec P f A [] R []
theorem call0E {all:Array Oper} {o:Oper} {rest:List Oper} {f:FuncId} {B A:List SV} {R:SV} (hE:Yw C.P o s [] f B) (hs:Sy.Spec C.P f A [] R [])
  (hA:A=B) (hok:(C6 [] A && R.inn [])=true) (hd:Q6 C.n o=true) (hw:E7 C.n all o s=some true) (hg:G C (.ops all rest::k) (s.upd o.dst ⟨R,[],[]⟩)):G C (.ops all (o::rest)::k) s:=by
 have hid:∀ x:SV,x.ren (Bs [])=x:=fun x=>B7 x
 have hidL:∀ x:List SV,Kq (Bs []) x=x:=fun x=>J2 x
 have:=Ax (s:=s) (o:=o) [] hE hs (by rw[hidL];exact hA) trivial (by simp_all[U7,Ta,Afz,Obs.keys]) trivial
 rw[hid]at this
 exact C0 this hd hw hg
theorem Jq {all:Array Oper} {o:Oper} {rest:List Oper} {f:FuncId} {x:Operand} {xs:List Operand} {ts:Array TypeId} {first cap A:List SV} {R:SV} (hs:Jz C.P f A R) (h:o.op=.call ⟨.value x,xs.toArray,ts⟩) (hx:ev s x=.clo (.func f) first cap)
  (hA:A=first++xs.map (ev s)++cap) (hok:(C6 [] A && R.inn [])=true) (hd:Q6 C.n o=true) (hw:E7 C.n all o s=some true) (hg:G C (.ops all rest::k) (s.upd o.dst ⟨R,[],[]⟩)):G C (.ops all (o::rest)::k) s:=by
 obtain ⟨⟨fn,c,hf⟩,hs⟩:=hs
 exact call0E (A0 h hx hf) hs hA hok hd hw hg
end Go.Sy
namespace Go.Sy
def Afq (C:Cx) (n:Nat) (L:Nat→List (Nat × SV)) (O:Nat→Obs) (i:Nat) (a:Act) (w:World):Prop :=
 ∃ x':{j:Nat // j≤n},∃ κ,n-x'.1<n-i∧St C.F C.n (mkS (L x'.1) (O x'.1)) κ a w
theorem Dz {C:Cx} {k:List KI} {s:SS} {body:Code} (n:Nat) (L:Nat→List (Nat × SV)) (O:Nat→Obs) (ρ:List (Nat × Nat)) (hsub:Sub C s ρ (L 0) (O 0))
  (h:∀ i,i≤n→G C (.code body::.inv (Afq C n L O i)::k) (mkS (L i) (O i))):G C (.code (.loop body)::k) s :=
 Aiy (α:={j:Nat // j≤n}) (fun x=>L x.1) (fun x=>O x.1) (fun x=>n-x.1) ⟨0,Nat.zero_le _⟩ ρ hsub (fun x=>h x.1 x.2)
theorem D3 {C:Cx} {k:List KI} {s:SS} {n:Nat} {L:Nat→List (Nat × SV)} {O:Nat→Obs} {i:Nat} (ρ:List (Nat × Nat)) (hi:i+1≤n) (hsub:Sub C s ρ (L (i+1)) (O (i+1))):G C (.inv (Afq C n L O i)::k) s :=
 Arh (α:={j:Nat // j≤n}) (L:=fun x=>L x.1) (O:=fun x=>O x.1) (μ:=fun x=>n-x.1) (x:=⟨i,by omega⟩) ⟨i+1,hi⟩ ρ (by simp only;omega) hsub
inductive SrcT {α:Type} (s:SS) (sz:Nat) (e:α→SV):SV→List Nat→List α→Prop
 | sl {l:List α}:SrcT s sz e (.sl sz e l) [] l
 | row {k:Nat} {l:List α} (h:s.h k=.row sz e l):SrcT s sz e (.osl k) [k] l
 | lit {k:Nat} {l:List α} {svs:List SV} (h:s.h k=.lit sz svs) (hl:l.map e=svs):SrcT s sz e (.osl k) [k] l
 | nil:SrcT s sz e (.val (.slice none 0 0)) [] []
inductive BaseT {α:Type} (s:SS) (sz:Nat) (e:α→SV):SV→Option Nat→List α→Prop
 | nil:BaseT s sz e (.val (.slice none 0 0)) none []
 | row {k:Nat} {l:List α} (h:s.h k=.row sz e l):BaseT s sz e (.osl k) (some k) l
 | lit {k:Nat} {l:List α} {svs:List SV} (h:s.h k=.lit sz svs) (hl:l.map e=svs):BaseT s sz e (.osl k) (some k) l
theorem SrcT.src {α:Type} {s:SS} {sz:Nat} {e:α→SV} {x:SV} {ks:List Nat} {m:List α} (h:SrcT s sz e x ks m):∃ g,AppSrc s sz x ks m.length g∧∀ i x,rowF e m i x→g i x:=by
 cases h with
 | sl=>exact⟨_,.sl,fun _ _ h=>h⟩
 | row h=>exact⟨_,.row h,fun _ _ h=>h⟩
 | @lit k _ svs h hl=>exact⟨Zb svs,by have:=AppSrc.lit (sz:=sz) h;rwa [← hl,List.length_map,hl]at this,fun i x hx=>S8 hl i x hx⟩
 | nil=>exact⟨_,.nil,fun i x hx=>by obtain ⟨h,_⟩:=hx;simp at h⟩
theorem BaseT.base {α:Type} {s:SS} {sz:Nat} {e:α→SV} {x:SV} {k:Option Nat} {m:List α} (h:BaseT s sz e x k m):∃ g,AppBase s sz x k m.length g∧∀ i x,rowF e m i x→g i x:=by
 cases h with
 | row h=>exact⟨_,.row h,fun _ _ h=>h⟩
 | @lit k _ svs h hl=>exact⟨Zb svs,by have:=AppBase.lit (sz:=sz) h;rwa [← hl,List.length_map,hl]at this,fun i x hx=>S8 hl i x hx⟩
 | nil=>exact⟨_,.nil,fun i x hx=>by obtain ⟨h,_⟩:=hx;simp at h⟩
theorem Ak {P:Program} (Γ:Ty P) {o:Oper} {s:SS} (d:Nat) {α:Type} {e:α→SV} {l m:List α} {t:TypeId} {ti:TI} {et:TypeId} {sz eb:Nat} {ez:List Value} {x y:Operand} {k:Option Nat} {ks:List Nat}
  (h:o.op=.call ⟨.builtin .append,#[x,y],#[t,t]⟩) (hd:s.h d=.fresh) (ht:Γ.get t=some ti) (hk:ti.k=.slice et sz eb ez) (hez:ez.length=sz)
  (hb:BaseT s sz e (ev s x) k l) (hs:SrcT s sz e (ev s y) ks m) (hkk:∀ j,k=some j→j≠d) (hbytes:(l.length+m.length) * eb≤140737488355328) (h63:l.length+m.length≤9223372036854775807) :
  Good P o s ⟨.osl d,ks,Mf k d (.row sz e (l++m))⟩:=by
 obtain ⟨f,hb,hf⟩:=hb.base
 obtain ⟨g,hs,hg⟩:=hs.src
 exact Vx Γ h hd ht hk hez hb hs hkk hbytes h63 fun κ w hr=>Ao4 hr qe (Amt hf hg)
theorem Dx {P:Program} (Γ:Ty P) {o:Oper} {s:SS} {src dst:TypeId} {si di ei:TI} {x:Operand} {et:TypeId} {eb:Nat} {ez:List Value} {ks:List Nat} {bs:List UInt8} (h:o.op=.convert src dst x)
  (hs:Γ.get src=some si) (hsk:si.k=.slice et 1 eb ez) (he:Γ.get et=some ei) (hek:ei.k=.int .u8) (hd:Γ.get dst=some di) (hdk:di.k=.string) (hx:SrcT s 1 Bn (ev s x) ks bs) :
  Good P o s ⟨Ad ⟨bs.toArray⟩,ks,[]⟩:=by
 obtain ⟨g,hx,hg⟩:=hx.src
 exact T1 Γ bs h hs hsk he hek hd hdk hx Y (fun i hi=>hg i _ ⟨hi,Y⟩)
mutual
def frz (d:Nat) (x:SV):SV→SV
 | .osl k=>bif Nat.beq k d then x else .osl k
 | .agg l=>.agg (Zi d x l)
 | .tup l=>.tup (Zi d x l)
 | .ifc t y=>.ifc t (frz d x y)
 | .clo f g l=>.clo f (Zi d x g) (Zi d x l)
 | y=>y
def Zi (d:Nat) (x:SV):List SV→List SV
 | []=>[]
 | y::l=>frz d x y::Zi d x l
end
mutual
theorem Ab2 {κ κ':Ka} {w:World} {K:Nat→Prop} {d:Nat} {x:SV} (st:Step K κ w κ' w) (hx:∀ v,Rd κ w (.osl d) v→Rd κ' w x v):∀ (y:SV) (v:Value),Rd κ w y v→Rd κ' w (frz d x y) v
 | .osl k,v,h=>by
  unfold frz
  by_cases hk:k=d
  ·subst hk;rw[show Nat.beq k k=true from Nat.beq_refl k];exact hx v h
  ·rw[show Nat.beq k d=false from by cases hb:Nat.beq k d with | false=>rfl | true=>exact absurd (Nat.eq_of_beq_eq_true hb) hk];exact Rd.step st _ _ h
 | .agg l,v,h=>by
  simp only[Rd]at h
  unfold frz
  simp only[Rd]
  obtain ⟨cs,h1,h2,h3⟩:=h
  exact⟨cs,h1,h2,J7 st hx l cs h3⟩
 | .tup l,v,h=>by
  simp only[Rd]at h
  unfold frz
  simp only[Rd]
  obtain ⟨cs,h1,h3⟩:=h
  exact⟨cs,h1,J7 st hx l cs h3⟩
 | .ifc t y,v,h=>by
  simp only[Rd]at h
  unfold frz
  simp only[Rd]
  obtain ⟨u,h1,h3⟩:=h
  exact⟨u,h1,Ab2 st hx y u h3⟩
 | .clo f g l,v,h=>by
  simp only[Rd]at h
  unfold frz
  simp only[Rd]
  obtain ⟨fs,cs,h1,h2,h3⟩:=h
  exact⟨fs,cs,h1,J7 st hx g fs h2,J7 st hx l cs h3⟩
 | .top,v,h=>by unfold frz;exact Rd.step st _ _ h
 | .val u,v,h=>by unfold frz;exact Rd.step st _ _ h
 | .sl sz e l,v,h=>by unfold frz;exact Rd.step st _ _ h
 | .ref sz z o,v,h=>by unfold frz;exact Rd.step st _ _ h
 | .ptr k o,v,h=>by unfold frz;exact Rd.step st _ _ h
 | .rpt k sz i o,v,h=>by unfold frz;exact Rd.step st _ _ h
theorem J7 {κ κ':Ka} {w:World} {K:Nat→Prop} {d:Nat} {x:SV} (st:Step K κ w κ' w) (hx:∀ v,Rd κ w (.osl d) v→Rd κ' w x v):∀ (l:List SV) (vs:List Value),RdL κ w l vs→RdL κ' w (Zi d x l) vs
 | [],vs,h=>by
  unfold Zi
  simpa [RdL] using h
 | y::l,vs,h=>by
  simp only[RdL]at h
  unfold Zi
  simp only[RdL]
  obtain ⟨v,r,h1,h2,h3⟩:=h
  exact⟨v,r,h1,Ab2 st hx y v h2,J7 st hx l r h3⟩
end
def Alr (d:Nat) (x:SV):Ob→Ob
 | .box l=>.box (Zi d x l)
 | .rown sz e l i cl=>.rown sz e l i (Zi d x cl)
 | o=>o
theorem Ac {C:Cx} {k:List KI} {s:SS} (d:Nat) {sz:Nat} {α:Type} {e:α→SV} {l:List α} (h:s.h d=.row sz e l) (hg:G C k ⟨fun i=>frz d (.sl sz e l) (s.σ i),fun j=>bif Nat.beq j d then .non else Alr d (.sl sz e l) (s.h j)⟩):G C k s:=fun κ a w hs=>by
 have hob:=hs.obj d
 rw[h]at hob
 have st:=I1 (κ:=κ) (w:=w) (some d)
 have inv:=Kl hs.inv (some d)
 have hx:∀ v,Rd κ w (.osl d) v→Rd (En κ d .dead) w (.sl sz e l) v:=fun v hv=>by
  rcases hob with ⟨h1,rfl⟩ | h1
  ·simp only[Rd,h1]at hv
   simp only[Rd,RdD]
   exact .inl ⟨by simp,none,0,hv⟩
  ·refine h1.freeze hv st.keeps.out (fun b hb=>⟨hs.inv.bnd d b hb,?_⟩)
   rintro (⟨q,hq⟩ | hq)
   ·by_cases hqd:q=d
    ·subst hqd;rw[A9]at hq;cases hq
    ·rw[Cy _ _ hqd]at hq
     exact hqd (hs.inv.inj q d b hq hb)
   ·exact hs.inv.apart d b hb hq
 refine hg (En κ d .dead) a w ⟨hs.defers,hs.size,inv,hs.ctx.step inv st,fun j=>Ab2 st hx _ _ (hs.slot j),fun j=>?_⟩
 show ObOK _ w j (bif Nat.beq j d then .non else Alr d (.sl sz e l) (s.h j))
 by_cases hj:j=d
 ·subst hj;rw[show Nat.beq j j=true from Nat.beq_refl j];trivial
 ·rw[show Nat.beq j d=false from by cases hb:Nat.beq j d with | false=>rfl | true=>exact absurd (Nat.eq_of_beq_eq_true hb) hj]
  have hb:=ObOK.step st (fun e=>hj (Option.some.inj e).symm) _ (hs.obj j)
  have h0:=hs.obj j
  show ObOK _ w j (Alr d (.sl sz e l) (s.h j))
  cases hh:s.h j with
  | box m =>
   rw[hh]at h0 hb
   obtain ⟨b,cs,T,fr,e1,e2,e3,e4,e5⟩:=h0
   exact⟨b,cs,T,fr,by show En κ d .dead j=_;rw[Cy _ _ hj];exact e1,e2,e3,e4,J7 st hx m cs e5⟩
  | fresh=>rw[hh]at hb;exact hb
  | non=>rw[hh]at hb;exact hb
  | row sz' e' l'=>rw[hh]at hb;exact hb
  | lit sz' svs=>rw[hh]at hb;exact hb
  | glob sz' x' g'=>rw[hh]at hb;exact hb
  | pin b' n' cap' sz' e' l'=>rw[hh]at hb;exact hb
  | dat v' sz' e' l'=>rw[hh]at hb;exact hb
  | rown sz' e' l' i' cl' =>
   rw[hh]at h0
   obtain ⟨b2,cap2,cs2,T2,fr2,f1,f2,f3,f4,f5,f6,f7,us2,v1,v2,v3,v4⟩:=h0
   refine⟨b2,cap2,cs2,T2,fr2,by show En κ d .dead j=_;rw[Cy _ _ hj];exact f1,f2,f3,f4,f5,fun m y hm hy=>?_,f7,us2,v1,v2,J7 st hx cl' us2 v3,v4⟩
   obtain ⟨g0,u,g1,g2⟩:=f6 m y hm hy
   exact⟨g0,u,RdD.keep st.keeps _ _ g1,g2⟩
def Aat (C:Cx) (n:Nat) (I:Nat→Prop) (L:Nat→List (Nat × SV)) (O:Nat→Obs) (i:Nat) (a:Act) (w:World):Prop :=
 ∃ x':{j:Nat // j≤n∧I j},∃ κ,n-x'.1<n-i∧St C.F C.n (mkS (L x'.1) (O x'.1)) κ a w
theorem A2 {C:Cx} {k:List KI} {s:SS} {body:Code} (n:Nat) (I:Nat→Prop) (L:Nat→List (Nat × SV)) (O:Nat→Obs) (ρ:List (Nat × Nat)) (h0:I 0) (hsub:Sub C s ρ (L 0) (O 0))
  (h:∀ i,i≤n→I i→G C (.code body::.inv (Aat C n I L O i)::k) (mkS (L i) (O i))):G C (.code (.loop body)::k) s :=
 Aiy (α:={j:Nat // j≤n∧I j}) (fun x=>L x.1) (fun x=>O x.1) (fun x=>n-x.1) ⟨0,Nat.zero_le _,h0⟩ ρ hsub (fun x=>h x.1 x.2.1 x.2.2)
theorem Ba {C:Cx} {k:List KI} {s:SS} {n:Nat} {I:Nat→Prop} {L:Nat→List (Nat × SV)} {O:Nat→Obs} {i:Nat} (ρ:List (Nat × Nat)) (h0:I i) (hi:i+1≤n) (h1:I (i+1)) (hsub:Sub C s ρ (L (i+1)) (O (i+1))):G C (.inv (Aat C n I L O i)::k) s :=
 Arh (α:={j:Nat // j≤n∧I j}) (L:=fun x=>L x.1) (O:=fun x=>O x.1) (μ:=fun x=>n-x.1) (x:=⟨i,by omega,h0⟩) ⟨i+1,hi,h1⟩ ρ (by simp only;omega) hsub
mutual
def frb (d sz:Nat) (x:SV):SV→SV
 | .ptr k o=>bif Nat.beq k d then .ref sz x o else .ptr k o
 | .agg l=>.agg (Ab4 d sz x l)
 | .tup l=>.tup (Ab4 d sz x l)
 | .ifc t y=>.ifc t (frb d sz x y)
 | .clo f g l=>.clo f (Ab4 d sz x g) (Ab4 d sz x l)
 | y=>y
def Ab4 (d sz:Nat) (x:SV):List SV→List SV
 | []=>[]
 | y::l=>frb d sz x y::Ab4 d sz x l
end
mutual
theorem Ah6 {κ κ':Ka} {w:World} {K:Nat→Prop} {d sz:Nat} {x:SV} (st:Step K κ w κ' w) (hx:∀ o v,Rd κ w (.ptr d o) v→Rd κ' w (.ref sz x o) v):∀ (y:SV) (v:Value),Rd κ w y v→Rd κ' w (frb d sz x y) v
 | .ptr k o,v,h=>by
  unfold frb
  by_cases hk:k=d
  ·subst hk;rw[show Nat.beq k k=true from Nat.beq_refl k];exact hx o v h
  ·rw[show Nat.beq k d=false from by cases hb:Nat.beq k d with | false=>rfl | true=>exact absurd (Nat.eq_of_beq_eq_true hb) hk];exact Rd.step st _ _ h
 | .agg l,v,h=>by
  simp only[Rd]at h
  unfold frb
  simp only[Rd]
  obtain ⟨cs,h1,h2,h3⟩:=h
  exact⟨cs,h1,h2,Qd st hx l cs h3⟩
 | .tup l,v,h=>by
  simp only[Rd]at h
  unfold frb
  simp only[Rd]
  obtain ⟨cs,h1,h3⟩:=h
  exact⟨cs,h1,Qd st hx l cs h3⟩
 | .ifc t y,v,h=>by
  simp only[Rd]at h
  unfold frb
  simp only[Rd]
  obtain ⟨u,h1,h3⟩:=h
  exact⟨u,h1,Ah6 st hx y u h3⟩
 | .clo f g l,v,h=>by
  simp only[Rd]at h
  unfold frb
  simp only[Rd]
  obtain ⟨fs,cs,h1,h2,h3⟩:=h
  exact⟨fs,cs,h1,Qd st hx g fs h2,Qd st hx l cs h3⟩
 | .top,v,h=>by unfold frb;exact Rd.step st _ _ h
 | .val u,v,h=>by unfold frb;exact Rd.step st _ _ h
 | .sl sz e l,v,h=>by unfold frb;exact Rd.step st _ _ h
 | .ref sz z o,v,h=>by unfold frb;exact Rd.step st _ _ h
 | .rpt k sz i o,v,h=>by unfold frb;exact Rd.step st _ _ h
 | .osl k,v,h=>by unfold frb;exact Rd.step st _ _ h
theorem Qd {κ κ':Ka} {w:World} {K:Nat→Prop} {d sz:Nat} {x:SV} (st:Step K κ w κ' w) (hx:∀ o v,Rd κ w (.ptr d o) v→Rd κ' w (.ref sz x o) v):∀ (l:List SV) (vs:List Value),RdL κ w l vs→RdL κ' w (Ab4 d sz x l) vs
 | [],vs,h=>by
  unfold Ab4
  simpa [RdL] using h
 | y::l,vs,h=>by
  simp only[RdL]at h
  unfold Ab4
  simp only[RdL]
  obtain ⟨v,r,h1,h2,h3⟩:=h
  exact⟨v,r,h1,Ah6 st hx y v h2,Qd st hx l r h3⟩
end
def frbO (d sz:Nat) (x:SV):Ob→Ob
 | .box l=>.box (Ab4 d sz x l)
 | o=>o
theorem Aiq {κ κ':Ka} {w:World} {d sz:Nat} {l:List SV} {x:SV} (h:ObOK κ w d (.box l)) (hl:cellsOf x=l) (hb:x.boxed=true) (_hd:T8 l=true) (hsz:l.length=sz) (ho:∀ b,b<w.heap.size→¬ Own κ b→¬ Own κ' b)
  (hdead:∀ b,(κ d).block? = some b→b<w.heap.size∧¬ Own κ' b) (hxd:x.data=true) (o:Nat) (v:Value) (hv:Rd κ w (.ptr d o) v):Rd κ' w (.ref sz x o) v:=by
 obtain ⟨b,cs,T,fr,e1,e2,e3,e4,e5⟩:=h
 simp only[Rd,e1]at hv
 obtain ⟨h1,h2⟩:=hdead b (by rw[e1];rfl)
 rw[← hl]at e5
 obtain ⟨u,f1,f2⟩:=Rd.of_cells hb e4 e5
 simp only[Rd,RdD]
 refine⟨b,0,u,by rw[Nat.zero_add];exact hv,h2,h1,RdD.keep ⟨Nat.le_refl _,fun _ _ _=>rfl,ho⟩ _ _ (Rd.data _ _ hxd f1),?_,by rw[f2];exact e4,fun j hj=>?_⟩
 ·have:=e5.length
  rw[← hsz,← hl,← this,← f2]
  simp
 ·rw[Nat.zero_add,cell_of_row w b _ cs.toArray T fr e2,← f2]
theorem A6 {C:Cx} {k:List KI} {s:SS} (d sz:Nat) (x:SV) {l:List SV} (h:s.h d=.box l) (hl:cellsOf x=l) (hc:(x.boxed && x.data && T8 l && Nat.beq l.length sz)=true)
  (hg:G C k ⟨fun i=>frb d sz x (s.σ i),fun j=>bif Nat.beq j d then .non else frbO d sz x (s.h j)⟩):G C k s:=fun κ a w hs=>by
 simp only[Bool.and_eq_true]at hc
 obtain ⟨⟨⟨hb,hxd⟩,hd⟩,hsz⟩:=hc
 have hsz:=Nat.eq_of_beq_eq_true hsz
 have hob:=hs.obj d
 rw[h]at hob
 have st:=I1 (κ:=κ) (w:=w) (some d)
 have inv:=Kl hs.inv (some d)
 have hx:∀ o v,Rd κ w (.ptr d o) v→Rd (En κ d .dead) w (.ref sz x o) v:=fun o v hv =>
  Aiq hob hl hb hd hsz st.keeps.out (fun b hb=>⟨hs.inv.bnd d b hb,by
   rintro (⟨q,hq⟩ | hq)
   ·by_cases hqd:q=d
    ·subst hqd;change (En κ q .dead q).block? = some b at hq;rw[A9]at hq;cases hq
    ·change (En κ d .dead q).block? = some b at hq
     rw[Cy _ _ hqd]at hq
     exact hqd (hs.inv.inj q d b hq hb)
   ·exact hs.inv.apart d b hb hq⟩) hxd o v hv
 refine hg (En κ d .dead) a w ⟨hs.defers,hs.size,inv,hs.ctx.step inv st,fun j=>Ah6 st hx _ _ (hs.slot j),fun j=>?_⟩
 show ObOK _ w j (bif Nat.beq j d then .non else frbO d sz x (s.h j))
 by_cases hj:j=d
 ·subst hj;rw[show Nat.beq j j=true from Nat.beq_refl j];trivial
 ·rw[show Nat.beq j d=false from by cases hb:Nat.beq j d with | false=>rfl | true=>exact absurd (Nat.eq_of_beq_eq_true hb) hj]
  have hb:=ObOK.step st (fun e=>hj (Option.some.inj e).symm) _ (hs.obj j)
  have h0:=hs.obj j
  show ObOK _ w j (frbO d sz x (s.h j))
  cases hh:s.h j with
  | box m =>
   rw[hh]at h0 hb
   obtain ⟨b,cs,T,fr,e1,e2,e3,e4,e5⟩:=h0
   exact⟨b,cs,T,fr,by show En κ d .dead j=_;rw[Cy _ _ hj];exact e1,e2,e3,e4,Qd st hx m cs e5⟩
  | fresh=>rw[hh]at hb;exact hb
  | non=>rw[hh]at hb;exact hb
  | row sz' e' l'=>rw[hh]at hb;exact hb
  | lit sz' svs=>rw[hh]at hb;exact hb
  | glob sz' x' g'=>rw[hh]at hb;exact hb
  | pin b' n' cap' sz' e' l'=>rw[hh]at hb;exact hb
  | dat v' sz' e' l'=>rw[hh]at hb;exact hb
  | rown sz' e' l' i' cl'=>rw[hh]at hb;exact hb
theorem Dh {C:Cx} {k:List KI} {s:SS} (d sz:Nat) {α:Type} (e:α→SV) (h:s.σ d=.val (.slice none 0 0)) (hg:G C k ⟨upd s.σ d (.sl sz e []),s.h⟩):G C k s :=
 G_set d (fun κ w v hv=>by
  rw[h]at hv
  simp only[Rd]at hv
  simp only[Rd,RdD]
  exact .inl ⟨q_,none,0,hv⟩) hg
end Go.Sy
