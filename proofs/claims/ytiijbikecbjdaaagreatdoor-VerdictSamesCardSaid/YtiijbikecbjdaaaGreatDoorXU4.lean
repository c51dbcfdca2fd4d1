/-
  Sy19 Sy22 Ty N1 Sy20 Sy21 Sy23 O1 R1 R2 MR: parts of a proof, joined by program.
-/
import Derived.Test.YtiijbikecbjdaaaGreatDoorXU3
import Derived.Test.YtiijbikecbjdaaaGreatDoorProg
import Derived.ProofKit
import Derived.OpenShut
import Derived.Laws.Bits64b
set_option linter.all false
set_option linter.unusedVariables false
set_option linter.unusedSimpArgs false
set_option linter.deprecated false
namespace Go.Sy
inductive SrcT {α:Type} (s:SS) (sz:Nat) (e:α→SV):SV→List Nat→List α→Prop
 | sl {l:List α}:SrcT s sz e (.sl sz e l) [] l
 | row {k:Nat} {l:List α} (h:s.h k=.row sz e l):SrcT s sz e (.osl k) [k] l
 | lit {k:Nat} {l:List α} {svs:List SV} (h:s.h k=.lit sz svs) (hl:l.map e=svs):SrcT s sz e (.osl k) [k] l
 | nil:SrcT s sz e (.val (.slice none 0 0)) [] []
inductive BaseT {α:Type} (s:SS) (sz:Nat) (e:α→SV):SV→Option Nat→List α→Prop
 | nil:BaseT s sz e (.val (.slice none 0 0)) none []
 | row {k:Nat} {l:List α} (h:s.h k=.row sz e l):BaseT s sz e (.osl k) (some k) l
 | lit {k:Nat} {l:List α} {svs:List SV} (h:s.h k=.lit sz svs) (hl:l.map e=svs):BaseT s sz e (.osl k) (some k) l
theorem SrcT.src {α:Type} {s:SS} {sz:Nat} {e:α→SV} {x:SV} {ks:List Nat} {m:List α} (h:SrcT s sz e x ks m):∃ g,AppSrc s sz x ks m.length g∧∀ i x,rowF e m i x→g i x:=by
 cases h with
 | sl=>exact⟨_,.sl,λ _ _ h=>h⟩
 | row h=>exact⟨_,.row h,λ _ _ h=>h⟩
 | @lit k _ svs h hl=>exact⟨Afx svs,by have:=AppSrc.lit (sz:=sz) h;rwa [← hl,xJ,hl]at this,λ i x hx=>M2 hl i x hx⟩
 | nil=>exact⟨_,.nil,λ i x hx=>by obtain ⟨h,_⟩:=hx;simp at h⟩
theorem BaseT.base {α:Type} {s:SS} {sz:Nat} {e:α→SV} {x:SV} {k:Option Nat} {m:List α} (h:BaseT s sz e x k m):∃ g,AppBase s sz x k m.length g∧∀ i x,rowF e m i x→g i x:=by
 cases h with
 | row h=>exact⟨_,.row h,λ _ _ h=>h⟩
 | @lit k _ svs h hl=>exact⟨Afx svs,by have:=AppBase.lit (sz:=sz) h;rwa [← hl,xJ,hl]at this,λ i x hx=>M2 hl i x hx⟩
 | nil=>exact⟨_,.nil,λ i x hx=>by obtain ⟨h,_⟩:=hx;simp at h⟩
theorem Ae {P:Program} (Γ:Ty P) {o:Oper} {s:SS} (d:Nat) {α:Type} {e:α→SV} {l m:List α} {t:TypeId} {ti:TI} {et:TypeId} {sz eb:Nat} {ez:List Value} {x y:Operand} {k:Option Nat} {ks:List Nat}
  (h:o.op=.call ⟨.builtin .append,#[x,y],#[t,t]⟩) (hd:s.h d=.fresh) (ht:Γ.get t=some ti) (hk:ti.k=.slice et sz eb ez) (hez:ez.length=sz)
  (hb:BaseT s sz e (ev s x) k l) (hs:SrcT s sz e (ev s y) ks m) (hkk:∀ j,k=some j→j≠d) (hbytes:(l.length+m.length) * eb≤140737488355328) (h63:l.length+m.length≤9223372036854775807) :
  Good P o s ⟨.osl d,ks,Qq k d (.row sz e (l++m))⟩:=by
 obtain ⟨f,hb,hf⟩:=hb.base
 obtain ⟨g,hs,hg⟩:=hs.src
 exact Aaz Γ h hd ht hk hez hb hs hkk hbytes h63 λ κ w hr=>Ay4 hr y_ (Awk hf hg)
theorem Cd {P:Program} (Γ:Ty P) {o:Oper} {s:SS} {src dst:TypeId} {si di ei:TI} {x:Operand} {et:TypeId} {eb:Nat} {ez:List Value} {ks:List Nat} {bs:List UInt8} (h:o.op=.convert src dst x)
  (hs:Γ.get src=some si) (hsk:si.k=.slice et 1 eb ez) (he:Γ.get et=some ei) (hek:ei.k=.int .u8) (hd:Γ.get dst=some di) (hdk:di.k=.string) (hx:SrcT s 1 Ah (ev s x) ks bs) :
  Good P o s ⟨Ao ⟨bs.toArray⟩,ks,[]⟩:=by
 obtain ⟨g,hx,hg⟩:=hx.src
 exact X7 Γ bs h hs hsk he hek hd hdk hx E (λ i hi=>hg i _ ⟨hi,E⟩)
theorem Aqy {C:Cx} {kk:List KI} {s:SS} (k d:Nat) (r:List Nat) {sz:Nat} {α:Type} {e:α→SV} {l:List α} (h:s.h k=.row sz e l) (hd:s.h d=.fresh) (hkd:k≠d) (hr:∀ i∈r,s.σ i=.osl k)
  (hg:G C kk ⟨freezeσ s.σ (.osl d) r,upd (upd s.h k .non) d (.row sz e l)⟩):G C kk s:=λ κ a w hs=>by
 have hob:=hs.obj k
 rw[h]at hob
 have hnew:κ d=.new:=by have:=hs.obj d;rwa [hd]at this
 have fin:∀ κ':Ka,Step (λ j=>j=k∨j=d) κ w κ' w→Inv κ' w→(∀ v,Rd κ w (.osl k) v→Rd κ' w (.osl d) v)→ObOK κ' w d (.row sz e l)→den C.P C.B kk .normal a w:=by
  intro κ' st inv hv ho
  refine hg κ' a w ⟨hs.defers,hs.size,inv,hs.ctx.step inv st,λ j=>?_,λ j=>?_⟩
  ·refine freezeσ_ok r _ j (Rd.step st _ _ (hs.slot j)) (λ hj=>hv _ ?_)
   have:=hs.slot j
   rwa [hr j hj]at this
  ·show ObOK _ w j (upd (upd s.h k .non) d (.row sz e l) j)
   by_cases hj:j=d
   ·subst hj;rw[Bt];exact ho
   ·rw[Ck _ _ hj]
    by_cases hj2:j=k
    ·subst hj2;rw[Bt];trivial
    ·rw[Ck _ _ hj2];exact ObOK.step st (λ e=>e.elim hj2 hj) _ (hs.obj j)
 rcases hob with ⟨h1,rfl⟩ | ⟨b,cap,cs,T,fr,e1,e2,e3,e4,e5,e6⟩
 ·have st:=I8 (Kd hs.inv (some k)) (by show Dt κ k .dead d=.new;rw[B4 _ _ (Ne.symm hkd)];exact hnew) (e:=.nil) (Grew.refl w) (λ b hb=>by cases hb)
  refine fin _ (((Iy (some k)).weaken (λ j hj=>.inl (Option.some.inj hj).symm)).trans (st.1.weaken (λ j hj=>.inr hj))) st.2 (λ v hv=>?_) (.inl ⟨Aw _ _ _,E⟩)
  simp only[Rd,h1]at hv
  simp[Rd,Aw,hv]
 ·obtain ⟨st,inv⟩:=M0 (n':=l.length) (w':=w) hs.inv e1 hnew rfl rfl rfl rfl (λ _ _=>rfl)
  refine fin _ st inv (λ v hv=>?_) (.inr ⟨b,cap,cs,T,fr,Aw _ _ _,e2,e3,e4,e5,λ i x hx=>?_⟩)
  ·simp only[Rd,e1]at hv
   simp[Rd,Aw,hv]
  ·obtain ⟨q1,u,q2,q3⟩:=e6 i x hx
   exact⟨q1,u,RdD.keep st.keeps _ _ q2,q3⟩
mutual
def frz (d:Nat) (x:SV):SV→SV
 | .osl k=>bif Nat.beq k d then x else .osl k
 | .agg l=>.agg (Aed d x l)
 | .tup l=>.tup (Aed d x l)
 | .ifc t y=>.ifc t (frz d x y)
 | .clo f g l=>.clo f (Aed d x g) (Aed d x l)
 | y=>y
def Aed (d:Nat) (x:SV):List SV→List SV
 | []=>[]
 | y::l=>frz d x y::Aed d x l
end
mutual
theorem Ajb {κ κ':Ka} {w:World} {K:Nat→Prop} {d:Nat} {x:SV} (st:Step K κ w κ' w) (hx:∀ v,Rd κ w (.osl d) v→Rd κ' w x v):∀ (y:SV) (v:Value),Rd κ w y v→Rd κ' w (frz d x y) v
 | .osl k,v,h=>by
  unfold frz
  by_cases hk:k=d
  ·subst hk;rw[show Nat.beq k k=true from tA k];exact hx v h
  ·rw[show Nat.beq k d=false from by cases hb:Nat.beq k d with | false=>rfl | true=>exact yB (yH hb) hk];exact Rd.step st _ _ h
 | .agg l,v,h=>by
  simp only[Rd]at h
  unfold frz
  simp only[Rd]
  obtain ⟨cs,h1,h2,h3⟩:=h
  exact⟨cs,h1,h2,Jl st hx l cs h3⟩
 | .tup l,v,h=>by
  simp only[Rd]at h
  unfold frz
  simp only[Rd]
  obtain ⟨cs,h1,h3⟩:=h
  exact⟨cs,h1,Jl st hx l cs h3⟩
 | .ifc t y,v,h=>by
  simp only[Rd]at h
  unfold frz
  simp only[Rd]
  obtain ⟨u,h1,h3⟩:=h
  exact⟨u,h1,Ajb st hx y u h3⟩
 | .clo f g l,v,h=>by
  simp only[Rd]at h
  unfold frz
  simp only[Rd]
  obtain ⟨fs,cs,h1,h2,h3⟩:=h
  exact⟨fs,cs,h1,Jl st hx g fs h2,Jl st hx l cs h3⟩
 | .top,v,h=>by unfold frz;exact Rd.step st _ _ h
 | .val u,v,h=>by unfold frz;exact Rd.step st _ _ h
 | .sl sz e l,v,h=>by unfold frz;exact Rd.step st _ _ h
 | .ref sz z o,v,h=>by unfold frz;exact Rd.step st _ _ h
 | .ptr k o,v,h=>by unfold frz;exact Rd.step st _ _ h
 | .rpt k sz i o,v,h=>by unfold frz;exact Rd.step st _ _ h
theorem Jl {κ κ':Ka} {w:World} {K:Nat→Prop} {d:Nat} {x:SV} (st:Step K κ w κ' w) (hx:∀ v,Rd κ w (.osl d) v→Rd κ' w x v):∀ (l:List SV) (vs:List Value),RdL κ w l vs→RdL κ' w (Aed d x l) vs
 | [],vs,h=>by
  unfold Aed
  simpa [RdL] using h
 | y::l,vs,h=>by
  simp only[RdL]at h
  unfold Aed
  simp only[RdL]
  obtain ⟨v,r,h1,h2,h3⟩:=h
  exact⟨v,r,h1,Ajb st hx y v h2,Jl st hx l r h3⟩
end
def Auj (d:Nat) (x:SV):Ob→Ob
 | .box l=>.box (Aed d x l)
 | .rown sz e l i cl=>.rown sz e l i (Aed d x cl)
 | .tbox T l=>.tbox T (Aed d x l)
 | o=>o
theorem Ag {C:Cx} {k:List KI} {s:SS} (d:Nat) {sz:Nat} {α:Type} {e:α→SV} {l:List α} (h:s.h d=.row sz e l) (hg:G C k ⟨λ i=>frz d (.sl sz e l) (s.σ i),λ j=>bif Nat.beq j d then .non else Auj d (.sl sz e l) (s.h j)⟩):G C k s:=λ κ a w hs=>by
 have hob:=hs.obj d
 rw[h]at hob
 have st:=Iy (κ:=κ) (w:=w) (some d)
 have inv:=Kd hs.inv (some d)
 have hx:∀ v,Rd κ w (.osl d) v→Rd (Dt κ d .dead) w (.sl sz e l) v:=λ v hv=>by
  rcases hob with ⟨h1,rfl⟩ | h1
  ·simp only[Rd,h1]at hv
   simp only[Rd,RdD]
   exact .inl ⟨by simp,none,0,hv⟩
  ·refine h1.freeze hv st.keeps.out (λ b hb=>⟨hs.inv.bnd d b hb,?_⟩)
   rintro (⟨q,hq⟩ | hq)
   ·by_cases hqd:q=d
    ·subst hqd;rw[Aw]at hq;cases hq
    ·rw[B4 _ _ hqd]at hq
     exact hqd (hs.inv.inj q d b hq hb)
   ·exact hs.inv.apart d b hb hq
 refine hg (Dt κ d .dead) a w ⟨hs.defers,hs.size,inv,hs.ctx.step inv st,λ j=>Ajb st hx _ _ (hs.slot j),λ j=>?_⟩
 show ObOK _ w j (bif Nat.beq j d then .non else Auj d (.sl sz e l) (s.h j))
 by_cases hj:j=d
 ·subst hj;rw[show Nat.beq j j=true from tA j];trivial
 ·rw[show Nat.beq j d=false from by cases hb:Nat.beq j d with | false=>rfl | true=>exact yB (yH hb) hj]
  have hb:=ObOK.step st (λ e=>hj (Option.some.inj e).symm) _ (hs.obj j)
  have h0:=hs.obj j
  show ObOK _ w j (Auj d (.sl sz e l) (s.h j))
  cases hh:s.h j with
  | box m =>
   rw[hh]at h0 hb
   obtain ⟨b,cs,T,fr,e1,e2,e3,e4,e5⟩:=h0
   exact⟨b,cs,T,fr,by show Dt κ d .dead j=_;rw[B4 _ _ hj];exact e1,e2,e3,e4,Jl st hx m cs e5⟩
  | tbox T m =>
   rw[hh]at h0 hb
   obtain ⟨b,cs,fr,e1,e2,e3,e4,e5⟩:=h0
   exact⟨b,cs,fr,by show Dt κ d .dead j=_;rw[B4 _ _ hj];exact e1,e2,e3,e4,Jl st hx m cs e5⟩
  | fresh=>rw[hh]at hb;exact hb
  | non=>rw[hh]at hb;exact hb
  | row sz' e' l'=>rw[hh]at hb;exact hb
  | lit sz' svs=>rw[hh]at hb;exact hb
  | glob sz' x' g'=>rw[hh]at hb;exact hb
  | pin b' n' cap' sz' e' l'=>rw[hh]at hb;exact hb
  | dat v' sz' e' l'=>rw[hh]at hb;exact hb
  | rown sz' e' l' i' cl' =>
   rw[hh]at h0
   obtain ⟨b2,cap2,cs2,T2,fr2,f1,f2,f3,f4,f5,f6,f7,us2,v1,v2,v3,v4⟩:=h0
   refine⟨b2,cap2,cs2,T2,fr2,by show Dt κ d .dead j=_;rw[B4 _ _ hj];exact f1,f2,f3,f4,f5,λ m y hm hy=>?_,f7,us2,v1,v2,Jl st hx cl' us2 v3,v4⟩
   obtain ⟨g0,u,g1,g2⟩:=f6 m y hm hy
   exact⟨g0,u,RdD.keep st.keeps _ _ g1,g2⟩
def Ah1 (C:Cx) (n:Nat) (I:Nat→Prop) (L:Nat→List (Nat × SV)) (O:Nat→Obs) (i:Nat) (a:Act) (w:World):Prop :=
 ∃ x':{j:Nat // j≤n∧I j},∃ κ,n-x'.1<n-i∧St C.F C.n (mkS (L x'.1) (O x'.1)) κ a w
theorem A5 {C:Cx} {k:List KI} {s:SS} {body:Code} (n:Nat) (I:Nat→Prop) (L:Nat→List (Nat × SV)) (O:Nat→Obs) (ρ:List (Nat × Nat)) (h0:I 0) (hsub:Sub C s ρ (L 0) (O 0))
  (h:∀ i,i≤n→I i→G C (.code body::.inv (Ah1 C n I L O i)::k) (mkS (L i) (O i))):G C (.code (.loop body)::k) s :=
 Tv (α:={j:Nat // j≤n∧I j}) (λ x=>L x.1) (λ x=>O x.1) (λ x=>n-x.1) ⟨0,xZ _,h0⟩ ρ hsub (λ x=>h x.1 x.2.1 x.2.2)
theorem A4 {C:Cx} {k:List KI} {s:SS} {n:Nat} {I:Nat→Prop} {L:Nat→List (Nat × SV)} {O:Nat→Obs} {i:Nat} (ρ:List (Nat × Nat)) (h0:I i) (hi:i+1≤n) (h1:I (i+1)) (hsub:Sub C s ρ (L (i+1)) (O (i+1))):G C (.inv (Ah1 C n I L O i)::k) s :=
 Vl (α:={j:Nat // j≤n∧I j}) (L:=λ x=>L x.1) (O:=λ x=>O x.1) (μ:=λ x=>n-x.1) (x:=⟨i,by omega,h0⟩) ⟨i+1,hi,h1⟩ ρ (by simp only;omega) hsub
mutual
def frb (d sz:Nat) (x:SV):SV→SV
 | .ptr k o=>bif Nat.beq k d then .ref sz x o else .ptr k o
 | .agg l=>.agg (Ajd d sz x l)
 | .tup l=>.tup (Ajd d sz x l)
 | .ifc t y=>.ifc t (frb d sz x y)
 | .clo f g l=>.clo f (Ajd d sz x g) (Ajd d sz x l)
 | y=>y
def Ajd (d sz:Nat) (x:SV):List SV→List SV
 | []=>[]
 | y::l=>frb d sz x y::Ajd d sz x l
end
mutual
theorem Ap5 {κ κ':Ka} {w:World} {K:Nat→Prop} {d sz:Nat} {x:SV} (st:Step K κ w κ' w) (hx:∀ o v,Rd κ w (.ptr d o) v→Rd κ' w (.ref sz x o) v):∀ (y:SV) (v:Value),Rd κ w y v→Rd κ' w (frb d sz x y) v
 | .ptr k o,v,h=>by
  unfold frb
  by_cases hk:k=d
  ·subst hk;rw[show Nat.beq k k=true from tA k];exact hx o v h
  ·rw[show Nat.beq k d=false from by cases hb:Nat.beq k d with | false=>rfl | true=>exact yB (yH hb) hk];exact Rd.step st _ _ h
 | .agg l,v,h=>by
  simp only[Rd]at h
  unfold frb
  simp only[Rd]
  obtain ⟨cs,h1,h2,h3⟩:=h
  exact⟨cs,h1,h2,Ud st hx l cs h3⟩
 | .tup l,v,h=>by
  simp only[Rd]at h
  unfold frb
  simp only[Rd]
  obtain ⟨cs,h1,h3⟩:=h
  exact⟨cs,h1,Ud st hx l cs h3⟩
 | .ifc t y,v,h=>by
  simp only[Rd]at h
  unfold frb
  simp only[Rd]
  obtain ⟨u,h1,h3⟩:=h
  exact⟨u,h1,Ap5 st hx y u h3⟩
 | .clo f g l,v,h=>by
  simp only[Rd]at h
  unfold frb
  simp only[Rd]
  obtain ⟨fs,cs,h1,h2,h3⟩:=h
  exact⟨fs,cs,h1,Ud st hx g fs h2,Ud st hx l cs h3⟩
 | .top,v,h=>by unfold frb;exact Rd.step st _ _ h
 | .val u,v,h=>by unfold frb;exact Rd.step st _ _ h
 | .sl sz e l,v,h=>by unfold frb;exact Rd.step st _ _ h
 | .ref sz z o,v,h=>by unfold frb;exact Rd.step st _ _ h
 | .rpt k sz i o,v,h=>by unfold frb;exact Rd.step st _ _ h
 | .osl k,v,h=>by unfold frb;exact Rd.step st _ _ h
theorem Ud {κ κ':Ka} {w:World} {K:Nat→Prop} {d sz:Nat} {x:SV} (st:Step K κ w κ' w) (hx:∀ o v,Rd κ w (.ptr d o) v→Rd κ' w (.ref sz x o) v):∀ (l:List SV) (vs:List Value),RdL κ w l vs→RdL κ' w (Ajd d sz x l) vs
 | [],vs,h=>by
  unfold Ajd
  simpa [RdL] using h
 | y::l,vs,h=>by
  simp only[RdL]at h
  unfold Ajd
  simp only[RdL]
  obtain ⟨v,r,h1,h2,h3⟩:=h
  exact⟨v,r,h1,Ap5 st hx y v h2,Ud st hx l r h3⟩
end
def frbO (d sz:Nat) (x:SV):Ob→Ob
 | .box l=>.box (Ajd d sz x l)
 | o=>o
theorem Aqr {κ κ':Ka} {w:World} {d sz:Nat} {l:List SV} {x:SV} (h:ObOK κ w d (.box l)) (hl:cellsOf x=l) (hb:x.boxed=true) (_hd:Oi l=true) (hsz:l.length=sz) (ho:∀ b,b<w.heap.size→¬ Own κ b→¬ Own κ' b)
  (hdead:∀ b,(κ d).block? = some b→b<w.heap.size∧¬ Own κ' b) (hxd:x.data=true) (o:Nat) (v:Value) (hv:Rd κ w (.ptr d o) v):Rd κ' w (.ref sz x o) v:=by
 obtain ⟨b,cs,T,fr,e1,e2,e3,e4,e5⟩:=h
 simp only[Rd,e1]at hv
 obtain ⟨h1,h2⟩:=hdead b (by rw[e1];rfl)
 rw[← hl]at e5
 obtain ⟨u,f1,f2⟩:=Rd.of_cells hb e4 e5
 simp only[Rd,RdD]
 refine⟨b,0,u,by rw[wD];exact hv,h2,h1,RdD.keep ⟨yC _,λ _ _ _=>rfl,ho⟩ _ _ (Rd.data _ _ hxd f1),?_,by rw[f2];exact e4,λ j hj=>?_⟩
 ·have:=e5.length
  rw[← hsz,← hl,← this,← f2]
  simp
 ·rw[wD,cell_of_row w b _ cs.toArray T fr e2,← f2]
theorem A7 {C:Cx} {k:List KI} {s:SS} (d sz:Nat) (x:SV) {l:List SV} (h:s.h d=.box l) (hl:cellsOf x=l) (hc:(x.boxed && x.data && Oi l && Nat.beq l.length sz)=true)
  (hg:G C k ⟨λ i=>frb d sz x (s.σ i),λ j=>bif Nat.beq j d then .non else frbO d sz x (s.h j)⟩):G C k s:=λ κ a w hs=>by
 simp only[zH]at hc
 obtain ⟨⟨⟨hb,hxd⟩,hd⟩,hsz⟩:=hc
 have hsz:=yH hsz
 have hob:=hs.obj d
 rw[h]at hob
 have st:=Iy (κ:=κ) (w:=w) (some d)
 have inv:=Kd hs.inv (some d)
 have hx:∀ o v,Rd κ w (.ptr d o) v→Rd (Dt κ d .dead) w (.ref sz x o) v:=λ o v hv =>
  Aqr hob hl hb hd hsz st.keeps.out (λ b hb=>⟨hs.inv.bnd d b hb,by
   rintro (⟨q,hq⟩ | hq)
   ·by_cases hqd:q=d
    ·subst hqd;change (Dt κ q .dead q).block? = some b at hq;rw[Aw]at hq;cases hq
    ·change (Dt κ d .dead q).block? = some b at hq
     rw[B4 _ _ hqd]at hq
     exact hqd (hs.inv.inj q d b hq hb)
   ·exact hs.inv.apart d b hb hq⟩) hxd o v hv
 refine hg (Dt κ d .dead) a w ⟨hs.defers,hs.size,inv,hs.ctx.step inv st,λ j=>Ap5 st hx _ _ (hs.slot j),λ j=>?_⟩
 show ObOK _ w j (bif Nat.beq j d then .non else frbO d sz x (s.h j))
 by_cases hj:j=d
 ·subst hj;rw[show Nat.beq j j=true from tA j];trivial
 ·rw[show Nat.beq j d=false from by cases hb:Nat.beq j d with | false=>rfl | true=>exact yB (yH hb) hj]
  have hb:=ObOK.step st (λ e=>hj (Option.some.inj e).symm) _ (hs.obj j)
  have h0:=hs.obj j
  show ObOK _ w j (frbO d sz x (s.h j))
  cases hh:s.h j with
  | box m =>
   rw[hh]at h0 hb
   obtain ⟨b,cs,T,fr,e1,e2,e3,e4,e5⟩:=h0
   exact⟨b,cs,T,fr,by show Dt κ d .dead j=_;rw[B4 _ _ hj];exact e1,e2,e3,e4,Ud st hx m cs e5⟩
  | fresh=>rw[hh]at hb;exact hb
  | non=>rw[hh]at hb;exact hb
  | row sz' e' l'=>rw[hh]at hb;exact hb
  | lit sz' svs=>rw[hh]at hb;exact hb
  | glob sz' x' g'=>rw[hh]at hb;exact hb
  | pin b' n' cap' sz' e' l'=>rw[hh]at hb;exact hb
  | dat v' sz' e' l'=>rw[hh]at hb;exact hb
  | rown sz' e' l' i' cl'=>rw[hh]at hb;exact hb
  | tbox T' m'=>rw[hh]at hb;exact hb
theorem Am {C:Cx} {k:List KI} {s:SS} (d sz:Nat) {α:Type} (e:α→SV) (h:s.σ d=.val (.slice none 0 0)) (hg:G C k ⟨upd s.σ d (.sl sz e []),s.h⟩):G C k s :=
 G_set d (λ κ w v hv=>by
  rw[h]at hv
  simp only[Rd]at hv
  simp only[Rd,RdD]
  exact .inl ⟨Y,none,0,hv⟩) hg
end Go.Sy
namespace Go.Sy.YtiijbikecbjdaaaGreatDoor
open Go.Proofs
set_option maxRecDepth 100000
theorem ty1:Ba Tryz.prog 1=some ⟨.func,1,[.nilFunc]⟩:=by kernel_rfl
theorem ty2:Ba Tryz.prog 2=some ⟨.int .i64,1,[.int .i64 0]⟩:=by kernel_rfl
theorem ty3:Ba Tryz.prog 3=some ⟨.int .i64,1,[.int .i64 0]⟩:=by kernel_rfl
theorem ty4:Ba Tryz.prog 4=some ⟨.bool,1,[.bool false]⟩:=by kernel_rfl
theorem ty5:Ba Tryz.prog 5=some ⟨.int .u8,1,[.int .u8 0]⟩:=by kernel_rfl
theorem ty9:Ba Tryz.prog 9=some ⟨.string,1,[.string .empty]⟩:=by kernel_rfl
theorem ty13:Ba Tryz.prog 13=some ⟨.struct [(0,1),(1,1)],2,[.string .empty,.int .u64 0]⟩:=by kernel_rfl
theorem ty20:Ba Tryz.prog 20=some ⟨.iface,1,[.nilIface]⟩:=by kernel_rfl
theorem ty22:Ba Tryz.prog 22=some ⟨.int .i64,1,[.int .i64 0]⟩:=by kernel_rfl
theorem ty23:Ba Tryz.prog 23=some ⟨.slice 30 6 80 [.int .i64 0,.int .i64 0,.int .i64 0,.int .i64 0,.slice none 0 0,.slice none 0 0],1,[.slice none 0 0]⟩:=by kernel_rfl
theorem ty25:Ba Tryz.prog 25=some ⟨.struct [(0,1),(1,1),(2,1),(3,1),(4,1),(5,1),(6,1)],7,[.int .i64 0,.int .i64 0,.int .i64 0,.int .i64 0,.int .i64 0,.int .i64 0,.slice none 0 0]⟩:=by kernel_rfl
theorem ty26:Ba Tryz.prog 26=some ⟨.func,1,[.nilFunc]⟩:=by kernel_rfl
theorem ty27:Ba Tryz.prog 27=some ⟨.slice 5 1 1 [.int .u8 0],1,[.slice none 0 0]⟩:=by kernel_rfl
theorem ty28:Ba Tryz.prog 28=some ⟨.slice 4 1 1 [.bool false],1,[.slice none 0 0]⟩:=by kernel_rfl
theorem ty30:Ba Tryz.prog 30=some ⟨.struct [(0,1),(1,1),(2,1),(3,1),(4,1),(5,1)],6,[.int .i64 0,.int .i64 0,.int .i64 0,.int .i64 0,.slice none 0 0,.slice none 0 0]⟩:=by kernel_rfl
theorem ty34:Ba Tryz.prog 34=some ⟨.struct [(0,1),(1,1),(2,1),(3,1),(4,1),(5,1),(6,1)],7,[.int .i64 0,.int .i64 0,.int .i64 0,.int .i64 0,.int .i64 0,.int .i64 0,.slice none 0 0]⟩:=by kernel_rfl
theorem ty37:Ba Tryz.prog 37=some ⟨.slice 152 5 48 [.int .i64 0,.int .i64 0,.string .empty,.int .u64 0,.int .u32 0],1,[.slice none 0 0]⟩:=by kernel_rfl
theorem ty38:Ba Tryz.prog 38=some ⟨.slice 82 7 80 [.int .i64 0,.int .i64 0,.int .i64 0,.int .i64 0,.int .i64 0,.string .empty,.slice none 0 0],1,[.slice none 0 0]⟩:=by kernel_rfl
theorem ty39:Ba Tryz.prog 39=some ⟨.slice 141 3 24 [.int .i64 0,.int .i64 0,.int .i64 0],1,[.slice none 0 0]⟩:=by kernel_rfl
theorem ty40:Ba Tryz.prog 40=some ⟨.slice 135 6 64 [.int .i64 0,.int .i64 0,.int .i64 0,.int .i64 0,.int .i64 0,.slice none 0 0],1,[.slice none 0 0]⟩:=by kernel_rfl
theorem ty41:Ba Tryz.prog 41=some ⟨.slice 145 4 32 [.int .i64 0,.int .i64 0,.int .i64 0,.int .u64 0],1,[.slice none 0 0]⟩:=by kernel_rfl
theorem ty42:Ba Tryz.prog 42=some ⟨.slice 149 4 48 [.int .i64 0,.int .i64 0,.int .i64 0,.slice none 0 0],1,[.slice none 0 0]⟩:=by kernel_rfl
theorem ty43:Ba Tryz.prog 43=some ⟨.slice 156 5 80 [.int .i64 0,.int .i64 0,.string .empty,.slice none 0 0,.slice none 0 0],1,[.slice none 0 0]⟩:=by kernel_rfl
theorem ty44:Ba Tryz.prog 44=some ⟨.slice 163 5 40 [.int .i64 0,.int .i64 0,.int .i64 0,.int .u32 0,.int .i64 0],1,[.slice none 0 0]⟩:=by kernel_rfl
theorem ty46:Ba Tryz.prog 46=some ⟨.struct [(0,1),(1,1),(2,1),(3,1),(4,1),(5,1),(6,1),(7,1)],8,[.slice none 0 0,.slice none 0 0,.slice none 0 0,.slice none 0 0,.slice none 0 0,.slice none 0 0,.slice none 0 0,.slice none 0 0]⟩:=by kernel_rfl
theorem ty49:Ba Tryz.prog 49=some ⟨.slice 73 4 72 [.int .i64 0,.string .empty,.slice none 0 0,.slice none 0 0],1,[.slice none 0 0]⟩:=by kernel_rfl
theorem ty52:Ba Tryz.prog 52=some ⟨.slice 3 1 8 [.int .i64 0],1,[.slice none 0 0]⟩:=by kernel_rfl
theorem ty57:Ba Tryz.prog 57=some ⟨.func,1,[.nilFunc]⟩:=by kernel_rfl
theorem ty64:Ba Tryz.prog 64=some ⟨.slice 106 17 240 [.int .i64 0,.int .i64 0,.string .empty,.string .empty,.string .empty,.string .empty,.string .empty,.int .u64 0,.int .u32 0,.int .i64 0,.int .i64 0,.int .i64 0,.int .i64 0,.slice none 0 0,.slice none 0 0,.slice none 0 0,.slice none 0 0],1,[.slice none 0 0]⟩:=by kernel_rfl
theorem ty68:Ba Tryz.prog 68=some ⟨.slice 9 1 16 [.string .empty],1,[.slice none 0 0]⟩:=by kernel_rfl
theorem ty71:Ba Tryz.prog 71=some ⟨.func,1,[.nilFunc]⟩:=by kernel_rfl
theorem ty73:Ba Tryz.prog 73=some ⟨.struct [(0,1),(1,1),(2,1),(3,1)],4,[.int .i64 0,.string .empty,.slice none 0 0,.slice none 0 0]⟩:=by kernel_rfl
theorem ty78:Ba Tryz.prog 78=some ⟨.func,1,[.nilFunc]⟩:=by kernel_rfl
theorem ty82:Ba Tryz.prog 82=some ⟨.struct [(0,1),(1,1),(2,1),(3,1),(4,1),(5,1),(6,1)],7,[.int .i64 0,.int .i64 0,.int .i64 0,.int .i64 0,.int .i64 0,.string .empty,.slice none 0 0]⟩:=by kernel_rfl
theorem ty85:Ba Tryz.prog 85=some ⟨.slice 102 4 32 [.int .i64 0,.int .i64 0,.int .i64 0,.int .u32 0],1,[.slice none 0 0]⟩:=by kernel_rfl
theorem ty89:Ba Tryz.prog 89=some ⟨.ptr,1,[.pointer none]⟩:=by kernel_rfl
theorem ty92:Ba Tryz.prog 92=some ⟨.slice 351 3 40 [.int .i64 0,.int .i64 0,.slice none 0 0],1,[.slice none 0 0]⟩:=by kernel_rfl
theorem ty95:Ba Tryz.prog 95=some ⟨.func,1,[.nilFunc]⟩:=by kernel_rfl
theorem ty96:Ba Tryz.prog 96=some ⟨.slice 203 7 72 [.int .i64 0,.int .i64 0,.int .i64 0,.int .u64 0,.int .u64 0,.int .i64 0,.slice none 0 0],1,[.slice none 0 0]⟩:=by kernel_rfl
theorem ty100:Ba Tryz.prog 100=some ⟨.int .u32,1,[.int .u32 0]⟩:=by kernel_rfl
theorem ty102:Ba Tryz.prog 102=some ⟨.struct [(0,1),(1,1),(2,1),(3,1)],4,[.int .i64 0,.int .i64 0,.int .i64 0,.int .u32 0]⟩:=by kernel_rfl
theorem ty103:Ba Tryz.prog 103=some ⟨.int .u64,1,[.int .u64 0]⟩:=by kernel_rfl
theorem ty104:Ba Tryz.prog 104=some ⟨.slice 100 1 4 [.int .u32 0],1,[.slice none 0 0]⟩:=by kernel_rfl
theorem ty106:Ba Tryz.prog 106=some ⟨.struct [(0,1),(1,1),(2,1),(3,1),(4,1),(5,1),(6,1),(7,1),(8,1),(9,1),(10,1),(11,1),(12,1),(13,1),(14,1),(15,1),(16,1)],17,[.int .i64 0,.int .i64 0,.string .empty,.string .empty,.string .empty,.string .empty,.string .empty,.int .u64 0,.int .u32 0,.int .i64 0,.int .i64 0,.int .i64 0,.int .i64 0,.slice none 0 0,.slice none 0 0,.slice none 0 0,.slice none 0 0]⟩:=by kernel_rfl
theorem ty109:Ba Tryz.prog 109=some ⟨.ptr,1,[.pointer none]⟩:=by kernel_rfl
theorem ty114:Ba Tryz.prog 114=some ⟨.struct [(0,0),(0,1)],1,[.int .u32 0]⟩:=by kernel_rfl
theorem ty118:Ba Tryz.prog 118=some ⟨.struct [(0,0),(0,2)],2,[.int .i32 0,.int .u32 0]⟩:=by kernel_rfl
theorem ty120:Ba Tryz.prog 120=some ⟨.struct [(0,0),(0,1),(1,2)],3,[.int .u32 0,.int .i32 0,.int .u32 0]⟩:=by kernel_rfl
theorem ty122:Ba Tryz.prog 122=some ⟨.struct [(0,3),(3,1),(4,8),(12,1),(13,1)],14,[.int .u32 0,.int .i32 0,.int .u32 0,.slice none 0 0,.slice none 0 0,.slice none 0 0,.slice none 0 0,.slice none 0 0,.slice none 0 0,.slice none 0 0,.slice none 0 0,.slice none 0 0,.int .i64 0,.int .i64 0]⟩:=by kernel_rfl
theorem ty127:Ba Tryz.prog 127=some ⟨.func,1,[.nilFunc]⟩:=by kernel_rfl
theorem ty128:Ba Tryz.prog 128=some ⟨.array 9 2 1,2,[.string .empty,.string .empty]⟩:=by kernel_rfl
theorem ty132:Ba Tryz.prog 132=some ⟨.struct [(0,8)],8,[.slice none 0 0,.slice none 0 0,.slice none 0 0,.slice none 0 0,.slice none 0 0,.slice none 0 0,.slice none 0 0,.slice none 0 0]⟩:=by kernel_rfl
theorem ty135:Ba Tryz.prog 135=some ⟨.struct [(0,1),(1,1),(2,1),(3,1),(4,1),(5,1)],6,[.int .i64 0,.int .i64 0,.int .i64 0,.int .i64 0,.int .i64 0,.slice none 0 0]⟩:=by kernel_rfl
theorem ty136:Ba Tryz.prog 136=some ⟨.func,1,[.nilFunc]⟩:=by kernel_rfl
theorem ty138:Ba Tryz.prog 138=some ⟨.func,1,[.nilFunc]⟩:=by kernel_rfl
theorem ty141:Ba Tryz.prog 141=some ⟨.struct [(0,1),(1,1),(2,1)],3,[.int .i64 0,.int .i64 0,.int .i64 0]⟩:=by kernel_rfl
theorem ty142:Ba Tryz.prog 142=some ⟨.func,1,[.nilFunc]⟩:=by kernel_rfl
theorem ty145:Ba Tryz.prog 145=some ⟨.struct [(0,1),(1,1),(2,1),(3,1)],4,[.int .i64 0,.int .i64 0,.int .i64 0,.int .u64 0]⟩:=by kernel_rfl
theorem ty146:Ba Tryz.prog 146=some ⟨.func,1,[.nilFunc]⟩:=by kernel_rfl
theorem ty149:Ba Tryz.prog 149=some ⟨.struct [(0,1),(1,1),(2,1),(3,1)],4,[.int .i64 0,.int .i64 0,.int .i64 0,.slice none 0 0]⟩:=by kernel_rfl
theorem ty152:Ba Tryz.prog 152=some ⟨.struct [(0,1),(1,1),(2,1),(3,1),(4,1)],5,[.int .i64 0,.int .i64 0,.string .empty,.int .u64 0,.int .u32 0]⟩:=by kernel_rfl
theorem ty153:Ba Tryz.prog 153=some ⟨.func,1,[.nilFunc]⟩:=by kernel_rfl
theorem ty156:Ba Tryz.prog 156=some ⟨.struct [(0,1),(1,1),(2,1),(3,1),(4,1)],5,[.int .i64 0,.int .i64 0,.string .empty,.slice none 0 0,.slice none 0 0]⟩:=by kernel_rfl
theorem ty158:Ba Tryz.prog 158=some ⟨.func,1,[.nilFunc]⟩:=by kernel_rfl
theorem ty161:Ba Tryz.prog 161=some ⟨.struct [(0,1),(1,1)],2,[.int .u32 0,.int .i64 0]⟩:=by kernel_rfl
theorem ty163:Ba Tryz.prog 163=some ⟨.struct [(0,1),(1,1),(2,1),(3,2)],5,[.int .i64 0,.int .i64 0,.int .i64 0,.int .u32 0,.int .i64 0]⟩:=by kernel_rfl
theorem ty164:Ba Tryz.prog 164=some ⟨.func,1,[.nilFunc]⟩:=by kernel_rfl
theorem ty165:Ba Tryz.prog 165=some ⟨.int .u64,1,[.int .u64 0]⟩:=by kernel_rfl
theorem ty172:Ba Tryz.prog 172=some ⟨.ptr,1,[.pointer none]⟩:=by kernel_rfl
theorem ty173:Ba Tryz.prog 173=some ⟨.array 28 2 1,2,[.slice none 0 0,.slice none 0 0]⟩:=by kernel_rfl
theorem ty174:Ba Tryz.prog 174=some ⟨.slice 181 7 56 [.int .i64 0,.int .i64 0,.int .i64 0,.int .i64 0,.int .i64 0,.int .u32 0,.int .i64 0],1,[.slice none 0 0]⟩:=by kernel_rfl
theorem ty176:Ba Tryz.prog 176=some ⟨.struct [(0,8),(8,2),(10,1)],11,[.slice none 0 0,.slice none 0 0,.slice none 0 0,.slice none 0 0,.slice none 0 0,.slice none 0 0,.slice none 0 0,.slice none 0 0,.slice none 0 0,.slice none 0 0,.slice none 0 0]⟩:=by kernel_rfl
theorem ty179:Ba Tryz.prog 179=some ⟨.struct [(0,1),(1,1)],2,[.int .i64 0,.int .i64 0]⟩:=by kernel_rfl
theorem ty181:Ba Tryz.prog 181=some ⟨.struct [(0,2),(2,4),(6,1)],7,[.int .i64 0,.int .i64 0,.int .i64 0,.int .i64 0,.int .i64 0,.int .u32 0,.int .i64 0]⟩:=by kernel_rfl
theorem ty187:Ba Tryz.prog 187=some ⟨.ptr,1,[.pointer none]⟩:=by kernel_rfl
theorem ty189:Ba Tryz.prog 189=some ⟨.struct [(0,1),(1,3),(4,1)],5,[.slice none 0 0,.int .u32 0,.int .i32 0,.int .u32 0,.slice none 0 0]⟩:=by kernel_rfl
theorem ty190:Ba Tryz.prog 190=some ⟨.slice 283 1 24 [.slice none 0 0],1,[.slice none 0 0]⟩:=by kernel_rfl
theorem ty191:Ba Tryz.prog 191=some ⟨.slice 96 1 24 [.slice none 0 0],1,[.slice none 0 0]⟩:=by kernel_rfl
theorem ty194:Ba Tryz.prog 194=some ⟨.struct [(0,0),(0,0),(0,1)],1,[.int .i64 0]⟩:=by kernel_rfl
theorem ty195:Ba Tryz.prog 195=some ⟨.array 194 64 1,64,[.int .i64 0,.int .i64 0,.int .i64 0,.int .i64 0,.int .i64 0,.int .i64 0,.int .i64 0,.int .i64 0,.int .i64 0,.int .i64 0,.int .i64 0,.int .i64 0,.int .i64 0,.int .i64 0,.int .i64 0,.int .i64 0,.int .i64 0,.int .i64 0,.int .i64 0,.int .i64 0,.int .i64 0,.int .i64 0,.int .i64 0,.int .i64 0,.int .i64 0,.int .i64 0,.int .i64 0,.int .i64 0,.int .i64 0,.int .i64 0,.int .i64 0,.int .i64 0,.int .i64 0,.int .i64 0,.int .i64 0,.int .i64 0,.int .i64 0,.int .i64 0,.int .i64 0,.int .i64 0,.int .i64 0,.int .i64 0,.int .i64 0,.int .i64 0,.int .i64 0,.int .i64 0,.int .i64 0,.int .i64 0,.int .i64 0,.int .i64 0,.int .i64 0,.int .i64 0,.int .i64 0,.int .i64 0,.int .i64 0,.int .i64 0,.int .i64 0,.int .i64 0,.int .i64 0,.int .i64 0,.int .i64 0,.int .i64 0,.int .i64 0,.int .i64 0]⟩:=by kernel_rfl
theorem ty197:Ba Tryz.prog 197=some ⟨.struct [(0,8),(8,1),(9,1),(10,1),(11,1),(12,1),(13,64)],77,[.slice none 0 0,.slice none 0 0,.slice none 0 0,.slice none 0 0,.slice none 0 0,.slice none 0 0,.slice none 0 0,.slice none 0 0,.pointer none,.slice none 0 0,.slice none 0 0,.int .i64 0,.int .i64 0,.int .i64 0,.int .i64 0,.int .i64 0,.int .i64 0,.int .i64 0,.int .i64 0,.int .i64 0,.int .i64 0,.int .i64 0,.int .i64 0,.int .i64 0,.int .i64 0,.int .i64 0,.int .i64 0,.int .i64 0,.int .i64 0,.int .i64 0,.int .i64 0,.int .i64 0,.int .i64 0,.int .i64 0,.int .i64 0,.int .i64 0,.int .i64 0,.int .i64 0,.int .i64 0,.int .i64 0,.int .i64 0,.int .i64 0,.int .i64 0,.int .i64 0,.int .i64 0,.int .i64 0,.int .i64 0,.int .i64 0,.int .i64 0,.int .i64 0,.int .i64 0,.int .i64 0,.int .i64 0,.int .i64 0,.int .i64 0,.int .i64 0,.int .i64 0,.int .i64 0,.int .i64 0,.int .i64 0,.int .i64 0,.int .i64 0,.int .i64 0,.int .i64 0,.int .i64 0,.int .i64 0,.int .i64 0,.int .i64 0,.int .i64 0,.int .i64 0,.int .i64 0,.int .i64 0,.int .i64 0,.int .i64 0,.int .i64 0,.int .i64 0,.int .i64 0]⟩:=by kernel_rfl
theorem ty201:Ba Tryz.prog 201=some ⟨.struct [(0,1),(1,1),(2,1),(3,1)],4,[.int .u64 0,.int .u64 0,.int .i64 0,.slice none 0 0]⟩:=by kernel_rfl
theorem ty203:Ba Tryz.prog 203=some ⟨.struct [(0,1),(1,1),(2,1),(3,4)],7,[.int .i64 0,.int .i64 0,.int .i64 0,.int .u64 0,.int .u64 0,.int .i64 0,.slice none 0 0]⟩:=by kernel_rfl
theorem ty207:Ba Tryz.prog 207=some ⟨.func,1,[.nilFunc]⟩:=by kernel_rfl
theorem ty218:Ba Tryz.prog 218=some ⟨.ptr,1,[.pointer none]⟩:=by kernel_rfl
theorem ty220:Ba Tryz.prog 220=some ⟨.struct [(0,1),(1,1),(2,1)],3,[.slice none 0 0,.int .i64 0,.int .i64 0]⟩:=by kernel_rfl
theorem ty223:Ba Tryz.prog 223=some ⟨.func,1,[.nilFunc]⟩:=by kernel_rfl
theorem ty227:Ba Tryz.prog 227=some ⟨.ptr,1,[.pointer none]⟩:=by kernel_rfl
theorem ty229:Ba Tryz.prog 229=some ⟨.func,1,[.nilFunc]⟩:=by kernel_rfl
theorem ty241:Ba Tryz.prog 241=some ⟨.func,1,[.nilFunc]⟩:=by kernel_rfl
theorem ty254:Ba Tryz.prog 254=some ⟨.func,1,[.nilFunc]⟩:=by kernel_rfl
theorem ty256:Ba Tryz.prog 256=some ⟨.func,1,[.nilFunc]⟩:=by kernel_rfl
theorem ty261:Ba Tryz.prog 261=some ⟨.slice 264 3 24 [.int .i64 0,.int .i64 0,.int .u32 0],1,[.slice none 0 0]⟩:=by kernel_rfl
theorem ty264:Ba Tryz.prog 264=some ⟨.struct [(0,1),(1,1),(2,1)],3,[.int .i64 0,.int .i64 0,.int .u32 0]⟩:=by kernel_rfl
theorem ty265:Ba Tryz.prog 265=some ⟨.ptr,1,[.pointer none]⟩:=by kernel_rfl
theorem ty283:Ba Tryz.prog 283=some ⟨.slice 357 3 24 [.int .u64 0,.int .i64 0,.int .i64 0],1,[.slice none 0 0]⟩:=by kernel_rfl
theorem ty284:Ba Tryz.prog 284=some ⟨.slice 290 9 104 [.int .i64 0,.int .i64 0,.int .i64 0,.slice none 0 0,.int .u64 0,.int .u64 0,.int .i64 0,.slice none 0 0,.int .i64 0],1,[.slice none 0 0]⟩:=by kernel_rfl
theorem ty290:Ba Tryz.prog 290=some ⟨.struct [(0,1),(1,1),(2,1),(3,1),(4,4),(8,1)],9,[.int .i64 0,.int .i64 0,.int .i64 0,.slice none 0 0,.int .u64 0,.int .u64 0,.int .i64 0,.slice none 0 0,.int .i64 0]⟩:=by kernel_rfl
theorem ty296:Ba Tryz.prog 296=some ⟨.func,1,[.nilFunc]⟩:=by kernel_rfl
theorem ty299:Ba Tryz.prog 299=some ⟨.struct [(0,1),(1,1),(2,1),(3,1),(4,1),(5,1),(6,1)],7,[.int .i64 0,.int .i64 0,.int .i64 0,.int .i64 0,.int .u32 0,.int .u32 0,.slice none 0 0]⟩:=by kernel_rfl
theorem ty318:Ba Tryz.prog 318=some ⟨.ptr,1,[.pointer none]⟩:=by kernel_rfl
theorem ty325:Ba Tryz.prog 325=some ⟨.func,1,[.nilFunc]⟩:=by kernel_rfl
theorem ty333:Ba Tryz.prog 333=some ⟨.struct [(0,8),(8,1),(9,1),(10,1),(11,1)],12,[.slice none 0 0,.slice none 0 0,.slice none 0 0,.slice none 0 0,.slice none 0 0,.slice none 0 0,.slice none 0 0,.slice none 0 0,.slice none 0 0,.slice none 0 0,.slice none 0 0,.slice none 0 0]⟩:=by kernel_rfl
theorem ty334:Ba Tryz.prog 334=some ⟨.func,1,[.nilFunc]⟩:=by kernel_rfl
theorem ty351:Ba Tryz.prog 351=some ⟨.struct [(0,1),(1,1),(2,1)],3,[.int .i64 0,.int .i64 0,.slice none 0 0]⟩:=by kernel_rfl
theorem ty357:Ba Tryz.prog 357=some ⟨.struct [(0,1),(1,1),(2,1)],3,[.int .u64 0,.int .i64 0,.int .i64 0]⟩:=by kernel_rfl
theorem ty359:Ba Tryz.prog 359=some ⟨.func,1,[.nilFunc]⟩:=by kernel_rfl
theorem ty370:Ba Tryz.prog 370=some ⟨.func,1,[.nilFunc]⟩:=by kernel_rfl
theorem ty371:Ba Tryz.prog 371=some ⟨.ptr,1,[.pointer none]⟩:=by kernel_rfl
theorem ty373:Ba Tryz.prog 373=some ⟨.ptr,1,[.pointer none]⟩:=by kernel_rfl
theorem ty377:Ba Tryz.prog 377=some ⟨.slice 3 1 8 [.int .i64 0],1,[.slice none 0 0]⟩:=by kernel_rfl
theorem ty385:Ba Tryz.prog 385=some ⟨.func,1,[.nilFunc]⟩:=by kernel_rfl
theorem ty391:Ba Tryz.prog 391=some ⟨.ptr,1,[.pointer none]⟩:=by kernel_rfl
theorem ty393:Ba Tryz.prog 393=some ⟨.slice 396 3 24 [.int .i64 0,.int .i64 0,.int .i64 0],1,[.slice none 0 0]⟩:=by kernel_rfl
theorem ty396:Ba Tryz.prog 396=some ⟨.struct [(0,1),(1,1),(2,1)],3,[.int .i64 0,.int .i64 0,.int .i64 0]⟩:=by kernel_rfl
theorem ty399:Ba Tryz.prog 399=some ⟨.slice 401 5 40 [.int .i64 0,.int .i64 0,.int .i64 0,.int .i64 0,.int .i64 0],1,[.slice none 0 0]⟩:=by kernel_rfl
theorem ty401:Ba Tryz.prog 401=some ⟨.struct [(0,1),(1,1),(2,1),(3,1),(4,1)],5,[.int .i64 0,.int .i64 0,.int .i64 0,.int .i64 0,.int .i64 0]⟩:=by kernel_rfl
theorem ty405:Ba Tryz.prog 405=some ⟨.ptr,1,[.pointer none]⟩:=by kernel_rfl
theorem ty410:Ba Tryz.prog 410=some ⟨.struct [(0,8),(8,1),(9,1),(10,1),(11,1)],12,[.slice none 0 0,.slice none 0 0,.slice none 0 0,.slice none 0 0,.slice none 0 0,.slice none 0 0,.slice none 0 0,.slice none 0 0,.slice none 0 0,.int .i64 0,.int .i64 0,.slice none 0 0]⟩:=by kernel_rfl
theorem ty419:Ba Tryz.prog 419=some ⟨.struct [(0,8)],8,[.slice none 0 0,.slice none 0 0,.slice none 0 0,.slice none 0 0,.slice none 0 0,.slice none 0 0,.slice none 0 0,.slice none 0 0]⟩:=by kernel_rfl
theorem ty423:Ba Tryz.prog 423=some ⟨.ptr,1,[.pointer none]⟩:=by kernel_rfl
theorem ty425:Ba Tryz.prog 425=some ⟨.ptr,1,[.pointer none]⟩:=by kernel_rfl
theorem ty437:Ba Tryz.prog 437=some ⟨.ptr,1,[.pointer none]⟩:=by kernel_rfl
theorem ty441:Ba Tryz.prog 441=some ⟨.struct [(0,8)],8,[.slice none 0 0,.slice none 0 0,.slice none 0 0,.slice none 0 0,.slice none 0 0,.slice none 0 0,.slice none 0 0,.slice none 0 0]⟩:=by kernel_rfl
theorem ty445:Ba Tryz.prog 445=some ⟨.array 3 2 1,2,[.int .i64 0,.int .i64 0]⟩:=by kernel_rfl
theorem ty452:Ba Tryz.prog 452=some ⟨.func,1,[.nilFunc]⟩:=by kernel_rfl
theorem ty457:Ba Tryz.prog 457=some ⟨.iface,1,[.nilIface]⟩:=by kernel_rfl
theorem ty476:Ba Tryz.prog 476=some ⟨.ptr,1,[.pointer none]⟩:=by kernel_rfl
theorem ty478:Ba Tryz.prog 478=some ⟨.struct [(0,7),(7,1)],8,[.int .i64 0,.int .i64 0,.int .i64 0,.int .i64 0,.int .u32 0,.int .u32 0,.slice none 0 0,.int .i64 0]⟩:=by kernel_rfl
theorem ty480:Ba Tryz.prog 480=some ⟨.struct [(0,8),(8,1)],9,[.int .i64 0,.int .i64 0,.int .i64 0,.int .i64 0,.int .u32 0,.int .u32 0,.slice none 0 0,.int .i64 0,.int .i64 0]⟩:=by kernel_rfl
theorem ty497:Ba Tryz.prog 497=some ⟨.func,1,[.nilFunc]⟩:=by kernel_rfl
theorem ty500:Ba Tryz.prog 500=some ⟨.func,1,[.nilFunc]⟩:=by kernel_rfl
theorem ty503:Ba Tryz.prog 503=some ⟨.array 3 4 1,4,[.int .i64 0,.int .i64 0,.int .i64 0,.int .i64 0]⟩:=by kernel_rfl
theorem tq102:Og Tryz.prog 102=some [.int .i64,.int .i64,.int .i64,.int .u32]:=by kernel_rfl
theorem tq141:Og Tryz.prog 141=some [.int .i64,.int .i64,.int .i64]:=by kernel_rfl
theorem tq145:Og Tryz.prog 145=some [.int .i64,.int .i64,.int .i64,.int .u64]:=by kernel_rfl
theorem tq152:Og Tryz.prog 152=some [.int .i64,.int .i64,.string,.int .u64,.int .u32]:=by kernel_rfl
theorem tq161:Og Tryz.prog 161=some [.int .u32,.int .i64]:=by kernel_rfl
theorem tq179:Og Tryz.prog 179=some [.int .i64,.int .i64]:=by kernel_rfl
theorem tq264:Og Tryz.prog 264=some [.int .i64,.int .i64,.int .u32]:=by kernel_rfl
theorem tq357:Og Tryz.prog 357=some [.int .u64,.int .i64,.int .i64]:=by kernel_rfl
theorem tq396:Og Tryz.prog 396=some [.int .i64,.int .i64,.int .i64]:=by kernel_rfl
theorem tq401:Og Tryz.prog 401=some [.int .i64,.int .i64,.int .i64,.int .i64,.int .i64]:=by kernel_rfl
def tab:Tr TI:=(.nd 164 (⟨.func,1,[.nilFunc]⟩) (.nd 82 (⟨.struct [(0,1),(1,1),(2,1),(3,1),(4,1),(5,1),(6,1)],7,[.int .i64 0,.int .i64 0,.int .i64 0,.int .i64 0,.int .i64 0,.string .empty,.slice none 0 0]⟩) (.nd 37 (⟨.slice 152 5 48 [.int .i64 0,.int .i64 0,.string .empty,.int .u64 0,.int .u32 0],1,[.slice none 0 0]⟩) (.nd 22 (⟨.int .i64,1,[.int .i64 0]⟩) (.nd 5 (⟨.int .u8,1,[.int .u8 0]⟩) (.nd 3 (⟨.int .i64,1,[.int .i64 0]⟩) (.nd 2 (⟨.int .i64,1,[.int .i64 0]⟩) (.nd 1 (⟨.func,1,[.nilFunc]⟩) .lf .lf) .lf) (.nd 4 (⟨.bool,1,[.bool false]⟩) .lf .lf)) (.nd 13 (⟨.struct [(0,1),(1,1)],2,[.string .empty,.int .u64 0]⟩) (.nd 9 (⟨.string,1,[.string .empty]⟩) .lf .lf) (.nd 20 (⟨.iface,1,[.nilIface]⟩) .lf .lf))) (.nd 27 (⟨.slice 5 1 1 [.int .u8 0],1,[.slice none 0 0]⟩) (.nd 25 (⟨.struct [(0,1),(1,1),(2,1),(3,1),(4,1),(5,1),(6,1)],7,[.int .i64 0,.int .i64 0,.int .i64 0,.int .i64 0,.int .i64 0,.int .i64 0,.slice none 0 0]⟩) (.nd 23 (⟨.slice 30 6 80 [.int .i64 0,.int .i64 0,.int .i64 0,.int .i64 0,.slice none 0 0,.slice none 0 0],1,[.slice none 0 0]⟩) .lf .lf) (.nd 26 (⟨.func,1,[.nilFunc]⟩) .lf .lf)) (.nd 30 (⟨.struct [(0,1),(1,1),(2,1),(3,1),(4,1),(5,1)],6,[.int .i64 0,.int .i64 0,.int .i64 0,.int .i64 0,.slice none 0 0,.slice none 0 0]⟩) (.nd 28 (⟨.slice 4 1 1 [.bool false],1,[.slice none 0 0]⟩) .lf .lf) (.nd 34 (⟨.struct [(0,1),(1,1),(2,1),(3,1),(4,1),(5,1),(6,1)],7,[.int .i64 0,.int .i64 0,.int .i64 0,.int .i64 0,.int .i64 0,.int .i64 0,.slice none 0 0]⟩) .lf .lf)))) (.nd 49 (⟨.slice 73 4 72 [.int .i64 0,.string .empty,.slice none 0 0,.slice none 0 0],1,[.slice none 0 0]⟩) (.nd 42 (⟨.slice 149 4 48 [.int .i64 0,.int .i64 0,.int .i64 0,.slice none 0 0],1,[.slice none 0 0]⟩) (.nd 40 (⟨.slice 135 6 64 [.int .i64 0,.int .i64 0,.int .i64 0,.int .i64 0,.int .i64 0,.slice none 0 0],1,[.slice none 0 0]⟩) (.nd 39 (⟨.slice 141 3 24 [.int .i64 0,.int .i64 0,.int .i64 0],1,[.slice none 0 0]⟩) (.nd 38 (⟨.slice 82 7 80 [.int .i64 0,.int .i64 0,.int .i64 0,.int .i64 0,.int .i64 0,.string .empty,.slice none 0 0],1,[.slice none 0 0]⟩) .lf .lf) .lf) (.nd 41 (⟨.slice 145 4 32 [.int .i64 0,.int .i64 0,.int .i64 0,.int .u64 0],1,[.slice none 0 0]⟩) .lf .lf)) (.nd 44 (⟨.slice 163 5 40 [.int .i64 0,.int .i64 0,.int .i64 0,.int .u32 0,.int .i64 0],1,[.slice none 0 0]⟩) (.nd 43 (⟨.slice 156 5 80 [.int .i64 0,.int .i64 0,.string .empty,.slice none 0 0,.slice none 0 0],1,[.slice none 0 0]⟩) .lf .lf) (.nd 46 (⟨.struct [(0,1),(1,1),(2,1),(3,1),(4,1),(5,1),(6,1),(7,1)],8,[.slice none 0 0,.slice none 0 0,.slice none 0 0,.slice none 0 0,.slice none 0 0,.slice none 0 0,.slice none 0 0,.slice none 0 0]⟩) .lf .lf))) (.nd 68 (⟨.slice 9 1 16 [.string .empty],1,[.slice none 0 0]⟩) (.nd 57 (⟨.func,1,[.nilFunc]⟩) (.nd 52 (⟨.slice 3 1 8 [.int .i64 0],1,[.slice none 0 0]⟩) .lf .lf) (.nd 64 (⟨.slice 106 17 240 [.int .i64 0,.int .i64 0,.string .empty,.string .empty,.string .empty,.string .empty,.string .empty,.int .u64 0,.int .u32 0,.int .i64 0,.int .i64 0,.int .i64 0,.int .i64 0,.slice none 0 0,.slice none 0 0,.slice none 0 0,.slice none 0 0],1,[.slice none 0 0]⟩) .lf .lf)) (.nd 73 (⟨.struct [(0,1),(1,1),(2,1),(3,1)],4,[.int .i64 0,.string .empty,.slice none 0 0,.slice none 0 0]⟩) (.nd 71 (⟨.func,1,[.nilFunc]⟩) .lf .lf) (.nd 78 (⟨.func,1,[.nilFunc]⟩) .lf .lf))))) (.nd 128 (⟨.array 9 2 1,2,[.string .empty,.string .empty]⟩) (.nd 104 (⟨.slice 100 1 4 [.int .u32 0],1,[.slice none 0 0]⟩) (.nd 96 (⟨.slice 203 7 72 [.int .i64 0,.int .i64 0,.int .i64 0,.int .u64 0,.int .u64 0,.int .i64 0,.slice none 0 0],1,[.slice none 0 0]⟩) (.nd 92 (⟨.slice 351 3 40 [.int .i64 0,.int .i64 0,.slice none 0 0],1,[.slice none 0 0]⟩) (.nd 89 (⟨.ptr,1,[.pointer none]⟩) (.nd 85 (⟨.slice 102 4 32 [.int .i64 0,.int .i64 0,.int .i64 0,.int .u32 0],1,[.slice none 0 0]⟩) .lf .lf) .lf) (.nd 95 (⟨.func,1,[.nilFunc]⟩) .lf .lf)) (.nd 102 (⟨.struct [(0,1),(1,1),(2,1),(3,1)],4,[.int .i64 0,.int .i64 0,.int .i64 0,.int .u32 0]⟩) (.nd 100 (⟨.int .u32,1,[.int .u32 0]⟩) .lf .lf) (.nd 103 (⟨.int .u64,1,[.int .u64 0]⟩) .lf .lf))) (.nd 118 (⟨.struct [(0,0),(0,2)],2,[.int .i32 0,.int .u32 0]⟩) (.nd 109 (⟨.ptr,1,[.pointer none]⟩) (.nd 106 (⟨.struct [(0,1),(1,1),(2,1),(3,1),(4,1),(5,1),(6,1),(7,1),(8,1),(9,1),(10,1),(11,1),(12,1),(13,1),(14,1),(15,1),(16,1)],17,[.int .i64 0,.int .i64 0,.string .empty,.string .empty,.string .empty,.string .empty,.string .empty,.int .u64 0,.int .u32 0,.int .i64 0,.int .i64 0,.int .i64 0,.int .i64 0,.slice none 0 0,.slice none 0 0,.slice none 0 0,.slice none 0 0]⟩) .lf .lf) (.nd 114 (⟨.struct [(0,0),(0,1)],1,[.int .u32 0]⟩) .lf .lf)) (.nd 122 (⟨.struct [(0,3),(3,1),(4,8),(12,1),(13,1)],14,[.int .u32 0,.int .i32 0,.int .u32 0,.slice none 0 0,.slice none 0 0,.slice none 0 0,.slice none 0 0,.slice none 0 0,.slice none 0 0,.slice none 0 0,.slice none 0 0,.slice none 0 0,.int .i64 0,.int .i64 0]⟩) (.nd 120 (⟨.struct [(0,0),(0,1),(1,2)],3,[.int .u32 0,.int .i32 0,.int .u32 0]⟩) .lf .lf) (.nd 127 (⟨.func,1,[.nilFunc]⟩) .lf .lf)))) (.nd 146 (⟨.func,1,[.nilFunc]⟩) (.nd 138 (⟨.func,1,[.nilFunc]⟩) (.nd 135 (⟨.struct [(0,1),(1,1),(2,1),(3,1),(4,1),(5,1)],6,[.int .i64 0,.int .i64 0,.int .i64 0,.int .i64 0,.int .i64 0,.slice none 0 0]⟩) (.nd 132 (⟨.struct [(0,8)],8,[.slice none 0 0,.slice none 0 0,.slice none 0 0,.slice none 0 0,.slice none 0 0,.slice none 0 0,.slice none 0 0,.slice none 0 0]⟩) .lf .lf) (.nd 136 (⟨.func,1,[.nilFunc]⟩) .lf .lf)) (.nd 142 (⟨.func,1,[.nilFunc]⟩) (.nd 141 (⟨.struct [(0,1),(1,1),(2,1)],3,[.int .i64 0,.int .i64 0,.int .i64 0]⟩) .lf .lf) (.nd 145 (⟨.struct [(0,1),(1,1),(2,1),(3,1)],4,[.int .i64 0,.int .i64 0,.int .i64 0,.int .u64 0]⟩) .lf .lf))) (.nd 156 (⟨.struct [(0,1),(1,1),(2,1),(3,1),(4,1)],5,[.int .i64 0,.int .i64 0,.string .empty,.slice none 0 0,.slice none 0 0]⟩) (.nd 152 (⟨.struct [(0,1),(1,1),(2,1),(3,1),(4,1)],5,[.int .i64 0,.int .i64 0,.string .empty,.int .u64 0,.int .u32 0]⟩) (.nd 149 (⟨.struct [(0,1),(1,1),(2,1),(3,1)],4,[.int .i64 0,.int .i64 0,.int .i64 0,.slice none 0 0]⟩) .lf .lf) (.nd 153 (⟨.func,1,[.nilFunc]⟩) .lf .lf)) (.nd 161 (⟨.struct [(0,1),(1,1)],2,[.int .u32 0,.int .i64 0]⟩) (.nd 158 (⟨.func,1,[.nilFunc]⟩) .lf .lf) (.nd 163 (⟨.struct [(0,1),(1,1),(2,1),(3,2)],5,[.int .i64 0,.int .i64 0,.int .i64 0,.int .u32 0,.int .i64 0]⟩) .lf .lf)))))) (.nd 318 (⟨.ptr,1,[.pointer none]⟩) (.nd 207 (⟨.func,1,[.nilFunc]⟩) (.nd 189 (⟨.struct [(0,1),(1,3),(4,1)],5,[.slice none 0 0,.int .u32 0,.int .i32 0,.int .u32 0,.slice none 0 0]⟩) (.nd 176 (⟨.struct [(0,8),(8,2),(10,1)],11,[.slice none 0 0,.slice none 0 0,.slice none 0 0,.slice none 0 0,.slice none 0 0,.slice none 0 0,.slice none 0 0,.slice none 0 0,.slice none 0 0,.slice none 0 0,.slice none 0 0]⟩) (.nd 173 (⟨.array 28 2 1,2,[.slice none 0 0,.slice none 0 0]⟩) (.nd 172 (⟨.ptr,1,[.pointer none]⟩) (.nd 165 (⟨.int .u64,1,[.int .u64 0]⟩) .lf .lf) .lf) (.nd 174 (⟨.slice 181 7 56 [.int .i64 0,.int .i64 0,.int .i64 0,.int .i64 0,.int .i64 0,.int .u32 0,.int .i64 0],1,[.slice none 0 0]⟩) .lf .lf)) (.nd 181 (⟨.struct [(0,2),(2,4),(6,1)],7,[.int .i64 0,.int .i64 0,.int .i64 0,.int .i64 0,.int .i64 0,.int .u32 0,.int .i64 0]⟩) (.nd 179 (⟨.struct [(0,1),(1,1)],2,[.int .i64 0,.int .i64 0]⟩) .lf .lf) (.nd 187 (⟨.ptr,1,[.pointer none]⟩) .lf .lf))) (.nd 195 (⟨.array 194 64 1,64,[.int .i64 0,.int .i64 0,.int .i64 0,.int .i64 0,.int .i64 0,.int .i64 0,.int .i64 0,.int .i64 0,.int .i64 0,.int .i64 0,.int .i64 0,.int .i64 0,.int .i64 0,.int .i64 0,.int .i64 0,.int .i64 0,.int .i64 0,.int .i64 0,.int .i64 0,.int .i64 0,.int .i64 0,.int .i64 0,.int .i64 0,.int .i64 0,.int .i64 0,.int .i64 0,.int .i64 0,.int .i64 0,.int .i64 0,.int .i64 0,.int .i64 0,.int .i64 0,.int .i64 0,.int .i64 0,.int .i64 0,.int .i64 0,.int .i64 0,.int .i64 0,.int .i64 0,.int .i64 0,.int .i64 0,.int .i64 0,.int .i64 0,.int .i64 0,.int .i64 0,.int .i64 0,.int .i64 0,.int .i64 0,.int .i64 0,.int .i64 0,.int .i64 0,.int .i64 0,.int .i64 0,.int .i64 0,.int .i64 0,.int .i64 0,.int .i64 0,.int .i64 0,.int .i64 0,.int .i64 0,.int .i64 0,.int .i64 0,.int .i64 0,.int .i64 0]⟩) (.nd 191 (⟨.slice 96 1 24 [.slice none 0 0],1,[.slice none 0 0]⟩) (.nd 190 (⟨.slice 283 1 24 [.slice none 0 0],1,[.slice none 0 0]⟩) .lf .lf) (.nd 194 (⟨.struct [(0,0),(0,0),(0,1)],1,[.int .i64 0]⟩) .lf .lf)) (.nd 201 (⟨.struct [(0,1),(1,1),(2,1),(3,1)],4,[.int .u64 0,.int .u64 0,.int .i64 0,.slice none 0 0]⟩) (.nd 197 (⟨.struct [(0,8),(8,1),(9,1),(10,1),(11,1),(12,1),(13,64)],77,[.slice none 0 0,.slice none 0 0,.slice none 0 0,.slice none 0 0,.slice none 0 0,.slice none 0 0,.slice none 0 0,.slice none 0 0,.pointer none,.slice none 0 0,.slice none 0 0,.int .i64 0,.int .i64 0,.int .i64 0,.int .i64 0,.int .i64 0,.int .i64 0,.int .i64 0,.int .i64 0,.int .i64 0,.int .i64 0,.int .i64 0,.int .i64 0,.int .i64 0,.int .i64 0,.int .i64 0,.int .i64 0,.int .i64 0,.int .i64 0,.int .i64 0,.int .i64 0,.int .i64 0,.int .i64 0,.int .i64 0,.int .i64 0,.int .i64 0,.int .i64 0,.int .i64 0,.int .i64 0,.int .i64 0,.int .i64 0,.int .i64 0,.int .i64 0,.int .i64 0,.int .i64 0,.int .i64 0,.int .i64 0,.int .i64 0,.int .i64 0,.int .i64 0,.int .i64 0,.int .i64 0,.int .i64 0,.int .i64 0,.int .i64 0,.int .i64 0,.int .i64 0,.int .i64 0,.int .i64 0,.int .i64 0,.int .i64 0,.int .i64 0,.int .i64 0,.int .i64 0,.int .i64 0,.int .i64 0,.int .i64 0,.int .i64 0,.int .i64 0,.int .i64 0,.int .i64 0,.int .i64 0,.int .i64 0,.int .i64 0,.int .i64 0,.int .i64 0,.int .i64 0]⟩) .lf .lf) (.nd 203 (⟨.struct [(0,1),(1,1),(2,1),(3,4)],7,[.int .i64 0,.int .i64 0,.int .i64 0,.int .u64 0,.int .u64 0,.int .i64 0,.slice none 0 0]⟩) .lf .lf)))) (.nd 261 (⟨.slice 264 3 24 [.int .i64 0,.int .i64 0,.int .u32 0],1,[.slice none 0 0]⟩) (.nd 229 (⟨.func,1,[.nilFunc]⟩) (.nd 223 (⟨.func,1,[.nilFunc]⟩) (.nd 220 (⟨.struct [(0,1),(1,1),(2,1)],3,[.slice none 0 0,.int .i64 0,.int .i64 0]⟩) (.nd 218 (⟨.ptr,1,[.pointer none]⟩) .lf .lf) .lf) (.nd 227 (⟨.ptr,1,[.pointer none]⟩) .lf .lf)) (.nd 254 (⟨.func,1,[.nilFunc]⟩) (.nd 241 (⟨.func,1,[.nilFunc]⟩) .lf .lf) (.nd 256 (⟨.func,1,[.nilFunc]⟩) .lf .lf))) (.nd 284 (⟨.slice 290 9 104 [.int .i64 0,.int .i64 0,.int .i64 0,.slice none 0 0,.int .u64 0,.int .u64 0,.int .i64 0,.slice none 0 0,.int .i64 0],1,[.slice none 0 0]⟩) (.nd 265 (⟨.ptr,1,[.pointer none]⟩) (.nd 264 (⟨.struct [(0,1),(1,1),(2,1)],3,[.int .i64 0,.int .i64 0,.int .u32 0]⟩) .lf .lf) (.nd 283 (⟨.slice 357 3 24 [.int .u64 0,.int .i64 0,.int .i64 0],1,[.slice none 0 0]⟩) .lf .lf)) (.nd 296 (⟨.func,1,[.nilFunc]⟩) (.nd 290 (⟨.struct [(0,1),(1,1),(2,1),(3,1),(4,4),(8,1)],9,[.int .i64 0,.int .i64 0,.int .i64 0,.slice none 0 0,.int .u64 0,.int .u64 0,.int .i64 0,.slice none 0 0,.int .i64 0]⟩) .lf .lf) (.nd 299 (⟨.struct [(0,1),(1,1),(2,1),(3,1),(4,1),(5,1),(6,1)],7,[.int .i64 0,.int .i64 0,.int .i64 0,.int .i64 0,.int .u32 0,.int .u32 0,.slice none 0 0]⟩) .lf .lf))))) (.nd 405 (⟨.ptr,1,[.pointer none]⟩) (.nd 373 (⟨.ptr,1,[.pointer none]⟩) (.nd 357 (⟨.struct [(0,1),(1,1),(2,1)],3,[.int .u64 0,.int .i64 0,.int .i64 0]⟩) (.nd 334 (⟨.func,1,[.nilFunc]⟩) (.nd 333 (⟨.struct [(0,8),(8,1),(9,1),(10,1),(11,1)],12,[.slice none 0 0,.slice none 0 0,.slice none 0 0,.slice none 0 0,.slice none 0 0,.slice none 0 0,.slice none 0 0,.slice none 0 0,.slice none 0 0,.slice none 0 0,.slice none 0 0,.slice none 0 0]⟩) (.nd 325 (⟨.func,1,[.nilFunc]⟩) .lf .lf) .lf) (.nd 351 (⟨.struct [(0,1),(1,1),(2,1)],3,[.int .i64 0,.int .i64 0,.slice none 0 0]⟩) .lf .lf)) (.nd 370 (⟨.func,1,[.nilFunc]⟩) (.nd 359 (⟨.func,1,[.nilFunc]⟩) .lf .lf) (.nd 371 (⟨.ptr,1,[.pointer none]⟩) .lf .lf))) (.nd 393 (⟨.slice 396 3 24 [.int .i64 0,.int .i64 0,.int .i64 0],1,[.slice none 0 0]⟩) (.nd 385 (⟨.func,1,[.nilFunc]⟩) (.nd 377 (⟨.slice 3 1 8 [.int .i64 0],1,[.slice none 0 0]⟩) .lf .lf) (.nd 391 (⟨.ptr,1,[.pointer none]⟩) .lf .lf)) (.nd 399 (⟨.slice 401 5 40 [.int .i64 0,.int .i64 0,.int .i64 0,.int .i64 0,.int .i64 0],1,[.slice none 0 0]⟩) (.nd 396 (⟨.struct [(0,1),(1,1),(2,1)],3,[.int .i64 0,.int .i64 0,.int .i64 0]⟩) .lf .lf) (.nd 401 (⟨.struct [(0,1),(1,1),(2,1),(3,1),(4,1)],5,[.int .i64 0,.int .i64 0,.int .i64 0,.int .i64 0,.int .i64 0]⟩) .lf .lf)))) (.nd 452 (⟨.func,1,[.nilFunc]⟩) (.nd 425 (⟨.ptr,1,[.pointer none]⟩) (.nd 419 (⟨.struct [(0,8)],8,[.slice none 0 0,.slice none 0 0,.slice none 0 0,.slice none 0 0,.slice none 0 0,.slice none 0 0,.slice none 0 0,.slice none 0 0]⟩) (.nd 410 (⟨.struct [(0,8),(8,1),(9,1),(10,1),(11,1)],12,[.slice none 0 0,.slice none 0 0,.slice none 0 0,.slice none 0 0,.slice none 0 0,.slice none 0 0,.slice none 0 0,.slice none 0 0,.slice none 0 0,.int .i64 0,.int .i64 0,.slice none 0 0]⟩) .lf .lf) (.nd 423 (⟨.ptr,1,[.pointer none]⟩) .lf .lf)) (.nd 441 (⟨.struct [(0,8)],8,[.slice none 0 0,.slice none 0 0,.slice none 0 0,.slice none 0 0,.slice none 0 0,.slice none 0 0,.slice none 0 0,.slice none 0 0]⟩) (.nd 437 (⟨.ptr,1,[.pointer none]⟩) .lf .lf) (.nd 445 (⟨.array 3 2 1,2,[.int .i64 0,.int .i64 0]⟩) .lf .lf))) (.nd 480 (⟨.struct [(0,8),(8,1)],9,[.int .i64 0,.int .i64 0,.int .i64 0,.int .i64 0,.int .u32 0,.int .u32 0,.slice none 0 0,.int .i64 0,.int .i64 0]⟩) (.nd 476 (⟨.ptr,1,[.pointer none]⟩) (.nd 457 (⟨.iface,1,[.nilIface]⟩) .lf .lf) (.nd 478 (⟨.struct [(0,7),(7,1)],8,[.int .i64 0,.int .i64 0,.int .i64 0,.int .i64 0,.int .u32 0,.int .u32 0,.slice none 0 0,.int .i64 0]⟩) .lf .lf)) (.nd 500 (⟨.func,1,[.nilFunc]⟩) (.nd 497 (⟨.func,1,[.nilFunc]⟩) .lf .lf) (.nd 503 (⟨.array 3 4 1,4,[.int .i64 0,.int .i64 0,.int .i64 0,.int .i64 0]⟩) .lf .lf)))))))
def etab:Tr (List EK):=(.nd 179 ([.int .i64,.int .i64]) (.nd 145 ([.int .i64,.int .i64,.int .i64,.int .u64]) (.nd 141 ([.int .i64,.int .i64,.int .i64]) (.nd 102 ([.int .i64,.int .i64,.int .i64,.int .u32]) .lf .lf) .lf) (.nd 161 ([.int .u32,.int .i64]) (.nd 152 ([.int .i64,.int .i64,.string,.int .u64,.int .u32]) .lf .lf) .lf)) (.nd 396 ([.int .i64,.int .i64,.int .i64]) (.nd 357 ([.int .u64,.int .i64,.int .i64]) (.nd 264 ([.int .i64,.int .i64,.int .u32]) .lf .lf) .lf) (.nd 401 ([.int .i64,.int .i64,.int .i64,.int .i64,.int .i64]) .lf .lf)))
theorem tab_ok:tab.all (λ t i=>Ba Tryz.prog t=some i):=⟨ty164,⟨ty82,⟨ty37,⟨ty22,⟨ty5,⟨ty3,⟨ty2,⟨ty1,trivial,trivial⟩,trivial⟩,⟨ty4,trivial,trivial⟩⟩,⟨ty13,⟨ty9,trivial,trivial⟩,⟨ty20,trivial,trivial⟩⟩⟩,⟨ty27,⟨ty25,⟨ty23,trivial,trivial⟩,⟨ty26,trivial,trivial⟩⟩,⟨ty30,⟨ty28,trivial,trivial⟩,⟨ty34,trivial,trivial⟩⟩⟩⟩,⟨ty49,⟨ty42,⟨ty40,⟨ty39,⟨ty38,trivial,trivial⟩,trivial⟩,⟨ty41,trivial,trivial⟩⟩,⟨ty44,⟨ty43,trivial,trivial⟩,⟨ty46,trivial,trivial⟩⟩⟩,⟨ty68,⟨ty57,⟨ty52,trivial,trivial⟩,⟨ty64,trivial,trivial⟩⟩,⟨ty73,⟨ty71,trivial,trivial⟩,⟨ty78,trivial,trivial⟩⟩⟩⟩⟩,⟨ty128,⟨ty104,⟨ty96,⟨ty92,⟨ty89,⟨ty85,trivial,trivial⟩,trivial⟩,⟨ty95,trivial,trivial⟩⟩,⟨ty102,⟨ty100,trivial,trivial⟩,⟨ty103,trivial,trivial⟩⟩⟩,⟨ty118,⟨ty109,⟨ty106,trivial,trivial⟩,⟨ty114,trivial,trivial⟩⟩,⟨ty122,⟨ty120,trivial,trivial⟩,⟨ty127,trivial,trivial⟩⟩⟩⟩,⟨ty146,⟨ty138,⟨ty135,⟨ty132,trivial,trivial⟩,⟨ty136,trivial,trivial⟩⟩,⟨ty142,⟨ty141,trivial,trivial⟩,⟨ty145,trivial,trivial⟩⟩⟩,⟨ty156,⟨ty152,⟨ty149,trivial,trivial⟩,⟨ty153,trivial,trivial⟩⟩,⟨ty161,⟨ty158,trivial,trivial⟩,⟨ty163,trivial,trivial⟩⟩⟩⟩⟩⟩,⟨ty318,⟨ty207,⟨ty189,⟨ty176,⟨ty173,⟨ty172,⟨ty165,trivial,trivial⟩,trivial⟩,⟨ty174,trivial,trivial⟩⟩,⟨ty181,⟨ty179,trivial,trivial⟩,⟨ty187,trivial,trivial⟩⟩⟩,⟨ty195,⟨ty191,⟨ty190,trivial,trivial⟩,⟨ty194,trivial,trivial⟩⟩,⟨ty201,⟨ty197,trivial,trivial⟩,⟨ty203,trivial,trivial⟩⟩⟩⟩,⟨ty261,⟨ty229,⟨ty223,⟨ty220,⟨ty218,trivial,trivial⟩,trivial⟩,⟨ty227,trivial,trivial⟩⟩,⟨ty254,⟨ty241,trivial,trivial⟩,⟨ty256,trivial,trivial⟩⟩⟩,⟨ty284,⟨ty265,⟨ty264,trivial,trivial⟩,⟨ty283,trivial,trivial⟩⟩,⟨ty296,⟨ty290,trivial,trivial⟩,⟨ty299,trivial,trivial⟩⟩⟩⟩⟩,⟨ty405,⟨ty373,⟨ty357,⟨ty334,⟨ty333,⟨ty325,trivial,trivial⟩,trivial⟩,⟨ty351,trivial,trivial⟩⟩,⟨ty370,⟨ty359,trivial,trivial⟩,⟨ty371,trivial,trivial⟩⟩⟩,⟨ty393,⟨ty385,⟨ty377,trivial,trivial⟩,⟨ty391,trivial,trivial⟩⟩,⟨ty399,⟨ty396,trivial,trivial⟩,⟨ty401,trivial,trivial⟩⟩⟩⟩,⟨ty452,⟨ty425,⟨ty419,⟨ty410,trivial,trivial⟩,⟨ty423,trivial,trivial⟩⟩,⟨ty441,⟨ty437,trivial,trivial⟩,⟨ty445,trivial,trivial⟩⟩⟩,⟨ty480,⟨ty476,⟨ty457,trivial,trivial⟩,⟨ty478,trivial,trivial⟩⟩,⟨ty500,⟨ty497,trivial,trivial⟩,⟨ty503,trivial,trivial⟩⟩⟩⟩⟩⟩⟩
theorem A0x:etab.all (λ t i=>Og Tryz.prog t=some i):=⟨tq179,⟨tq145,⟨tq141,⟨tq102,trivial,trivial⟩,trivial⟩,⟨tq161,⟨tq152,trivial,trivial⟩,trivial⟩⟩,⟨tq396,⟨tq357,⟨tq264,trivial,trivial⟩,trivial⟩,⟨tq401,trivial,trivial⟩⟩⟩
def Γ:TyE Tryz.prog:=⟨⟨λ t=>tab.look t,λ _ _ h=>Azv (Tr.look_ok tab_ok h)⟩,λ t=>etab.look t,λ _ _ h=>Ayo (Tr.look_ok A0x h)⟩
theorem hm:Tryz.prog.follows .mixedOrders=true:=by kernel_rfl
abbrev Sq:=Sy.Spec Tryz.prog
abbrev Sp (f:FuncId) (A:List SV) (R:SV):Prop:=Sy.Spec Tryz.prog f A [] R []
abbrev fT (i:Nat) (fn:Func):Prop:=Fun Tryz.prog i fn (Ae3 fn)
theorem fN {P : Program} {f : FuncId} {fn : Func} (h : P.funcs[f]? = some fn) (hb : fn.body = some (Ae3 fn) := by exact rfl) (hn : (fn.name == "runtime.NumGoroutine") = false := by kernel_rfl) : Fun P f fn (Ae3 fn) := ⟨h, hb, hn⟩
theorem cT {f:FuncId} {fn:Func} {c:Code} {A:List SV} {H:Obs} {R:SV} {H':Obs} (hF:Fun Tryz.prog f fn c) {n:Nat} (hn':fn.ntmps=n)
  (h:∀ (F:Fr) (hF:∀ k,F.k0 k≠.new→k∈H.keys),L6 ⟨Tryz.prog,Γ.toTy,F,n,Us Tryz.prog fn F R H',H.keys,hF⟩ Γ 100 [.code c] ⟨argσ A,mkh H⟩) (hn:Al4 A n=true:=by exact rfl):Sy.Spec Tryz.prog f A H R H':=Oj Γ hm 100 hF hn' hn h
theorem F3:fT 3 Tryz.f3:=fN Tryz.func3
theorem F4:fT 4 Tryz.f4:=fN Tryz.func4
theorem F5:fT 5 Tryz.f5:=fN Tryz.func5
theorem F6:fT 6 Tryz.f6:=fN Tryz.func6
theorem F7:fT 7 Tryz.f7:=fN Tryz.func7
theorem F8:fT 8 Tryz.f8:=fN Tryz.func8
theorem F9:fT 9 Tryz.f9:=fN Tryz.func9
theorem F10:fT 10 Tryz.f10:=fN Tryz.func10
theorem F11:fT 11 Tryz.f11:=fN Tryz.func11
theorem F12:fT 12 Tryz.f12:=fN Tryz.func12
theorem F13:fT 13 Tryz.f13:=fN Tryz.func13
theorem F14:fT 14 Tryz.f14:=fN Tryz.func14
theorem F15:fT 15 Tryz.f15:=fN Tryz.func15
theorem F16:fT 16 Tryz.f16:=fN Tryz.func16
theorem F17:fT 17 Tryz.f17:=fN Tryz.func17
theorem F18:fT 18 Tryz.f18:=fN Tryz.func18
theorem F19:fT 19 Tryz.f19:=fN Tryz.func19
theorem F20:fT 20 Tryz.f20:=fN Tryz.func20
theorem F21:fT 21 Tryz.f21:=fN Tryz.func21
theorem F22:fT 22 Tryz.f22:=fN Tryz.func22
theorem F23:fT 23 Tryz.f23:=fN Tryz.func23
theorem F24:fT 24 Tryz.f24:=fN Tryz.func24
theorem F25:fT 25 Tryz.f25:=fN Tryz.func25
theorem F26:fT 26 Tryz.f26:=fN Tryz.func26
theorem F27:fT 27 Tryz.f27:=fN Tryz.func27
theorem F28:fT 28 Tryz.f28:=fN Tryz.func28
theorem F29:fT 29 Tryz.f29:=fN Tryz.func29
theorem F30:fT 30 Tryz.f30:=fN Tryz.func30
theorem F31:fT 31 Tryz.f31:=fN Tryz.func31
theorem F32:fT 32 Tryz.f32:=fN Tryz.func32
theorem F33:fT 33 Tryz.f33:=fN Tryz.func33
theorem F34:fT 34 Tryz.f34:=fN Tryz.func34
theorem F35:fT 35 Tryz.f35:=fN Tryz.func35
theorem F36:fT 36 Tryz.f36:=fN Tryz.func36
theorem F37:fT 37 Tryz.f37:=fN Tryz.func37
theorem F38:fT 38 Tryz.f38:=fN Tryz.func38
theorem F39:fT 39 Tryz.f39:=fN Tryz.func39
theorem F41:fT 41 Tryz.f41:=fN Tryz.func41
theorem F42:fT 42 Tryz.f42:=fN Tryz.func42
theorem F43:fT 43 Tryz.f43:=fN Tryz.func43
theorem F44:fT 44 Tryz.f44:=fN Tryz.func44
theorem F45:fT 45 Tryz.f45:=fN Tryz.func45
theorem F46:fT 46 Tryz.f46:=fN Tryz.func46
theorem F47:fT 47 Tryz.f47:=fN Tryz.func47
theorem F48:fT 48 Tryz.f48:=fN Tryz.func48
theorem F49:fT 49 Tryz.f49:=fN Tryz.func49
theorem F50:fT 50 Tryz.f50:=fN Tryz.func50
theorem F51:fT 51 Tryz.f51:=fN Tryz.func51
theorem F52:fT 52 Tryz.f52:=fN Tryz.func52
theorem F53:fT 53 Tryz.f53:=fN Tryz.func53
theorem F54:fT 54 Tryz.f54:=fN Tryz.func54
theorem F55:fT 55 Tryz.f55:=fN Tryz.func55
theorem F56:fT 56 Tryz.f56:=fN Tryz.func56
theorem F57:fT 57 Tryz.f57:=fN Tryz.func57
theorem F58:fT 58 Tryz.f58:=fN Tryz.func58
theorem F59:fT 59 Tryz.f59:=fN Tryz.func59
theorem F60:fT 60 Tryz.f60:=fN Tryz.func60
theorem F61:fT 61 Tryz.f61:=fN Tryz.func61
theorem F62:fT 62 Tryz.f62:=fN Tryz.func62
theorem F63:fT 63 Tryz.f63:=fN Tryz.func63
theorem F64:fT 64 Tryz.f64:=fN Tryz.func64
theorem F65:fT 65 Tryz.f65:=fN Tryz.func65
theorem F66:fT 66 Tryz.f66:=fN Tryz.func66
theorem F67:fT 67 Tryz.f67:=fN Tryz.func67
theorem F68:fT 68 Tryz.f68:=fN Tryz.func68
theorem F69:fT 69 Tryz.f69:=fN Tryz.func69
theorem F70:fT 70 Tryz.f70:=fN Tryz.func70
theorem F71:fT 71 Tryz.f71:=fN Tryz.func71
theorem F72:fT 72 Tryz.f72:=fN Tryz.func72
theorem F73:fT 73 Tryz.f73:=fN Tryz.func73
theorem F74:fT 74 Tryz.f74:=fN Tryz.func74
theorem F75:fT 75 Tryz.f75:=fN Tryz.func75
theorem F76:fT 76 Tryz.f76:=fN Tryz.func76
theorem F77:fT 77 Tryz.f77:=fN Tryz.func77
theorem F78:fT 78 Tryz.f78:=fN Tryz.func78
theorem F79:fT 79 Tryz.f79:=fN Tryz.func79
theorem F80:fT 80 Tryz.f80:=fN Tryz.func80
theorem F81:fT 81 Tryz.f81:=fN Tryz.func81
theorem F82:fT 82 Tryz.f82:=fN Tryz.func82
theorem F83:fT 83 Tryz.f83:=fN Tryz.func83
theorem F84:fT 84 Tryz.f84:=fN Tryz.func84
theorem F85:fT 85 Tryz.f85:=fN Tryz.func85
theorem F86:fT 86 Tryz.f86:=fN Tryz.func86
theorem F87:fT 87 Tryz.f87:=fN Tryz.func87
theorem F88:fT 88 Tryz.f88:=fN Tryz.func88
theorem F89:fT 89 Tryz.f89:=fN Tryz.func89
theorem F90:fT 90 Tryz.f90:=fN Tryz.func90
theorem F91:fT 91 Tryz.f91:=fN Tryz.func91
theorem F92:fT 92 Tryz.f92:=fN Tryz.func92
theorem F93:fT 93 Tryz.f93:=fN Tryz.func93
theorem F94:fT 94 Tryz.f94:=fN Tryz.func94
theorem F95:fT 95 Tryz.f95:=fN Tryz.func95
theorem F96:fT 96 Tryz.f96:=fN Tryz.func96
theorem F97:fT 97 Tryz.f97:=fN Tryz.func97
theorem F98:fT 98 Tryz.f98:=fN Tryz.func98
theorem F99:fT 99 Tryz.f99:=fN Tryz.func99
theorem F100:fT 100 Tryz.f100:=fN Tryz.func100
theorem F101:fT 101 Tryz.f101:=fN Tryz.func101
theorem F102:fT 102 Tryz.f102:=fN Tryz.func102
theorem F103:fT 103 Tryz.f103:=fN Tryz.func103
theorem F104:fT 104 Tryz.f104:=fN Tryz.func104
theorem F105:fT 105 Tryz.f105:=fN Tryz.func105
theorem F106:fT 106 Tryz.f106:=fN Tryz.func106
theorem F107:fT 107 Tryz.f107:=fN Tryz.func107
theorem F109:fT 109 Tryz.f109:=fN Tryz.func109
theorem F110:fT 110 Tryz.f110:=fN Tryz.func110
theorem F111:fT 111 Tryz.f111:=fN Tryz.func111
theorem F112:fT 112 Tryz.f112:=fN Tryz.func112
theorem F113:fT 113 Tryz.f113:=fN Tryz.func113
theorem F114:fT 114 Tryz.f114:=fN Tryz.func114
theorem F115:fT 115 Tryz.f115:=fN Tryz.func115
theorem F116:fT 116 Tryz.f116:=fN Tryz.func116
theorem F117:fT 117 Tryz.f117:=fN Tryz.func117
theorem F118:fT 118 Tryz.f118:=fN Tryz.func118
theorem F119:fT 119 Tryz.f119:=fN Tryz.func119
theorem F120:fT 120 Tryz.f120:=fN Tryz.func120
theorem F121:fT 121 Tryz.f121:=fN Tryz.func121
theorem F123:fT 123 Tryz.f123:=fN Tryz.func123
theorem F124:fT 124 Tryz.f124:=fN Tryz.func124
theorem F125:fT 125 Tryz.f125:=fN Tryz.func125
theorem F126:fT 126 Tryz.f126:=fN Tryz.func126
theorem F127:fT 127 Tryz.f127:=fN Tryz.func127
theorem F128:fT 128 Tryz.f128:=fN Tryz.func128
theorem F129:fT 129 Tryz.f129:=fN Tryz.func129
theorem F130:fT 130 Tryz.f130:=fN Tryz.func130
theorem F131:fT 131 Tryz.f131:=fN Tryz.func131
theorem F132:fT 132 Tryz.f132:=fN Tryz.func132
theorem F133:fT 133 Tryz.f133:=fN Tryz.func133
theorem F134:fT 134 Tryz.f134:=fN Tryz.func134
theorem F135:fT 135 Tryz.f135:=fN Tryz.func135
theorem F136:fT 136 Tryz.f136:=fN Tryz.func136
theorem F137:fT 137 Tryz.f137:=fN Tryz.func137
theorem F138:fT 138 Tryz.f138:=fN Tryz.func138
theorem F139:fT 139 Tryz.f139:=fN Tryz.func139
theorem F140:fT 140 Tryz.f140:=fN Tryz.func140
theorem F141:fT 141 Tryz.f141:=fN Tryz.func141
theorem F142:fT 142 Tryz.f142:=fN Tryz.func142
theorem F143:fT 143 Tryz.f143:=fN Tryz.func143
theorem F144:fT 144 Tryz.f144:=fN Tryz.func144
theorem F145:fT 145 Tryz.f145:=fN Tryz.func145
theorem F146:fT 146 Tryz.f146:=fN Tryz.func146
theorem F147:fT 147 Tryz.f147:=fN Tryz.func147
theorem F148:fT 148 Tryz.f148:=fN Tryz.func148
theorem F149:fT 149 Tryz.f149:=fN Tryz.func149
theorem F150:fT 150 Tryz.f150:=fN Tryz.func150
theorem F151:fT 151 Tryz.f151:=fN Tryz.func151
theorem F152:fT 152 Tryz.f152:=fN Tryz.func152
theorem F153:fT 153 Tryz.f153:=fN Tryz.func153
theorem F154:fT 154 Tryz.f154:=fN Tryz.func154
theorem F155:fT 155 Tryz.f155:=fN Tryz.func155
theorem F156:fT 156 Tryz.f156:=fN Tryz.func156
theorem F157:fT 157 Tryz.f157:=fN Tryz.func157
theorem F158:fT 158 Tryz.f158:=fN Tryz.func158
theorem F159:fT 159 Tryz.f159:=fN Tryz.func159
theorem F160:fT 160 Tryz.f160:=fN Tryz.func160
theorem F161:fT 161 Tryz.f161:=fN Tryz.func161
theorem F162:fT 162 Tryz.f162:=fN Tryz.func162
theorem F163:fT 163 Tryz.f163:=fN Tryz.func163
theorem F164:fT 164 Tryz.f164:=fN Tryz.func164
theorem F165:fT 165 Tryz.f165:=fN Tryz.func165
theorem F167:fT 167 Tryz.f167:=fN Tryz.func167
theorem F168:fT 168 Tryz.f168:=fN Tryz.func168
theorem F169:fT 169 Tryz.f169:=fN Tryz.func169
theorem F170:fT 170 Tryz.f170:=fN Tryz.func170
theorem F171:fT 171 Tryz.f171:=fN Tryz.func171
theorem F172:fT 172 Tryz.f172:=fN Tryz.func172
theorem F173:fT 173 Tryz.f173:=fN Tryz.func173
theorem F174:fT 174 Tryz.f174:=fN Tryz.func174
theorem F175:fT 175 Tryz.f175:=fN Tryz.func175
theorem F176:fT 176 Tryz.f176:=fN Tryz.func176
theorem F178:fT 178 Tryz.f178:=fN Tryz.func178
theorem F179:fT 179 Tryz.f179:=fN Tryz.func179
theorem F180:fT 180 Tryz.f180:=fN Tryz.func180
theorem F181:fT 181 Tryz.f181:=fN Tryz.func181
theorem F182:fT 182 Tryz.f182:=fN Tryz.func182
theorem F183:fT 183 Tryz.f183:=fN Tryz.func183
theorem F184:fT 184 Tryz.f184:=fN Tryz.func184
theorem F185:fT 185 Tryz.f185:=fN Tryz.func185
theorem F186:fT 186 Tryz.f186:=fN Tryz.func186
theorem F187:fT 187 Tryz.f187:=fN Tryz.func187
theorem F188:fT 188 Tryz.f188:=fN Tryz.func188
theorem F189:fT 189 Tryz.f189:=fN Tryz.func189
theorem F190:fT 190 Tryz.f190:=fN Tryz.func190
theorem F191:fT 191 Tryz.f191:=fN Tryz.func191
theorem F192:fT 192 Tryz.f192:=fN Tryz.func192
theorem F193:fT 193 Tryz.f193:=fN Tryz.func193
theorem F194:fT 194 Tryz.f194:=fN Tryz.func194
theorem F195:fT 195 Tryz.f195:=fN Tryz.func195
theorem F196:fT 196 Tryz.f196:=fN Tryz.func196
theorem F197:fT 197 Tryz.f197:=fN Tryz.func197
theorem F198:fT 198 Tryz.f198:=fN Tryz.func198
theorem F199:fT 199 Tryz.f199:=fN Tryz.func199
theorem F200:fT 200 Tryz.f200:=fN Tryz.func200
theorem F201:fT 201 Tryz.f201:=fN Tryz.func201
theorem F202:fT 202 Tryz.f202:=fN Tryz.func202
theorem F203:fT 203 Tryz.f203:=fN Tryz.func203
theorem F204:fT 204 Tryz.f204:=fN Tryz.func204
theorem F205:fT 205 Tryz.f205:=fN Tryz.func205
theorem F206:fT 206 Tryz.f206:=fN Tryz.func206
theorem F207:fT 207 Tryz.f207:=fN Tryz.func207
theorem F208:fT 208 Tryz.f208:=fN Tryz.func208
theorem F209:fT 209 Tryz.f209:=fN Tryz.func209
theorem F210:fT 210 Tryz.f210:=fN Tryz.func210
theorem F211:fT 211 Tryz.f211:=fN Tryz.func211
theorem F212:fT 212 Tryz.f212:=fN Tryz.func212
theorem F213:fT 213 Tryz.f213:=fN Tryz.func213
theorem F214:fT 214 Tryz.f214:=fN Tryz.func214
theorem F215:fT 215 Tryz.f215:=fN Tryz.func215
theorem F216:fT 216 Tryz.f216:=fN Tryz.func216
theorem F217:fT 217 Tryz.f217:=fN Tryz.func217
theorem F218:fT 218 Tryz.f218:=fN Tryz.func218
theorem F219:fT 219 Tryz.f219:=fN Tryz.func219
theorem F220:fT 220 Tryz.f220:=fN Tryz.func220
theorem F221:fT 221 Tryz.f221:=fN Tryz.func221
theorem F222:fT 222 Tryz.f222:=fN Tryz.func222
theorem F223:fT 223 Tryz.f223:=fN Tryz.func223
theorem F225:fT 225 Tryz.f225:=fN Tryz.func225
theorem F226:fT 226 Tryz.f226:=fN Tryz.func226
theorem F227:fT 227 Tryz.f227:=fN Tryz.func227
theorem F228:fT 228 Tryz.f228:=fN Tryz.func228
theorem F233:fT 233 Tryz.f233:=fN Tryz.func233
theorem F234:fT 234 Tryz.f234:=fN Tryz.func234
theorem F235:fT 235 Tryz.f235:=fN Tryz.func235
theorem F236:fT 236 Tryz.f236:=fN Tryz.func236
theorem F237:fT 237 Tryz.f237:=fN Tryz.func237
theorem F238:fT 238 Tryz.f238:=fN Tryz.func238
theorem F239:fT 239 Tryz.f239:=fN Tryz.func239
theorem F240:fT 240 Tryz.f240:=fN Tryz.func240
theorem F241:fT 241 Tryz.f241:=fN Tryz.func241
theorem F242:fT 242 Tryz.f242:=fN Tryz.func242
theorem F243:fT 243 Tryz.f243:=fN Tryz.func243
theorem F244:fT 244 Tryz.f244:=fN Tryz.func244
theorem F245:fT 245 Tryz.f245:=fN Tryz.func245
theorem F246:fT 246 Tryz.f246:=fN Tryz.func246
theorem F247:fT 247 Tryz.f247:=fN Tryz.func247
theorem F248:fT 248 Tryz.f248:=fN Tryz.func248
theorem F249:fT 249 Tryz.f249:=fN Tryz.func249
theorem F254:fT 254 Tryz.f254:=fN Tryz.func254
theorem F255:fT 255 Tryz.f255:=fN Tryz.func255
theorem F256:fT 256 Tryz.f256:=fN Tryz.func256
theorem F257:fT 257 Tryz.f257:=fN Tryz.func257
theorem F258:fT 258 Tryz.f258:=fN Tryz.func258
theorem F259:fT 259 Tryz.f259:=fN Tryz.func259
theorem F260:fT 260 Tryz.f260:=fN Tryz.func260
theorem F261:fT 261 Tryz.f261:=fN Tryz.func261
theorem F262:fT 262 Tryz.f262:=fN Tryz.func262
theorem F263:fT 263 Tryz.f263:=fN Tryz.func263
theorem F264:fT 264 Tryz.f264:=fN Tryz.func264
theorem F265:fT 265 Tryz.f265:=fN Tryz.func265
theorem F266:fT 266 Tryz.f266:=fN Tryz.func266
theorem F267:fT 267 Tryz.f267:=fN Tryz.func267
theorem F268:fT 268 Tryz.f268:=fN Tryz.func268
theorem F269:fT 269 Tryz.f269:=fN Tryz.func269
theorem F270:fT 270 Tryz.f270:=fN Tryz.func270
theorem F271:fT 271 Tryz.f271:=fN Tryz.func271
theorem F272:fT 272 Tryz.f272:=fN Tryz.func272
theorem F273:fT 273 Tryz.f273:=fN Tryz.func273
theorem F274:fT 274 Tryz.f274:=fN Tryz.func274
theorem F275:fT 275 Tryz.f275:=fN Tryz.func275
theorem F276:fT 276 Tryz.f276:=fN Tryz.func276
theorem F277:fT 277 Tryz.f277:=fN Tryz.func277
theorem F278:fT 278 Tryz.f278:=fN Tryz.func278
theorem F279:fT 279 Tryz.f279:=fN Tryz.func279
theorem F280:fT 280 Tryz.f280:=fN Tryz.func280
theorem F281:fT 281 Tryz.f281:=fN Tryz.func281
theorem F282:fT 282 Tryz.f282:=fN Tryz.func282
theorem F283:fT 283 Tryz.f283:=fN Tryz.func283
theorem F284:fT 284 Tryz.f284:=fN Tryz.func284
theorem F285:fT 285 Tryz.f285:=fN Tryz.func285
theorem F287:fT 287 Tryz.f287:=fN Tryz.func287
theorem F288:fT 288 Tryz.f288:=fN Tryz.func288
theorem F289:fT 289 Tryz.f289:=fN Tryz.func289
theorem F290:fT 290 Tryz.f290:=fN Tryz.func290
theorem F291:fT 291 Tryz.f291:=fN Tryz.func291
theorem F300:fT 300 Tryz.f300:=fN Tryz.func300
theorem F301:fT 301 Tryz.f301:=fN Tryz.func301
theorem F302:fT 302 Tryz.f302:=fN Tryz.func302
theorem F303:fT 303 Tryz.f303:=fN Tryz.func303
theorem F304:fT 304 Tryz.f304:=fN Tryz.func304
theorem F305:fT 305 Tryz.f305:=fN Tryz.func305
theorem F306:fT 306 Tryz.f306:=fN Tryz.func306
theorem F307:fT 307 Tryz.f307:=fN Tryz.func307
theorem F308:fT 308 Tryz.f308:=fN Tryz.func308
theorem F309:fT 309 Tryz.f309:=fN Tryz.func309
theorem F310:fT 310 Tryz.f310:=fN Tryz.func310
theorem F311:fT 311 Tryz.f311:=fN Tryz.func311
theorem F312:fT 312 Tryz.f312:=fN Tryz.func312
theorem F313:fT 313 Tryz.f313:=fN Tryz.func313
theorem F314:fT 314 Tryz.f314:=fN Tryz.func314
theorem F315:fT 315 Tryz.f315:=fN Tryz.func315
theorem F316:fT 316 Tryz.f316:=fN Tryz.func316
theorem F317:fT 317 Tryz.f317:=fN Tryz.func317
theorem F320:fT 320 Tryz.f320:=fN Tryz.func320
theorem F321:fT 321 Tryz.f321:=fN Tryz.func321
theorem F322:fT 322 Tryz.f322:=fN Tryz.func322
theorem F323:fT 323 Tryz.f323:=fN Tryz.func323
theorem F324:fT 324 Tryz.f324:=fN Tryz.func324
theorem F325:fT 325 Tryz.f325:=fN Tryz.func325
theorem F326:fT 326 Tryz.f326:=fN Tryz.func326
theorem F327:fT 327 Tryz.f327:=fN Tryz.func327
theorem F328:fT 328 Tryz.f328:=fN Tryz.func328
theorem F329:fT 329 Tryz.f329:=fN Tryz.func329
theorem F330:fT 330 Tryz.f330:=fN Tryz.func330
theorem F331:fT 331 Tryz.f331:=fN Tryz.func331
theorem F332:fT 332 Tryz.f332:=fN Tryz.func332
theorem F333:fT 333 Tryz.f333:=fN Tryz.func333
theorem F334:fT 334 Tryz.f334:=fN Tryz.func334
theorem F335:fT 335 Tryz.f335:=fN Tryz.func335
theorem F336:fT 336 Tryz.f336:=fN Tryz.func336
theorem F337:fT 337 Tryz.f337:=fN Tryz.func337
theorem F338:fT 338 Tryz.f338:=fN Tryz.func338
theorem F339:fT 339 Tryz.f339:=fN Tryz.func339
theorem F340:fT 340 Tryz.f340:=fN Tryz.func340
theorem F341:fT 341 Tryz.f341:=fN Tryz.func341
theorem F342:fT 342 Tryz.f342:=fN Tryz.func342
theorem F343:fT 343 Tryz.f343:=fN Tryz.func343
theorem F344:fT 344 Tryz.f344:=fN Tryz.func344
theorem F345:fT 345 Tryz.f345:=fN Tryz.func345
theorem F346:fT 346 Tryz.f346:=fN Tryz.func346
theorem F347:fT 347 Tryz.f347:=fN Tryz.func347
theorem F348:fT 348 Tryz.f348:=fN Tryz.func348
theorem F349:fT 349 Tryz.f349:=fN Tryz.func349
theorem F350:fT 350 Tryz.f350:=fN Tryz.func350
theorem F351:fT 351 Tryz.f351:=fN Tryz.func351
theorem F352:fT 352 Tryz.f352:=fN Tryz.func352
theorem F353:fT 353 Tryz.f353:=fN Tryz.func353
theorem F354:fT 354 Tryz.f354:=fN Tryz.func354
theorem F365:fT 365 Tryz.f365:=fN Tryz.func365
theorem F366:fT 366 Tryz.f366:=fN Tryz.func366
theorem F367:fT 367 Tryz.f367:=fN Tryz.func367
theorem F368:fT 368 Tryz.f368:=fN Tryz.func368
theorem F369:fT 369 Tryz.f369:=fN Tryz.func369
theorem F370:fT 370 Tryz.f370:=fN Tryz.func370
theorem F371:fT 371 Tryz.f371:=fN Tryz.func371
theorem F372:fT 372 Tryz.f372:=fN Tryz.func372
theorem F373:fT 373 Tryz.f373:=fN Tryz.func373
theorem F374:fT 374 Tryz.f374:=fN Tryz.func374
theorem F376:fT 376 Tryz.f376:=fN Tryz.func376
theorem F377:fT 377 Tryz.f377:=fN Tryz.func377
theorem F378:fT 378 Tryz.f378:=fN Tryz.func378
theorem F379:fT 379 Tryz.f379:=fN Tryz.func379
theorem F380:fT 380 Tryz.f380:=fN Tryz.func380
theorem F388:fT 388 Tryz.f388:=fN Tryz.func388
theorem F389:fT 389 Tryz.f389:=fN Tryz.func389
theorem F390:fT 390 Tryz.f390:=fN Tryz.func390
theorem F391:fT 391 Tryz.f391:=fN Tryz.func391
theorem F392:fT 392 Tryz.f392:=fN Tryz.func392
theorem F393:fT 393 Tryz.f393:=fN Tryz.func393
theorem F395:fT 395 Tryz.f395:=fN Tryz.func395
theorem F396:fT 396 Tryz.f396:=fN Tryz.func396
theorem F417:fT 417 Tryz.f417:=fN Tryz.func417
theorem F418:fT 418 Tryz.f418:=fN Tryz.func418
theorem F419:fT 419 Tryz.f419:=fN Tryz.func419
theorem F420:fT 420 Tryz.f420:=fN Tryz.func420
theorem rg {F:Fr} {n:Nat} {B:Exit→Act→World→Prop} {bn:List Nat} {hbn:∀ k,F.k0 k≠.new→k∈bn} {k:List KI} {s:SS} (h:L6 ⟨Tryz.prog,Γ.toTy,F,n,B,bn,hbn⟩ Γ 400 k s):G ⟨Tryz.prog,Γ.toTy,F,n,B,bn,hbn⟩ k s:=rG Γ hm h
theorem rd {F:Fr} {n:Nat} {B:Exit→Act→World→Prop} {bn:List Nat} {hbn:∀ k,F.k0 k≠.new→k∈bn} {k:List KI} {s:SS} {all:Array Oper} {done:List Stp} {rest:List Oper} (hs:all.toList=done.map (·.o)++rest) (h:Yc ⟨Tryz.prog,Γ.toTy,F,n,B,bn,hbn⟩ Γ 400 k all done rest s):DR ⟨Tryz.prog,Γ.toTy,F,n,B,bn,hbn⟩ k all done rest s:=rD Γ hm hs h
structure Bq (Q:Prop):Prop where out:Q
theorem oO {P Q:Prop} (h:Q) (e:Bq Q→P:=by intro hb;refine rg ?_;(conv=>whnf);exact hb.out):P:=e ⟨h⟩
theorem oF {P Q:Prop} (h:Q) (e:Bq Q→P:=by intro hb;refine rg ?_;(conv=>whnf);refine aF ?_;refine rg ?_;(conv=>whnf);exact hb.out):P:=e ⟨h⟩
theorem oT {P Q:Prop} (h:Q) (e:Bq Q→P:=by intro hb;refine rg ?_;(conv=>whnf);refine aT ?_;refine rg ?_;(conv=>whnf);exact hb.out):P:=e ⟨h⟩
theorem bF {P Q:Prop} (h:Q) (e:Bq Q→P:=by intro hb;refine aF ?_;refine rg ?_;(conv=>whnf);exact hb.out):P:=e ⟨h⟩
theorem bT {P Q:Prop} (h:Q) (e:Bq Q→P:=by intro hb;refine aT ?_;refine rg ?_;(conv=>whnf);exact hb.out):P:=e ⟨h⟩
theorem oD {P Q:Prop} (h:Q) (e:Bq Q→P:=by intro hb;refine rd z_ ?_;(conv=>whnf);exact hb.out):P:=e ⟨h⟩
theorem dN {P:Prop} (h:P:=by
 apply Aq
 ·exact E
 ·(repeat (first | exact ResVs.nil | (apply ResVs.cons;(first | exact .tmp | exact .cell rfl rfl rfl rfl))))
 ·exact E
 ·exact E):P:=h
theorem iL {a:Int} {K:Prop} (h:K) (e:I64 a:=by unfold I64;omega):I64 a∧K:=⟨e,h⟩
theorem iW {a:Int} {K Q:Prop} (h:Q) (e:I64 a:=by unfold I64;omega) (e2:Bq Q→K:=by intro hb;(conv=>whnf);exact hb.out):I64 a∧K:=⟨e,e2 ⟨h⟩⟩
theorem kW {α:Sort _} {a b:α} {K Q:Prop} (h:Q) (e:a=b:=by kernel_rfl) (e2:Bq Q→K:=by intro hb;(conv=>whnf);exact hb.out):a=b∧K:=⟨e,e2 ⟨h⟩⟩
theorem c0 {C:Cx} {k:List KI} {s:SS} {all:Array Oper} {o:Oper} {rest:List Oper} {f:FuncId} {fn:Func} {c:Code} {xs:List Operand} {ts:Array TypeId} {A:List SV} {R:SV} (hs:Sy.Spec C.P f A [] R []) (hf:Fun C.P f fn c) (hg:G C (.ops all rest::k) (s.upd o.dst ⟨R,[],[]⟩)) (h:o.op=.call ⟨.value (.func f),xs.toArray,ts⟩:=by exact rfl)
  (hA:A=xs.map (ev s):=by exact rfl) (hok:(By [] A && R.inn [])=true:=by exact rfl) (hd:Tk C.n o=true:=by exact rfl) (hw:D6 C.n all o s=some true:=by exact rfl):G C (.ops all (o::rest)::k) s:=Kx hs hf h hA hok hd hw hg
theorem cD {C:Cx} {k:List KI} {s:SS} {all:Array Oper} {done:List Stp} {o:Oper} {rest:List Oper} {f:FuncId} {fn:Func} {c:Code} {xs:List Operand} {ts:Array TypeId} {A:List SV} {R:SV} (hs:Sy.Spec C.P f A [] R []) (hf:Fun C.P f fn c) (hg:DR C k all (done++[⟨done.length,o,⟨R,[],[]⟩,true⟩]) rest (s.upd o.dst ⟨R,[],[]⟩)) (h:o.op=.call ⟨.value (.func f),xs.toArray,ts⟩:=by exact rfl)
  (hA:A=xs.map (ev s):=by exact rfl) (hok:(By [] A && R.inn [])=true:=by exact rfl) (hi:all[done.length]? = some o:=by kernel_rfl) (hw:D6 C.n all o s=some true:=by exact rfl):DR C k all done (o::rest) s:=Ay0 hs hf h hA hok hi hw hg
theorem fU {P Q:Prop} (h:Q) (e:Bq Q→P:=by intro hb;((first|refine rG Γ hm ?_|refine rD Γ hm z_ ?_);(conv=>whnf);repeat((first|refine aF ?_|refine aT ?_);(first|refine rG Γ hm ?_|refine rD Γ hm z_ ?_);conv=>whnf));exact hb.out):P:=e ⟨h⟩
theorem fW {P Q:Prop} (h:Q) (e:Bq Q→P:=by intro hb;((conv=>whnf);repeat((first|refine aF ?_|refine aT ?_);(first|refine rG Γ hm ?_|refine rD Γ hm z_ ?_);conv=>whnf));exact hb.out):P:=e ⟨h⟩
theorem vL {s:SS} {V:List Nat} {l m:List SV} (h:VwL s V l m:=by repeat (first | exact VwL.nil | refine VwL.cons (Vw.refl _) ?_ | refine VwL.cons Vw.nil ?_)):VwL s V l m:=h
theorem qA {p q:Prop} [Decidable p] (h:decide p=true) (e:p→q:=by intro _h;omega):q:=e (zK h)
theorem qB {p q:Prop} [Decidable p] (h:decide p=false) (e:¬ p→q:=by intro _h;omega):q:=e (zT h)
end Go.Sy.YtiijbikecbjdaaaGreatDoor
namespace Go.Sy.YtiijbikecbjdaaaGreatDoor
open Go.Proofs
structure Device where
 (row prio:Int) (name:ByteArray) (mac vtep:Int)
structure Port where
 (row dev native cost link:Int) (name:ByteArray) (tagged:List Int)
structure Link where
 (row a b:Int)
structure Domain where
 (dev vlan vni irb row:Int) (peers:List Int)
structure Static where
 (row domain port mac:Int)
structure Flood where
 (row dev vni:Int) (addrs:List Int)
structure Vrf where
 (row dev:Int) (name:ByteArray) (imports exports:List Int)
structure Irb where
 (row domain vrf addr bits:Int)
structure Net where
 (devices:List Device) (ports:List Port) (links:List Link) (domains:List Domain) (statics:List Static) (floods:List Flood) (vrfs:List Vrf) (irbs:List Irb)
def Au (d:Device):SV:=.agg [Aa d.row,Aa d.prio,Ao d.name,Bf d.mac,A6 d.vtep]
def A3 (p:Port):SV:=.agg [Aa p.row,Aa p.dev,Aa p.native,Aa p.cost,Aa p.link,Ao p.name,.sl 1 Aa p.tagged]
def Bw (l:Link):SV:=.agg [Aa l.row,Aa l.a,Aa l.b]
def Ap (d:Domain):SV:=.agg [Aa d.dev,Aa d.vlan,Aa d.vni,Aa d.irb,Aa d.row,.sl 1 Aa d.peers]
def Az (s:Static):SV:=.agg [Aa s.row,Aa s.domain,Aa s.port,Bf s.mac]
def Be (f:Flood):SV:=.agg [Aa f.row,Aa f.dev,Aa f.vni,.sl 1 A6 f.addrs]
def Ca (v:Vrf):SV:=.agg [Aa v.row,Aa v.dev,Ao v.name,.sl 1 Aa v.imports,.sl 1 Aa v.exports]
def B3 (i:Irb):SV:=.agg [Aa i.row,Aa i.domain,Aa i.vrf,A6 i.addr,Aa i.bits]
def Cw (n:Net):List SV:=[.sl 5 Au n.devices,.sl 7 A3 n.ports,.sl 3 Bw n.links,.sl 6 Ap n.domains,.sl 4 Az n.statics,.sl 4 Be n.floods,.sl 5 Ca n.vrfs,.sl 5 B3 n.irbs]
def Al (n:Net):SV:=.agg [.sl 5 Au n.devices,.sl 7 A3 n.ports,.sl 3 Bw n.links,.sl 6 Ap n.domains,.sl 4 Az n.statics,.sl 4 Be n.floods,.sl 5 Ca n.vrfs,.sl 5 B3 n.irbs]
instance:Inhabited Device:=⟨⟨0,0,.empty,0,0⟩⟩
instance:Inhabited Port:=⟨⟨0,0,0,0,0,.empty,[]⟩⟩
instance:Inhabited Link:=⟨⟨0,0,0⟩⟩
instance:Inhabited Domain:=⟨⟨0,0,0,0,0,[]⟩⟩
instance:Inhabited Static:=⟨⟨0,0,0,0⟩⟩
instance:Inhabited Flood:=⟨⟨0,0,0,[]⟩⟩
instance:Inhabited Vrf:=⟨⟨0,0,.empty,[],[]⟩⟩
instance:Inhabited Irb:=⟨⟨0,0,0,0,0⟩⟩
def An (i:Int) (n:Nat):Bool:=decide (0≤i) && decide (i<n)
def inB (l:List Int) (x:Int):Bool:=l.any (· == x)
def nth {α:Type} [Inhabited α] (l:List α) (i:Int):α:=(l[i.toNat]?).getD default
theorem Aj {α:Type} [Inhabited α] {l:List α} {i:Int} (h:i.toNat<l.length):nth l i=l[i.toNat]:=by
 simp[nth,h]
def Co {α:Type} (p:α→Bool) (l:List α):Int:=match l.findIdx? p with | some i=>(i:Int) | none=>-1
theorem Cr {α:Type} {p:α→Bool} {l:List α} {j:Nat} (h:j<l.length) (h1:∀ i (hi:i<l.length),i<j→p l[i]=false) (h2:p l[j]=true):Co p l=j:=by
 have:l.findIdx? p=some j:=by
  rw[vO]
  exact⟨h,h2,λ i hi=>by simp[h1 i q_ hi]⟩
 simp[Co,this]
theorem C7 {α:Type} {p:α→Bool} {l:List α} (h1:∀ i (hi:i<l.length),p l[i]=false):Co p l=-1:=by
 have:l.findIdx? p=none:=by
  rw[List.findIdx?_eq_none_iff]
  intro x hx
  obtain ⟨i,hi,rfl⟩:=yY.1 hx
  exact h1 i hi
 simp[Co,this]
theorem Hk {α:Type} (p:α→Bool) (l:List α):Co p l<l.length:=by
 unfold Co
 split
 ·rename_i i h
  rw[vO]at h
  obtain ⟨h,_⟩:=h
  omega
 ·omega
theorem Ji {α:Type} (p:α→Bool) (l:List α):decide (0≤Co p l)=l.any p:=by
 unfold Co
 split
 ·rename_i i h
  rw[vO]at h
  obtain ⟨h,h2,_⟩:=h
  have:l.any p=true:=uV.2 ⟨_,zJ h,h2⟩
  rw[this]
  simp
 ·rename_i h
  rw[List.findIdx?_eq_none_iff]at h
  have:l.any p=false:=by
   rw[uM]
   intro x hx
   simp[h x hx]
  rw[this]
  simp
def Ho {α:Type} (p:Nat→α→Bool) (l:List α):Bool:=l.zipIdx.all λ q=>p q.2 q.1
theorem allB_iff {α:Type} {p:Nat→α→Bool} {l:List α}:Ho p l=true↔∀ i (h:i<l.length),p i l[i]=true:=by
 simp only[Ho,yT]
 constructor
 ·intro h i hi
  exact h (l[i],i) (by rw[uR];simp[hi])
 ·rintro h ⟨x,i⟩ hx
  rw[uR]at hx
  obtain ⟨hi,rfl⟩:=tP.1 hx
  exact h i hi
theorem Au7 {α:Type} {p:Nat→α→Bool} {l:List α} (h:∀ i (h:i<l.length),p i l[i]=true):Ho p l=true:=allB_iff.2 h
theorem C1 {α:Type} {p:Nat→α→Bool} {l:List α} {i:Nat} (h:i<l.length) (h1:p i l[i]=false):Ho p l=false:=by
 cases hh:Ho p l with
 | false=>rfl
 | true=>have:=allB_iff.1 hh i h;rw[h1]at this;cases this
def Hc {α:Type} (p:Nat→α→Bool) (l:List α) (j:Nat):Prop:=∀ i (h:i<l.length),i<j→p i l[i]=true
theorem Bj {α:Type} (p:Nat→α→Bool) (l:List α):Hc p l 0:=λ i h hj=>yB hj q_
theorem Bh {α:Type} {p:Nat→α→Bool} {l:List α} {j:Nat} (hI:Hc p l j) (hj:j<l.length) (h:p j l[j]=true):Hc p l (j+1):=by
 intro i hi hij
 rcases vG i j with h1 | h1
 ·exact hI i hi h1
 ·have:i=j:=by omega
  subst this
  exact h
theorem Er {α:Type} {p:Nat→α→Bool} {l:List α} {j:Nat} (hI:Hc p l j) (hj:l.length≤j):Ho p l=true:=Au7 λ i hi=>hI i hi q_
def Ak {α:Type} (l:List α):Prop:=l.length<2147483648
end Go.Sy.YtiijbikecbjdaaaGreatDoor
namespace Go.Sy
theorem Ajc (w:World) {b:Nat} {cs:Array Value} {T:TypeId} {fr:Nat × Nat} (h:w.heap[b]? = some (.cells cs T fr)) (n:Nat) :
  (w.freeze ⟨b,n,none⟩ 1).heap[b]? = some (.cells cs T (if fr.1 == fr.2 then (n,n+1) else (min fr.1 n,max fr.2 (n+1))))∧(w.freeze ⟨b,n,none⟩ 1).os=w.os∧(w.freeze ⟨b,n,none⟩ 1).tape=w.tape∧(w.freeze ⟨b,n,none⟩ 1).output=w.output ∧
   (w.freeze ⟨b,n,none⟩ 1).heap.size=w.heap.size∧∀ i,i≠b→(w.freeze ⟨b,n,none⟩ 1).heap[i]? = w.heap[i]?:=by
 unfold World.freeze
 rw[zD j_]
 refine⟨?_,E,E,E,by simp,λ i hi=>?_⟩
 ·simp[tE,h]
 ·simp[tE,Ne.symm hi]
theorem Dm {P:Program} (Γ:Ty P) {o:Oper} {s:SS} {t:TypeId} {ti ei:TI} {x:Operand} {et:TypeId} {sz eb k:Nat} {ez:List Value} {svs:List SV} (h:o.op=.convert t t x)
  (ht:Γ.get t=some ti) (hk:ti.k=.slice et sz eb ez) (he:Γ.get et=some ei) (hek:ei.k=.int .u8) (hx:ev s x=.osl k) (hl:s.h k=.lit sz svs):Good P o s ⟨.osl k,[],[(k,.lit sz svs)]⟩:=by
 intro κ a w hi hr ho N Q hN
 have h1:=hr x (by simp[h,Op.operands])
 have h3:=ho k (.inr (by simp[Up.ws]))
 rw[hl]at h3
 rw[hx]at h1
 obtain ⟨b,cap,cs,T,fr,f1,f2,f3,f4,f5,f6⟩:=h3
 simp only[Rd,f1]at h1
 obtain ⟨hu,_⟩:=Ch Γ ht hk
 have he':=Ag7 Γ he hek
 obtain ⟨q1,q2,q3,q4,q5,q6⟩:=Ajc w f2 cs.length
 have hsh:w.shape? b=some (T,cs.length):=by
  unfold World.shape?
  rw[f2]
  simp
 have hrun:(execOp a.eval o).run P w=.ok (.value (.slice (some ⟨b,0,none⟩) svs.length cap)) (w.freeze ⟨b,cs.length,none⟩ 1):=by
  simp[execOp,h,h1,convert,run_underlying hu,run_underlying he',markStringish,hsh]
 simp only[Oper.wp,hrun,Oper.upon]
 obtain ⟨st,inv⟩:=La hi (k:=k) (b:=b) (by rw[f1];rfl) q2 q3 q4 q5 q6
 refine hN _ κ _ (st.weaken (by simp[Up.ws])) inv (by simp[Rd,f1]) (λ p hp=>?_)
 simp only[yD]at hp
 subst hp
 refine⟨b,cap,cs,T,_,f1,q1,?_,f4,f5,λ i x hx=>?_⟩
 ·rcases f3 with h0 | h0
  ·rw[zE (by simpa using h0)];exact .inr (yC _)
  ·split
   ·exact .inr (yC _)
   ·exact .inr (by simp only;omega)
 obtain ⟨g0,u,g1,g2,g3,g4⟩:=f6 i x hx
 exact⟨g0,u,RdD.keep st.keeps _ _ g1,g2,g3,g4⟩
end Go.Sy
namespace Go.Sy
open Go.ChangeShapes Go.WideShapes Go.ChangeAt Go.RowKit
def κ0:Ka:=⟨λ _=>.new,λ _=>False⟩
theorem inv0 (w:World):Inv κ0 w :=
 ⟨λ i j b h=>(by cases h),λ k b h=>(by cases h),λ k b h=>(by cases h),λ b h=>False.elim h⟩
theorem Yq {w w':World} {κ':Ka} (c:Ctx ⟨w,κ0,[]⟩ κ' w'):Below w.heap.size w w' :=
 ⟨c.os,c.tape,c.output,c.size,λ k hk=>c.old k hk (λ j h=>by cases h)⟩
section
variable {H:Type} {enc:TypeId × Value→H} {P:Program}
theorem Uu {W W':World} (hl:laidOutB P=true) (hb:Below W.heap.size W W'):∀ {ts:List TypeId} {vs:List Value} {ds:List (DataW H)} {ps:List MemPlace},(∀ t∈ts,P.readableRec t=true∧t<P.types.size) →
  (∀ x∈ps,x.block<W.heap.size)→DataW.TrodAll enc P W 0 (λ _=>true) true ts vs ds ps→DataW.TrodAll enc P W' 0 (λ b=>decide (b<W.heap.size)) true ts vs ds ps
 | [],_,_,_,_,_,h=>by
  obtain ⟨rfl,rfl,rfl⟩:=trodAll_nil h
  rfl
 | t::ts,_,_,_,ht,hp,h=>by
  obtain ⟨v,vs,d,ds,p,q,rfl,rfl,rfl,h1,h2⟩:=trodAll_cons h
  have:=ht t y_
  exact⟨p,q,Below.trod hl this.1 this.2 h1 hb (λ x hx=>hp x (by simp[hx])),Uu hl hb (λ t h=>ht t (by simp[h])) (λ x hx=>hp x (by simp[hx])) h2,E⟩
theorem Ag1 {f:FuncId} {fn:Func} {s:ChangeSpec} {W:World} {args:Array Value} {ds gs:List (DataW H)} {before:List MemPlace} {tb:TypeId} {A:List SV} (hv:s.vars=[]) (hl:laidOutB P=true)
  (hW:DataW.Whole enc P fn.params.toList s.vars false W args.toList ds gs before) (hts:∀ t∈fn.params.toList,P.readableRec t=true∧t<P.types.size) (hrt:fn.resultTypes=#[tb]) (hbt:P.underlying tb=some .bool)
  (hfn:∀ gs:List (DataW H),gs=[]→s.fn H (ds++gs)={ results:=[.lit (.bool true)],args:=ds }) (hA:RdL κ0 W A args.toList) (hs:Sy.Spec P f A [] (Ab true) []) :
  Calls P f args W λ e W'=>∃ v,e=.returned v∧s.post enc P fn false true false false W args v W':=by
 have hc:=hs κ0 W args.toList (inv0 W) (λ k hk=>yB rfl hk) hA (λ p hp=>by cases hp)
 simp only[Array.toArray_toList]at hc
 refine hc.mono ?_
 rintro e W' ⟨v,κ',rfl,ctx,inv,hR,_⟩
 have hvv:v=.bool true:=by simpa [Ab,Rd] using hR
 subst hvv
 have hb:=Yq ctx
 have hW':=hW
 obtain ⟨p,q,h1,h2,h3,h4,h5⟩:=hW
 have hgs:gs=[]∧q=[]:=by
  rw[hv]at h2
  exact trodVars_none h2
 obtain ⟨rfl,rfl⟩:=hgs
 rw[xK]at h3
 subst h3
 have hlt:∀ x∈before,x.block<W.heap.size:=λ x hx=>by simpa using hW'.lt x hx
 refine⟨_,rfl,ds,[],before,[],before,[],hW',?_,?_,?_,?_,λ h=>by cases h⟩
 ·rw[hfn [] rfl,hrt]
  exact trodAll_mk1 (shut_bool hbt true)
 ·rw[hfn [] rfl]
  exact Uu hl hb hts hlt h1
 ·rw[hv,hfn [] rfl]
  rfl
 ·exact hb.frame _
end
end Go.Sy
namespace Go.Sy
open Go.ChangeShapes Go.WideShapes Go.ChangeAt Go.RowKit
section
variable {H:Type} (enc:TypeId × Value→H) (P:Program) (W:World)
def Op1 (t:TypeId) {α:Type} (e:α→SV) (p:α→Prop):Prop :=
 ∀ n c y,DataW.trod enc P W 0 (λ _=>true) true n t [c]=some y→∃ x,p x∧Rd κ0 W (e x) c∧c.oneCell'=true
def OpN (t:TypeId) {α:Type} (e:α→SV) (p:α→Prop) (sz:Nat):Prop :=
 ∀ n cs y,DataW.trod enc P W 0 (λ _=>true) true n t cs=some y→∃ x,p x∧cs.length=sz∧Ones cs∧RdL κ0 W (cellsOf (e x)) cs
variable {enc P W}
theorem Jb {t:TypeId} {k:IntKind} (ht:P.underlying t=some (.int k)):Op1 enc P W t (λ z=>.val (.int k z)) (λ z=>(Lit.int k z).wf=true):=λ n c y h=>by
 obtain ⟨z,e,_,hw⟩:=DataW.trod_int ht h
 have e:c=.int k z:=by simpa using e
 subst e
 exact⟨z,hw,by simp[Rd],E⟩
theorem Arn {t:TypeId} {k:IntKind} (ht:P.underlying t=some (.int k)):OpN enc P W t (λ z=>.val (.int k z)) (λ z=>(Lit.int k z).wf=true) 1:=λ n cs y h=>by
 obtain ⟨z,rfl,_,hw⟩:=DataW.trod_int ht h
 refine⟨z,hw,E,λ c hc=>by simp at hc;subst hc;rfl,?_⟩
 simp[cellsOf,RdL,Rd]
theorem Ali {t:TypeId} (ht:P.underlying t=some .bool):OpN enc P W t Ab (λ _=>True) 1:=λ n cs y h=>by
 obtain ⟨z,rfl,_⟩:=DataW.trod_bool ht h
 refine⟨z,Y,E,λ c hc=>by simp at hc;subst hc;rfl,?_⟩
 simp[Ab,cellsOf,RdL,Rd]
theorem Ahx {base:Nat} {a:Addr} {n:Nat} {cs:List Value} (h:W.cells? base a n=some cs):cs.length=n∧∀ j (_:j<n),W.cell? (a.add j)=cs[j]?:=by
 unfold World.cells? at h
 split at h
 ·refine⟨by simpa using mapM_some_length h,λ j hj=>?_⟩
  exact mapM_some_get h j j (by simp[hj])
 ·cases h
theorem M6 {t et:TypeId} {α:Type} {e:α→SV} {p:α→Prop} {sz:Nat} (ht:P.underlying t=some (.slice et)) (hsz:P.cellsOf et=sz) (h0:0<sz) (hb:∀ x,(e x).boxed=true) (hd:∀ x,(e x).data=true) (hO:OpN enc P W et e p sz) :
  Op1 enc P W t (λ l:List α=>.sl sz e l) (λ l=>(∀ x∈l,p x)∧l.length≤maxLen):=λ n c y h=>by
 rcases DataW.trod_slice ht h with ⟨hcs,_⟩ | ⟨a,len,cap,elems,rest,m,rfl,hcs,_,_,hlc,hcm,hel,hget,_⟩
 ·have hc:c=.slice none 0 0:=by simpa using hcs
  subst hc
  refine⟨[],⟨by simp,xZ _⟩,?_,E⟩
  simp only[Rd,RdD]
  exact .inl ⟨Y,none,0,E⟩
 ·have hc:c=.slice (some a) len cap:=by simpa using hcs
  subst hc
  rw[hsz]at hget
  have hall:∀ i:Fin len,∃ x,p x∧∃ cs,W.cells? 0 (a.add (i * sz)) sz=some cs∧cs.length=sz∧Ones cs∧RdL κ0 W (cellsOf (e x)) cs:=λ i=>by
   have h1:=hget i.1 i.2
   rw[zO q_]at h1
   obtain ⟨cs,h2,h3⟩:=Option.bind_eq_some_iff.1 h1
   obtain ⟨x,h4,h5,h6,h7⟩:=hO _ _ _ h3
   exact⟨x,h4,cs,h2,h5,h6,h7⟩
  let xs:Fin len→α:=λ i=>Classical.choose (hall i)
  have hxs:∀ i,p (xs i)∧∃ cs,W.cells? 0 (a.add (i.1 * sz)) sz=some cs∧cs.length=sz∧Ones cs∧RdL κ0 W (cellsOf (e (xs i))) cs:=λ i=>Classical.choose_spec (hall i)
  refine⟨List.ofFn xs,⟨λ x hx=>?_,by simp;omega⟩,?_,E⟩
  ·obtain ⟨i,rfl⟩:=List.mem_ofFn.1 hx
   exact(hxs i).1
  ·simp only[Rd,RdD]
   by_cases hl:len=0
   ·subst hl
    exact .inl ⟨by simp,_,_,E⟩
   ·have hcell:∀ i:Fin len,∀ j,j<sz→∃ v,W.cell? ((a.add (i.1 * sz)).add j)=some v:=λ i j hj=>by
     obtain ⟨_,cs,h1,h2,_⟩:=hxs i
     have:=(Ahx h1).2 j hj
     rw[zO q_]at this
     exact⟨_,this⟩
    obtain ⟨b,off,spot⟩:=a
    have hspot:spot=none:=by
     obtain ⟨v,hv⟩:=hcell ⟨0,by omega⟩ 0 h0
     simpa [Addr.add] using World.cell?_spot hv
    subst hspot
    have hadd:∀ i j,((⟨b,off,none⟩:Addr).add i).add j=⟨b,off+i+j,none⟩:=λ i j=>by rw[Addr.add_lit,Addr.add_lit]
    refine .inr ⟨b,off,cap,by simp,by simpa using hlc,?_,?_,λ i hi=>?_⟩
    ·rintro (⟨k,hk⟩ | hk)
     ·cases hk
     ·exact hk
    ·obtain ⟨v,hv⟩:=hcell ⟨0,by omega⟩ 0 h0
     rw[hadd]at hv
     rcases vG b W.heap.size with h | h
     ·exact h
     ·simp[World.cell?,uF h]at hv
    ·simp only[List.length_ofFn]at hi
     obtain ⟨_,cs,h1,h2,h3,h4⟩:=hxs ⟨i,hi⟩
     obtain ⟨u,g1,g2⟩:=Rd.of_cells (hb _) h3 h4
     refine⟨u,?_,?_,by rw[g2];exact h3,λ j hj=>?_⟩
     ·rw[List.getElem_ofFn]
      exact Rd.data _ _ (hd _) g1
     ·have:u.cells.toList.length=sz:=by rw[g2,h2]
      simpa using this
     ·have:=(Ahx h1).2 j hj
      rw[hadd]at this
      rw[this,← g2]
      simp
end
end Go.Sy
namespace Go.Sy.YtiijbikecbjdaaaGreatDoor
open Go.Proofs Go.ChangeShapes Go.WideShapes Go.ChangeAt Go.RowKit
set_option maxRecDepth 100000
section
variable {H:Type} {enc:TypeId × Value→H} {W:World}
def wI (k:IntKind) (z:Int):Prop:=(Lit.int k z).wf=true
def Device.In (x:Device):Prop:=wI .i64 x.row∧wI .i64 x.prio∧x.name.size≤maxLen∧wI .u64 x.mac∧wI .u32 x.vtep
def Port.In (x:Port):Prop:=wI .i64 x.row∧wI .i64 x.dev∧wI .i64 x.native∧wI .i64 x.cost∧wI .i64 x.link∧x.name.size≤maxLen∧((∀ z∈x.tagged,wI .i64 z)∧x.tagged.length≤maxLen)
def Link.In (x:Link):Prop:=wI .i64 x.row∧wI .i64 x.a∧wI .i64 x.b
def Domain.In (x:Domain):Prop:=wI .i64 x.dev∧wI .i64 x.vlan∧wI .i64 x.vni∧wI .i64 x.irb∧wI .i64 x.row∧((∀ z∈x.peers,wI .i64 z)∧x.peers.length≤maxLen)
def Static.In (x:Static):Prop:=wI .i64 x.row∧wI .i64 x.domain∧wI .i64 x.port∧wI .u64 x.mac
def Flood.In (x:Flood):Prop:=wI .i64 x.row∧wI .i64 x.dev∧wI .i64 x.vni∧((∀ z∈x.addrs,wI .u32 z)∧x.addrs.length≤maxLen)
def Vrf.In (x:Vrf):Prop:=wI .i64 x.row∧wI .i64 x.dev∧x.name.size≤maxLen∧((∀ z∈x.imports,wI .i64 z)∧x.imports.length≤maxLen)∧((∀ z∈x.exports,wI .i64 z)∧x.exports.length≤maxLen)
def Irb.In (x:Irb):Prop:=wI .i64 x.row∧wI .i64 x.domain∧wI .i64 x.vrf∧wI .u32 x.addr∧wI .i64 x.bits
structure Net.In (n:Net):Prop where
 devices:(∀ x∈n.devices,Device.In x)∧n.devices.length≤maxLen
 ports:(∀ x∈n.ports,Port.In x)∧n.ports.length≤maxLen
 links:(∀ x∈n.links,Link.In x)∧n.links.length≤maxLen
 domains:(∀ x∈n.domains,Domain.In x)∧n.domains.length≤maxLen
 statics:(∀ x∈n.statics,Static.In x)∧n.statics.length≤maxLen
 floods:(∀ x∈n.floods,Flood.In x)∧n.floods.length≤maxLen
 vrfs:(∀ x∈n.vrfs,Vrf.In x)∧n.vrfs.length≤maxLen
 irbs:(∀ x∈n.irbs,Irb.In x)∧n.irbs.length≤maxLen
theorem Agp {t:TypeId} {fs:Array Field} {α:Type} {e:α→SV} {p:α→Prop} {sz base:Nat} {v:Value} {d:DataW H} {ps:List MemPlace} (ht:Tryz.prog.underlying t=some (.struct fs)) (hO:OpN enc Tryz.prog W t e p sz) (he:∀ x,e x=.agg (cellsOf (e x)))
  (hval:Value.okWide Tryz.prog W .any base t v) (h1:DataW.Trod enc Tryz.prog W 0 (λ _=>true) true t v d ps):∃ x,p x∧Rd κ0 W (e x) v:=by
 obtain ⟨cs,rfl,_⟩:=okWide_struct ht hval
 obtain ⟨fuel,hf⟩:=h1
 obtain ⟨x,h1,_,h2,h3⟩:=hO _ _ _ hf
 refine⟨x,h1,?_⟩
 rw[he x]
 simp only[Rd]
 exact⟨cs.toList,by simp,by simpa [Value.cells] using h2,by simpa [Value.cells] using h3⟩
theorem Ak4 {t et:TypeId} {α:Type} {e:α→SV} {p:List α→Prop} {sz base:Nat} {v:Value} {d:DataW H} {ps:List MemPlace} (ht:Tryz.prog.underlying t=some (.slice et)) (hO:Op1 enc Tryz.prog W t (λ l:List α=>.sl sz e l) p)
  (hval:Value.okWide Tryz.prog W .any base t v) (h1:DataW.Trod enc Tryz.prog W 0 (λ _=>true) true t v d ps):∃ l,p l∧Rd κ0 W (.sl sz e l) v:=by
 obtain ⟨a,len,cap,rfl⟩:=okWide_slice ht hval
 obtain ⟨fuel,hf⟩:=h1
 obtain ⟨x,h1,h2,_⟩:=hO _ _ _ hf
 exact⟨x,h1,h2⟩
end
end Go.Sy.YtiijbikecbjdaaaGreatDoor
namespace Go.Sy.YtiijbikecbjdaaaGreatDoor
open Go.Proofs
attribute [local irreducible] Go.Sy.G Go.Sy.DR
set_option maxRecDepth 100000
set_option maxHeartbeats 4000000
theorem Awi (i:Int) (h0:0≤i) (h5:i≤5):Sp 219 [Aa i] (Bf (8 * (5-i))):=cT F219 Tryz.ntmps219 λ F hF=>by
 conv=>whnf
 refine iW ?_
 refine iW ?_
 refine Aq E (.cons .tmp .nil) (zG (λ z=>SV.val (.int .u64 z)) ?_) E
 rw[IntKind.wrap_u64]
 omega
def be:Nat→Nat→List UInt8
 | 0,_=>[]
 | k+1,m=>UInt8.ofNat (m / 256 ^ k)::be k m
theorem Ee (m:Nat):∀ k,(be k m).length=k
 | 0=>rfl
 | k+1=>by simp[be,Ee m k]
theorem Ajv (m:Nat):∀ (k j:Nat) (_h:j<k),(be k m).take (j+1)=(be k m).take j++[UInt8.ofNat (m / 256 ^ (k-1-j))]
 | 0,j,h=>by omega
 | k+1,0,h=>by simp[be]
 | k+1,j+1,h=>by
  have:=Ajv m k j q_
  simp only[be,List.take_succ_cons,wF,this]
  rw[show k+1-1-(j+1)=k-1-j by omega]
theorem Akr (m k:Nat) (hk:k≤7):IntKind.u8.wrap ((m:Int).fdiv (2 ^ (min (8 * (k:Int)).toNat IntKind.u64.bits)))=((UInt8.ofNat (m / 256 ^ k)).toNat:Int):=by
 have h1:min (8 * (k:Int)).toNat IntKind.u64.bits=8 * k:=by simp[IntKind.bits];omega
 rw[h1,wC _ (by exact Int.pow_nonneg j_),IntKind.wrap_u8]
 have h2:(2:Int) ^ (8 * k)=((256 ^ k:Nat):Int):=by rw[Int.pow_mul];simp
 rw[h2]
 simp
theorem put2 (l:List UInt8) (hl:l.length<1000000) (m:Nat):Sq 161 [.osl 0,Bf m] [(0,.row 1 Ah l)] (.osl 1) [(0,.non),(1,.row 1 Ah (l++be 6 m))]:=cT F161 Tryz.ntmps161 λ F hF=>by
 conv=>whnf
 refine Aqy 0 1 [0] E E j_ (by simp;rfl) ?_
 refine A9 6 (λ j=>[(0,.osl 1),(1,Bf m),(6,Aa j)]) (λ j=>[(0,.non),(1,.row 1 Ah (l++(be 6 m).take j))]) [(0,0),(1,1)] ⟨⟨E,E,E,E,E,E,Y⟩,⟨.inl E,E,.inl (zG (Ob.row 1 Ah) (xK l)),E,Y⟩,E,E⟩ ?_
 intro j hj
 refine oO ?_
 constructor<;>intro h
 ·have hlt:j<6:=qA h
  refine oO ?_
  refine c0 (Awi j q_ q_) F219 ?_
  refine oO ?_
  refine⟨by omega,?_⟩
  conv=>whnf
  refine Af (Ae Γ.toTy 16 E E E E E (.row E) (.lit (l:=[UInt8.ofNat (m / 256 ^ (5-j))]) E ?_) y_ ?_ ?_) E E ?_
  ·have:=Akr m (5-j) q_
   rw[show ((5-j:Nat):Int)=5-(j:Int) by omega]at this
   simp only[xV,vY,Ah,← this]
  ·simp[Ee];omega
  ·simp[Ee];omega
  refine oO ?_
  refine iW ?_
  exact A2 [(0,0),(1,16)] hlt ⟨⟨E,E,E,E,E,E,Y⟩,⟨.inl E,E,.inl (zG (Ob.row 1 Ah) (by rw[Ajv _ _ _ hlt,xQ])),E,Y⟩,E,E⟩
 ·have:j=6:=qB h
  subst this
  refine oO ?_
  exact done E (.cons .tmp .nil) [(0,0),(1,1)] _ (λ _ h=>h) E E ⟨Y,⟨.inl E,E,.inl E,E,Y⟩,E,E⟩
theorem put2n (m:Nat):Sq 161 [.val (.slice none 0 0),Bf m] [] (.osl 0) [(0,.row 1 Ah (be 6 m))]:=cT F161 Tryz.ntmps161 λ F hF=>by
 conv=>whnf
 refine B9 0 1000 1 Ah E E ?_
 refine A9 6 (λ j=>[(0,.osl 1000),(1,Bf m),(6,Aa j)]) (λ j=>[(1000,.row 1 Ah ((be 6 m).take j))]) [] ⟨⟨E,E,E,E,E,E,Y⟩,⟨.inl E,E,Y⟩,E,E⟩ ?_
 intro j hj
 refine oO ?_
 constructor<;>intro h
 ·have hlt:j<6:=qA h
  refine oO ?_
  refine c0 (Awi j q_ q_) F219 ?_
  refine oO ?_
  refine⟨by omega,?_⟩
  conv=>whnf
  refine Af (Ae Γ.toTy 16 E E E E E (.row E) (.lit (l:=[UInt8.ofNat (m / 256 ^ (5-j))]) E ?_) y_ ?_ ?_) E E ?_
  ·have:=Akr m (5-j) q_
   rw[show ((5-j:Nat):Int)=5-(j:Int) by omega]at this
   simp only[xV,vY,Ah,← this]
  ·simp[Ee];omega
  ·simp[Ee];omega
  refine oO ?_
  refine iW ?_
  exact A2 [(1000,16)] hlt ⟨⟨E,E,E,E,E,E,Y⟩,⟨.inl (zG (Ob.row 1 Ah) (Ajv _ _ _ hlt)),E,Y⟩,E,E⟩
 ·have:j=6:=qB h
  subst this
  refine oO ?_
  exact done E (.cons .tmp .nil) [(0,1000)] _ (λ _ h=>h) E E ⟨Y,⟨.inl E,E,Y⟩,E,E⟩
def Ayl (d s:Nat) (t:Int) (body:List UInt8):SV:=.agg [Bf d,Bf s,Aa t,.sl 1 Ah body]
def frame (d s t:Nat) (body:List UInt8):List UInt8:=be 6 d++be 6 s++[UInt8.ofNat (t / 256),UInt8.ofNat t]++body
theorem Hx (t:Nat):[UInt8.ofNat (t / 256),UInt8.ofNat t].map Ah=[SV.val (.int .u8 (IntKind.u8.wrap ((t:Int).fdiv (2 ^ (min (Int.toNat 8) IntKind.i64.bits))))),SV.val (.int .u8 (IntKind.u8.wrap (t:Int)))]:=by
 have h1:IntKind.u8.wrap ((t:Int).fdiv (2 ^ (min (Int.toNat 8) IntKind.i64.bits)))=((UInt8.ofNat (t / 256)).toNat:Int):=by
  show IntKind.u8.wrap ((t:Int).fdiv 256)=_
  rw[wC _ j_,IntKind.wrap_u8]
  simp
 have h2:IntKind.u8.wrap (t:Int)=((UInt8.ofNat t).toNat:Int):=by
  rw[IntKind.wrap_u8]
  simp
 rw[h1,h2]
 rfl
theorem Amo (d s t:Nat) (body:List UInt8) (hd:d<281474976710656) (hs:s<281474976710656) (ht:t≤65535) (hb:body.length≤1504):Sq 90 [Ayl d s t body] [] (.tup [.osl 0,Aa 0]) [(0,.row 1 Ah (frame d s t body))]:=cT F90 Tryz.ntmps90 λ F hF=>by
 conv=>whnf
 refine⟨λ h=>yB (zK h) q_,λ _=>?_⟩
 refine oO ?_
 refine⟨λ h=>yB (zK h) q_,λ _=>?_⟩
 refine oF ?_
 refine⟨λ h=>yB (zK h) q_,λ _=>?_⟩
 refine oO ?_
 refine⟨λ h=>yB (zK h) q_,λ _=>?_⟩
 refine oO ?_
 refine Br (Ad [(0,31)] E F161 (put2n d) E Y E ⟨.inr E,Y⟩) z_ E ?_
 refine oD ?_
 refine Br (Ad [(0,31),(1,34)] E F161 (put2 (be 6 d) (by simp[Ee]) s) E ⟨E,Y⟩ E ⟨.inl E,.inr E,Y⟩) z_ E ?_
 refine oD ?_
 refine kW ?_
 refine⟨by decide,?_⟩
 conv=>whnf
 refine Br (Ae Γ.toTy 44 E E E E E (.row E) (.lit (l:=[UInt8.ofNat (t / 256),UInt8.ofNat t]) E (Hx t)) j_ ?_ ?_) z_ E ?_
 ·simp[Ee]
 ·simp[Ee]
 refine oD ?_
 refine Br (Ae Γ.toTy 47 E E E E E (.row E) .sl j_ ?_ ?_) z_ E ?_
 ·simp[Ee];omega
 ·simp[Ee];omega
 refine oD ?_
 refine kW ?_
 exact done E (.cons .tmp (.cons .tmp .nil)) [(0,47)] _ (λ _ h=>h) E E ⟨Y,⟨.inl E,E,Y⟩,E,E⟩
end Go.Sy.YtiijbikecbjdaaaGreatDoor
namespace Go.Sy.YtiijbikecbjdaaaGreatDoor
structure FrameM where
 dst:Nat
 src:Nat
 typ:Nat
 body:List UInt8
def Cy (f:FrameM):SV:=Ayl f.dst f.src f.typ f.body
structure StepM where
 kind:Int
 port:Int
 domain:Int
 at_:Int
 bytes:List UInt8
 up:List Bool
def B0 (x:StepM):SV:=.agg [Aa x.kind,Aa x.port,Aa x.domain,Aa x.at_,.sl 1 Ah x.bytes,.sl 1 Ab x.up]
structure SeenM where
 port:Int
 origin:Int
 bytes:List UInt8
def E2 (x:SeenM):SV:=.agg [Aa x.port,Aa x.origin,.sl 1 Ah x.bytes]
def Kf (ip:Int):Nat:=2199023255552+ip.toNat
def Ib (a bits:Int):Int:=if 0≤bits∧bits≤32 then a-a % 2 ^ (32-bits).toNat else 0
def Jr (n:Nat):Nat:=if n=0 then 0 else (n-1) % 65535+1
end Go.Sy.YtiijbikecbjdaaaGreatDoor
namespace Go.Sy.YtiijbikecbjdaaaGreatDoor
open Go.Proofs
structure ReportM where
 kind:Int
 where_:Int
 row:Int
 error:Int
 from_:Int
 to:Int
 script:List StepM
def Cj (r:ReportM):SV:=.agg [Aa r.kind,Aa r.where_,Aa r.row,Aa r.error,Aa r.from_,Aa r.to,.sl 6 B0 r.script]
end Go.Sy.YtiijbikecbjdaaaGreatDoor
