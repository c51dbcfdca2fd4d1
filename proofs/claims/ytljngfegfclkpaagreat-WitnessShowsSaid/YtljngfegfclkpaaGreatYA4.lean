/-
  Sy19 Sy22 Ty N1 N2 N3 N4: parts of a proof, joined by program.
-/
import Derived.Test.YtljngfegfclkpaaGreatYA3
import Derived.Test.YtljngfegfclkpaaGreatProg
set_option linter.all false
set_option linter.unusedVariables false
set_option linter.unusedSimpArgs false
set_option linter.deprecated false
namespace Go.Sy
inductive SrcT {α:Type} (s:SS) (sz:Nat) (e:α→SV):SV→List Nat→List α→Prop
 | sl {l:List α}:SrcT s sz e (.sl sz e l) [] l
 | row {k:Nat} {l:List α} (h:s.h k=.row sz e l):SrcT s sz e (.osl k) [k] l
 | lit {k:Nat} {l:List α} {svs:List SV} (h:s.h k=.lit sz svs) (hl:l.map e=svs):SrcT s sz e (.osl k) [k] l
 | nil:SrcT s sz e (.val (.slice none 0 0)) [] []
inductive BaseT {α:Type} (s:SS) (sz:Nat) (e:α→SV):SV→Option Nat→List α→Prop
 | nil:BaseT s sz e (.val (.slice none 0 0)) none []
 | row {k:Nat} {l:List α} (h:s.h k=.row sz e l):BaseT s sz e (.osl k) (some k) l
 | lit {k:Nat} {l:List α} {svs:List SV} (h:s.h k=.lit sz svs) (hl:l.map e=svs):BaseT s sz e (.osl k) (some k) l
theorem SrcT.src {α:Type} {s:SS} {sz:Nat} {e:α→SV} {x:SV} {ks:List Nat} {m:List α} (h:SrcT s sz e x ks m):∃ g,AppSrc s sz x ks m.length g∧∀ i x,rowF e m i x→g i x:=by
 cases h with
 | sl=>exact⟨_,.sl,λ _ _ h=>h⟩
 | row h=>exact⟨_,.row h,λ _ _ h=>h⟩
 | @lit k _ svs h hl=>exact⟨Aek svs,by have:=AppSrc.lit (sz:=sz) h;rwa [← hl,yP,hl]at this,λ i x hx=>M1 hl i x hx⟩
 | nil=>exact⟨_,.nil,λ i x hx=>by obtain ⟨h,_⟩:=hx;simp at h⟩
theorem BaseT.base {α:Type} {s:SS} {sz:Nat} {e:α→SV} {x:SV} {k:Option Nat} {m:List α} (h:BaseT s sz e x k m):∃ g,AppBase s sz x k m.length g∧∀ i x,rowF e m i x→g i x:=by
 cases h with
 | row h=>exact⟨_,.row h,λ _ _ h=>h⟩
 | @lit k _ svs h hl=>exact⟨Aek svs,by have:=AppBase.lit (sz:=sz) h;rwa [← hl,yP,hl]at this,λ i x hx=>M1 hl i x hx⟩
 | nil=>exact⟨_,.nil,λ i x hx=>by obtain ⟨h,_⟩:=hx;simp at h⟩
theorem Ah {P:Program} (Γ:Ty P) {o:Oper} {s:SS} (d:Nat) {α:Type} {e:α→SV} {l m:List α} {t:TypeId} {ti:TI} {et:TypeId} {sz eb:Nat} {ez:List Value} {x y:Operand} {k:Option Nat} {ks:List Nat}
  (h:o.op=.call ⟨.builtin .append,#[x,y],#[t,t]⟩) (hd:s.h d=.fresh) (ht:Γ.get t=some ti) (hk:ti.k=.slice et sz eb ez) (hez:ez.length=sz)
  (hb:BaseT s sz e (ev s x) k l) (hs:SrcT s sz e (ev s y) ks m) (hkk:∀ j,k=some j→j≠d) (hbytes:(l.length+m.length) * eb≤140737488355328) (h63:l.length+m.length≤9223372036854775807) :
  Good P o s ⟨.osl d,ks,Qk k d (.row sz e (l++m))⟩:=by
 obtain ⟨f,hb,hf⟩:=hb.base
 obtain ⟨g,hs,hg⟩:=hs.src
 exact Z5 Γ h hd ht hk hez hb hs hkk hbytes h63 λ κ w hr=>Ay1 hr y_ (Awd hf hg)
theorem W5 {P:Program} (Γ:Ty P) {o:Oper} {s:SS} {src dst:TypeId} {si di ei:TI} {x:Operand} {et:TypeId} {eb:Nat} {ez:List Value} {ks:List Nat} {bs:List UInt8} (h:o.op=.convert src dst x)
  (hs:Γ.get src=some si) (hsk:si.k=.slice et 1 eb ez) (he:Γ.get et=some ei) (hek:ei.k=.int .u8) (hd:Γ.get dst=some di) (hdk:di.k=.string) (hx:SrcT s 1 Al (ev s x) ks bs) :
  Good P o s ⟨Dz ⟨bs.toArray⟩,ks,[]⟩:=by
 obtain ⟨g,hx,hg⟩:=hx.src
 exact Xb Γ bs h hs hsk he hek hd hdk hx E (λ i hi=>hg i _ ⟨hi,E⟩)
theorem Aqf {C:Cx} {kk:List KI} {s:SS} (k d:Nat) (r:List Nat) {sz:Nat} {α:Type} {e:α→SV} {l:List α} (h:s.h k=.row sz e l) (hd:s.h d=.fresh) (hkd:k≠d) (hr:∀ i∈r,s.σ i=.osl k)
  (hg:G C kk ⟨freezeσ s.σ (.osl d) r,upd (upd s.h k .non) d (.row sz e l)⟩):G C kk s:=λ κ a w hs=>by
 have hob:=hs.obj k
 rw[h]at hob
 have hnew:κ d=.new:=by have:=hs.obj d;rwa [hd]at this
 have fin:∀ κ':Ka,Step (λ j=>j=k∨j=d) κ w κ' w→Inv κ' w→(∀ v,Rd κ w (.osl k) v→Rd κ' w (.osl d) v)→ObOK κ' w d (.row sz e l)→den C.P C.B kk .normal a w:=by
  intro κ' st inv hv ho
  refine hg κ' a w ⟨hs.defers,hs.size,inv,hs.ctx.step inv st,λ j=>?_,λ j=>?_⟩
  ·refine freezeσ_ok r _ j (Rd.step st _ _ (hs.slot j)) (λ hj=>hv _ ?_)
   have:=hs.slot j
   rwa [hr j hj]at this
  ·show ObOK _ w j (upd (upd s.h k .non) d (.row sz e l) j)
   by_cases hj:j=d
   ·subst hj;rw[Bn];exact ho
   ·rw[Cf _ _ hj]
    by_cases hj2:j=k
    ·subst hj2;rw[Bn];trivial
    ·rw[Cf _ _ hj2];exact ObOK.step st (λ e=>e.elim hj2 hj) _ (hs.obj j)
 rcases hob with ⟨h1,rfl⟩ | ⟨b,cap,cs,T,fr,e1,e2,e3,e4,e5,e6⟩
 ·have st:=I6 (Kf hs.inv (some k)) (by show Dv κ k .dead d=.new;rw[B1 _ _ (Ne.symm hkd)];exact hnew) (e:=.nil) (Grew.refl w) (λ b hb=>by cases hb)
  refine fin _ (((Is (some k)).weaken (λ j hj=>.inl (Option.some.inj hj).symm)).trans (st.1.weaken (λ j hj=>.inr hj))) st.2 (λ v hv=>?_) (.inl ⟨Ar _ _ _,E⟩)
  simp only[Rd,h1]at hv
  simp[Rd,Ar,hv]
 ·obtain ⟨st,inv⟩:=My (n':=l.length) (w':=w) hs.inv e1 hnew rfl rfl rfl rfl (λ _ _=>rfl)
  refine fin _ st inv (λ v hv=>?_) (.inr ⟨b,cap,cs,T,fr,Ar _ _ _,e2,e3,e4,e5,λ i x hx=>?_⟩)
  ·simp only[Rd,e1]at hv
   simp[Rd,Ar,hv]
  ·obtain ⟨q1,u,q2,q3⟩:=e6 i x hx
   exact⟨q1,u,RdD.keep st.keeps _ _ q2,q3⟩
mutual
def frz (d:Nat) (x:SV):SV→SV
 | .osl k=>bif Nat.beq k d then x else .osl k
 | .agg l=>.agg (Ac3 d x l)
 | .tup l=>.tup (Ac3 d x l)
 | .ifc t y=>.ifc t (frz d x y)
 | .clo f g l=>.clo f (Ac3 d x g) (Ac3 d x l)
 | y=>y
def Ac3 (d:Nat) (x:SV):List SV→List SV
 | []=>[]
 | y::l=>frz d x y::Ac3 d x l
end
mutual
theorem Ah8 {κ κ':Ka} {w:World} {K:Nat→Prop} {d:Nat} {x:SV} (st:Step K κ w κ' w) (hx:∀ v,Rd κ w (.osl d) v→Rd κ' w x v):∀ (y:SV) (v:Value),Rd κ w y v→Rd κ' w (frz d x y) v
 | .osl k,v,h=>by
  unfold frz
  by_cases hk:k=d
  ·subst hk;rw[show Nat.beq k k=true from uQ k];exact hx v h
  ·rw[show Nat.beq k d=false from by cases hb:Nat.beq k d with | false=>rfl | true=>exact zW (yC hb) hk];exact Rd.step st _ _ h
 | .agg l,v,h=>by
  simp only[Rd]at h
  unfold frz
  simp only[Rd]
  obtain ⟨cs,h1,h2,h3⟩:=h
  exact⟨cs,h1,h2,Jm st hx l cs h3⟩
 | .tup l,v,h=>by
  simp only[Rd]at h
  unfold frz
  simp only[Rd]
  obtain ⟨cs,h1,h3⟩:=h
  exact⟨cs,h1,Jm st hx l cs h3⟩
 | .ifc t y,v,h=>by
  simp only[Rd]at h
  unfold frz
  simp only[Rd]
  obtain ⟨u,h1,h3⟩:=h
  exact⟨u,h1,Ah8 st hx y u h3⟩
 | .clo f g l,v,h=>by
  simp only[Rd]at h
  unfold frz
  simp only[Rd]
  obtain ⟨fs,cs,h1,h2,h3⟩:=h
  exact⟨fs,cs,h1,Jm st hx g fs h2,Jm st hx l cs h3⟩
 | .top,v,h=>by unfold frz;exact Rd.step st _ _ h
 | .val u,v,h=>by unfold frz;exact Rd.step st _ _ h
 | .sl sz e l,v,h=>by unfold frz;exact Rd.step st _ _ h
 | .ref sz z o,v,h=>by unfold frz;exact Rd.step st _ _ h
 | .ptr k o,v,h=>by unfold frz;exact Rd.step st _ _ h
 | .rpt k sz i o,v,h=>by unfold frz;exact Rd.step st _ _ h
theorem Jm {κ κ':Ka} {w:World} {K:Nat→Prop} {d:Nat} {x:SV} (st:Step K κ w κ' w) (hx:∀ v,Rd κ w (.osl d) v→Rd κ' w x v):∀ (l:List SV) (vs:List Value),RdL κ w l vs→RdL κ' w (Ac3 d x l) vs
 | [],vs,h=>by
  unfold Ac3
  simpa [RdL] using h
 | y::l,vs,h=>by
  simp only[RdL]at h
  unfold Ac3
  simp only[RdL]
  obtain ⟨v,r,h1,h2,h3⟩:=h
  exact⟨v,r,h1,Ah8 st hx y v h2,Jm st hx l r h3⟩
end
def Aum (d:Nat) (x:SV):Ob→Ob
 | .box l=>.box (Ac3 d x l)
 | .rown sz e l i cl=>.rown sz e l i (Ac3 d x cl)
 | .tbox T l=>.tbox T (Ac3 d x l)
 | o=>o
theorem Ai {C:Cx} {k:List KI} {s:SS} (d:Nat) {sz:Nat} {α:Type} {e:α→SV} {l:List α} (h:s.h d=.row sz e l) (hg:G C k ⟨λ i=>frz d (.sl sz e l) (s.σ i),λ j=>bif Nat.beq j d then .non else Aum d (.sl sz e l) (s.h j)⟩):G C k s:=λ κ a w hs=>by
 have hob:=hs.obj d
 rw[h]at hob
 have st:=Is (κ:=κ) (w:=w) (some d)
 have inv:=Kf hs.inv (some d)
 have hx:∀ v,Rd κ w (.osl d) v→Rd (Dv κ d .dead) w (.sl sz e l) v:=λ v hv=>by
  rcases hob with ⟨h1,rfl⟩ | h1
  ·simp only[Rd,h1]at hv
   simp only[Rd,RdD]
   exact .inl ⟨by simp,none,0,hv⟩
  ·refine h1.freeze hv st.keeps.out (λ b hb=>⟨hs.inv.bnd d b hb,?_⟩)
   rintro (⟨q,hq⟩ | hq)
   ·by_cases hqd:q=d
    ·subst hqd;rw[Ar]at hq;cases hq
    ·rw[B1 _ _ hqd]at hq
     exact hqd (hs.inv.inj q d b hq hb)
   ·exact hs.inv.apart d b hb hq
 refine hg (Dv κ d .dead) a w ⟨hs.defers,hs.size,inv,hs.ctx.step inv st,λ j=>Ah8 st hx _ _ (hs.slot j),λ j=>?_⟩
 show ObOK _ w j (bif Nat.beq j d then .non else Aum d (.sl sz e l) (s.h j))
 by_cases hj:j=d
 ·subst hj;rw[show Nat.beq j j=true from uQ j];trivial
 ·rw[show Nat.beq j d=false from by cases hb:Nat.beq j d with | false=>rfl | true=>exact zW (yC hb) hj]
  have hb:=ObOK.step st (λ e=>hj (Option.some.inj e).symm) _ (hs.obj j)
  have h0:=hs.obj j
  show ObOK _ w j (Aum d (.sl sz e l) (s.h j))
  cases hh:s.h j with
  | box m =>
   rw[hh]at h0 hb
   obtain ⟨b,cs,T,fr,e1,e2,e3,e4,e5⟩:=h0
   exact⟨b,cs,T,fr,by show Dv κ d .dead j=_;rw[B1 _ _ hj];exact e1,e2,e3,e4,Jm st hx m cs e5⟩
  | tbox T m =>
   rw[hh]at h0 hb
   obtain ⟨b,cs,fr,e1,e2,e3,e4,e5⟩:=h0
   exact⟨b,cs,fr,by show Dv κ d .dead j=_;rw[B1 _ _ hj];exact e1,e2,e3,e4,Jm st hx m cs e5⟩
  | fresh=>rw[hh]at hb;exact hb
  | non=>rw[hh]at hb;exact hb
  | row sz' e' l'=>rw[hh]at hb;exact hb
  | lit sz' svs=>rw[hh]at hb;exact hb
  | glob sz' x' g'=>rw[hh]at hb;exact hb
  | pin b' n' cap' sz' e' l'=>rw[hh]at hb;exact hb
  | dat v' sz' e' l'=>rw[hh]at hb;exact hb
  | trow T' m'=>rw[hh]at hb;exact hb
  | rown sz' e' l' i' cl' =>
   rw[hh]at h0
   obtain ⟨b2,cap2,cs2,T2,fr2,f1,f2,f3,f4,f5,f6,f7,us2,v1,v2,v3,v4⟩:=h0
   refine⟨b2,cap2,cs2,T2,fr2,by show Dv κ d .dead j=_;rw[B1 _ _ hj];exact f1,f2,f3,f4,f5,λ m y hm hy=>?_,f7,us2,v1,v2,Jm st hx cl' us2 v3,v4⟩
   obtain ⟨g0,u,g1,g2⟩:=f6 m y hm hy
   exact⟨g0,u,RdD.keep st.keeps _ _ g1,g2⟩
def Agr (C:Cx) (n:Nat) (I:Nat→Prop) (L:Nat→List (Nat × SV)) (O:Nat→Obs) (i:Nat) (a:Act) (w:World):Prop :=
 ∃ x':{j:Nat // j≤n∧I j},∃ κ,n-x'.1<n-i∧St C.F C.n (mkS (L x'.1) (O x'.1)) κ a w
theorem Bi {C:Cx} {k:List KI} {s:SS} {body:Code} (n:Nat) (I:Nat→Prop) (L:Nat→List (Nat × SV)) (O:Nat→Obs) (ρ:List (Nat × Nat)) (h0:I 0) (hsub:Sub C s ρ (L 0) (O 0))
  (h:∀ i,i≤n→I i→G C (.code body::.inv (Agr C n I L O i)::k) (mkS (L i) (O i))):G C (.code (.loop body)::k) s :=
 Tk (α:={j:Nat // j≤n∧I j}) (λ x=>L x.1) (λ x=>O x.1) (λ x=>n-x.1) ⟨0,xP _,h0⟩ ρ hsub (λ x=>h x.1 x.2.1 x.2.2)
theorem Be {C:Cx} {k:List KI} {s:SS} {n:Nat} {I:Nat→Prop} {L:Nat→List (Nat × SV)} {O:Nat→Obs} {i:Nat} (ρ:List (Nat × Nat)) (h0:I i) (hi:i+1≤n) (h1:I (i+1)) (hsub:Sub C s ρ (L (i+1)) (O (i+1))):G C (.inv (Agr C n I L O i)::k) s :=
 U3 (α:={j:Nat // j≤n∧I j}) (L:=λ x=>L x.1) (O:=λ x=>O x.1) (μ:=λ x=>n-x.1) (x:=⟨i,by omega,h0⟩) ⟨i+1,hi,h1⟩ ρ (by simp only;omega) hsub
mutual
def frb (d sz:Nat) (x:SV):SV→SV
 | .ptr k o=>bif Nat.beq k d then .ref sz x o else .ptr k o
 | .agg l=>.agg (Ah9 d sz x l)
 | .tup l=>.tup (Ah9 d sz x l)
 | .ifc t y=>.ifc t (frb d sz x y)
 | .clo f g l=>.clo f (Ah9 d sz x g) (Ah9 d sz x l)
 | y=>y
def Ah9 (d sz:Nat) (x:SV):List SV→List SV
 | []=>[]
 | y::l=>frb d sz x y::Ah9 d sz x l
end
mutual
theorem Ape {κ κ':Ka} {w:World} {K:Nat→Prop} {d sz:Nat} {x:SV} (st:Step K κ w κ' w) (hx:∀ o v,Rd κ w (.ptr d o) v→Rd κ' w (.ref sz x o) v):∀ (y:SV) (v:Value),Rd κ w y v→Rd κ' w (frb d sz x y) v
 | .ptr k o,v,h=>by
  unfold frb
  by_cases hk:k=d
  ·subst hk;rw[show Nat.beq k k=true from uQ k];exact hx o v h
  ·rw[show Nat.beq k d=false from by cases hb:Nat.beq k d with | false=>rfl | true=>exact zW (yC hb) hk];exact Rd.step st _ _ h
 | .agg l,v,h=>by
  simp only[Rd]at h
  unfold frb
  simp only[Rd]
  obtain ⟨cs,h1,h2,h3⟩:=h
  exact⟨cs,h1,h2,Tx st hx l cs h3⟩
 | .tup l,v,h=>by
  simp only[Rd]at h
  unfold frb
  simp only[Rd]
  obtain ⟨cs,h1,h3⟩:=h
  exact⟨cs,h1,Tx st hx l cs h3⟩
 | .ifc t y,v,h=>by
  simp only[Rd]at h
  unfold frb
  simp only[Rd]
  obtain ⟨u,h1,h3⟩:=h
  exact⟨u,h1,Ape st hx y u h3⟩
 | .clo f g l,v,h=>by
  simp only[Rd]at h
  unfold frb
  simp only[Rd]
  obtain ⟨fs,cs,h1,h2,h3⟩:=h
  exact⟨fs,cs,h1,Tx st hx g fs h2,Tx st hx l cs h3⟩
 | .top,v,h=>by unfold frb;exact Rd.step st _ _ h
 | .val u,v,h=>by unfold frb;exact Rd.step st _ _ h
 | .sl sz e l,v,h=>by unfold frb;exact Rd.step st _ _ h
 | .ref sz z o,v,h=>by unfold frb;exact Rd.step st _ _ h
 | .rpt k sz i o,v,h=>by unfold frb;exact Rd.step st _ _ h
 | .osl k,v,h=>by unfold frb;exact Rd.step st _ _ h
theorem Tx {κ κ':Ka} {w:World} {K:Nat→Prop} {d sz:Nat} {x:SV} (st:Step K κ w κ' w) (hx:∀ o v,Rd κ w (.ptr d o) v→Rd κ' w (.ref sz x o) v):∀ (l:List SV) (vs:List Value),RdL κ w l vs→RdL κ' w (Ah9 d sz x l) vs
 | [],vs,h=>by
  unfold Ah9
  simpa [RdL] using h
 | y::l,vs,h=>by
  simp only[RdL]at h
  unfold Ah9
  simp only[RdL]
  obtain ⟨v,r,h1,h2,h3⟩:=h
  exact⟨v,r,h1,Ape st hx y v h2,Tx st hx l r h3⟩
end
def frbO (d sz:Nat) (x:SV):Ob→Ob
 | .box l=>.box (Ah9 d sz x l)
 | o=>o
theorem Ap3 {κ κ':Ka} {w:World} {d sz:Nat} {l:List SV} {x:SV} (h:ObOK κ w d (.box l)) (hl:cellsOf x=l) (hb:x.boxed=true) (_hd:Ok l=true) (hsz:l.length=sz) (ho:∀ b,b<w.heap.size→¬ Own κ b→¬ Own κ' b)
  (hdead:∀ b,(κ d).block? = some b→b<w.heap.size∧¬ Own κ' b) (hxd:x.data=true) (o:Nat) (v:Value) (hv:Rd κ w (.ptr d o) v):Rd κ' w (.ref sz x o) v:=by
 obtain ⟨b,cs,T,fr,e1,e2,e3,e4,e5⟩:=h
 simp only[Rd,e1]at hv
 obtain ⟨h1,h2⟩:=hdead b (by rw[e1];rfl)
 rw[← hl]at e5
 obtain ⟨u,f1,f2⟩:=Rd.of_cells hb e4 e5
 simp only[Rd,RdD]
 refine⟨b,0,u,by rw[xQ];exact hv,h2,h1,RdD.keep ⟨zZ _,λ _ _ _=>rfl,ho⟩ _ _ (Rd.data _ _ hxd f1),?_,by rw[f2];exact e4,λ j hj=>?_⟩
 ·have:=e5.length
  rw[← hsz,← hl,← this,← f2]
  simp
 ·rw[xQ,cell_of_row w b _ cs.toArray T fr e2,← f2]
theorem Az {C:Cx} {k:List KI} {s:SS} (d sz:Nat) (x:SV) {l:List SV} (h:s.h d=.box l) (hl:cellsOf x=l) (hc:(x.boxed && x.data && Ok l && Nat.beq l.length sz)=true)
  (hg:G C k ⟨λ i=>frb d sz x (s.σ i),λ j=>bif Nat.beq j d then .non else frbO d sz x (s.h j)⟩):G C k s:=λ κ a w hs=>by
 simp only[zB]at hc
 obtain ⟨⟨⟨hb,hxd⟩,hd⟩,hsz⟩:=hc
 have hsz:=yC hsz
 have hob:=hs.obj d
 rw[h]at hob
 have st:=Is (κ:=κ) (w:=w) (some d)
 have inv:=Kf hs.inv (some d)
 have hx:∀ o v,Rd κ w (.ptr d o) v→Rd (Dv κ d .dead) w (.ref sz x o) v:=λ o v hv =>
  Ap3 hob hl hb hd hsz st.keeps.out (λ b hb=>⟨hs.inv.bnd d b hb,by
   rintro (⟨q,hq⟩ | hq)
   ·by_cases hqd:q=d
    ·subst hqd;change (Dv κ q .dead q).block? = some b at hq;rw[Ar]at hq;cases hq
    ·change (Dv κ d .dead q).block? = some b at hq
     rw[B1 _ _ hqd]at hq
     exact hqd (hs.inv.inj q d b hq hb)
   ·exact hs.inv.apart d b hb hq⟩) hxd o v hv
 refine hg (Dv κ d .dead) a w ⟨hs.defers,hs.size,inv,hs.ctx.step inv st,λ j=>Ape st hx _ _ (hs.slot j),λ j=>?_⟩
 show ObOK _ w j (bif Nat.beq j d then .non else frbO d sz x (s.h j))
 by_cases hj:j=d
 ·subst hj;rw[show Nat.beq j j=true from uQ j];trivial
 ·rw[show Nat.beq j d=false from by cases hb:Nat.beq j d with | false=>rfl | true=>exact zW (yC hb) hj]
  have hb:=ObOK.step st (λ e=>hj (Option.some.inj e).symm) _ (hs.obj j)
  have h0:=hs.obj j
  show ObOK _ w j (frbO d sz x (s.h j))
  cases hh:s.h j with
  | box m =>
   rw[hh]at h0 hb
   obtain ⟨b,cs,T,fr,e1,e2,e3,e4,e5⟩:=h0
   exact⟨b,cs,T,fr,by show Dv κ d .dead j=_;rw[B1 _ _ hj];exact e1,e2,e3,e4,Tx st hx m cs e5⟩
  | fresh=>rw[hh]at hb;exact hb
  | non=>rw[hh]at hb;exact hb
  | row sz' e' l'=>rw[hh]at hb;exact hb
  | lit sz' svs=>rw[hh]at hb;exact hb
  | glob sz' x' g'=>rw[hh]at hb;exact hb
  | pin b' n' cap' sz' e' l'=>rw[hh]at hb;exact hb
  | dat v' sz' e' l'=>rw[hh]at hb;exact hb
  | trow T' m'=>rw[hh]at hb;exact hb
  | rown sz' e' l' i' cl'=>rw[hh]at hb;exact hb
  | tbox T' m'=>rw[hh]at hb;exact hb
theorem Ao {C:Cx} {k:List KI} {s:SS} (d sz:Nat) {α:Type} (e:α→SV) (h:s.σ d=.val (.slice none 0 0)) (hg:G C k ⟨upd s.σ d (.sl sz e []),s.h⟩):G C k s :=
 G_set d (λ κ w v hv=>by
  rw[h]at hv
  simp only[Rd]at hv
  simp only[Rd,RdD]
  exact .inl ⟨Y,none,0,hv⟩) hg
end Go.Sy
namespace Go.Sy.YtljngfegfclkpaaGreat
open Go.Proofs
set_option maxRecDepth 100000
theorem ty1:Ba Tryz.prog 1=some ⟨.func,1,[.nilFunc]⟩:=by kernel_rfl
theorem ty2:Ba Tryz.prog 2=some ⟨.int .i64,1,[.int .i64 0]⟩:=by kernel_rfl
theorem ty3:Ba Tryz.prog 3=some ⟨.int .i64,1,[.int .i64 0]⟩:=by kernel_rfl
theorem ty4:Ba Tryz.prog 4=some ⟨.bool,1,[.bool false]⟩:=by kernel_rfl
theorem ty5:Ba Tryz.prog 5=some ⟨.int .u8,1,[.int .u8 0]⟩:=by kernel_rfl
theorem ty9:Ba Tryz.prog 9=some ⟨.string,1,[.string .empty]⟩:=by kernel_rfl
theorem ty20:Ba Tryz.prog 20=some ⟨.iface,1,[.nilIface]⟩:=by kernel_rfl
theorem ty22:Ba Tryz.prog 22=some ⟨.slice 67 17 240 [.int .i64 0,.int .i64 0,.string .empty,.string .empty,.string .empty,.string .empty,.string .empty,.int .u64 0,.int .u32 0,.int .i64 0,.int .i64 0,.int .i64 0,.int .i64 0,.slice none 0 0,.slice none 0 0,.slice none 0 0,.slice none 0 0],1,[.slice none 0 0]⟩:=by kernel_rfl
theorem ty25:Ba Tryz.prog 25=some ⟨.slice 54 5 48 [.int .i64 0,.int .i64 0,.string .empty,.int .u64 0,.int .u32 0],1,[.slice none 0 0]⟩:=by kernel_rfl
theorem ty26:Ba Tryz.prog 26=some ⟨.slice 57 7 80 [.int .i64 0,.int .i64 0,.int .i64 0,.int .i64 0,.int .i64 0,.string .empty,.slice none 0 0],1,[.slice none 0 0]⟩:=by kernel_rfl
theorem ty27:Ba Tryz.prog 27=some ⟨.slice 158 3 24 [.int .i64 0,.int .i64 0,.int .i64 0],1,[.slice none 0 0]⟩:=by kernel_rfl
theorem ty28:Ba Tryz.prog 28=some ⟨.slice 59 6 64 [.int .i64 0,.int .i64 0,.int .i64 0,.int .i64 0,.int .i64 0,.slice none 0 0],1,[.slice none 0 0]⟩:=by kernel_rfl
theorem ty29:Ba Tryz.prog 29=some ⟨.slice 162 4 32 [.int .i64 0,.int .i64 0,.int .i64 0,.int .u64 0],1,[.slice none 0 0]⟩:=by kernel_rfl
theorem ty30:Ba Tryz.prog 30=some ⟨.slice 166 4 48 [.int .i64 0,.int .i64 0,.int .i64 0,.slice none 0 0],1,[.slice none 0 0]⟩:=by kernel_rfl
theorem ty31:Ba Tryz.prog 31=some ⟨.slice 171 5 80 [.int .i64 0,.int .i64 0,.string .empty,.slice none 0 0,.slice none 0 0],1,[.slice none 0 0]⟩:=by kernel_rfl
theorem ty32:Ba Tryz.prog 32=some ⟨.slice 118 5 40 [.int .i64 0,.int .i64 0,.int .i64 0,.int .u32 0,.int .i64 0],1,[.slice none 0 0]⟩:=by kernel_rfl
theorem ty34:Ba Tryz.prog 34=some ⟨.struct [(0,1),(1,1),(2,1),(3,1),(4,1),(5,1),(6,1),(7,1)],8,[.slice none 0 0,.slice none 0 0,.slice none 0 0,.slice none 0 0,.slice none 0 0,.slice none 0 0,.slice none 0 0,.slice none 0 0]⟩:=by kernel_rfl
theorem ty35:Ba Tryz.prog 35=some ⟨.int .i64,1,[.int .i64 0]⟩:=by kernel_rfl
theorem ty38:Ba Tryz.prog 38=some ⟨.slice 44 6 80 [.int .i64 0,.int .i64 0,.int .i64 0,.int .i64 0,.slice none 0 0,.slice none 0 0],1,[.slice none 0 0]⟩:=by kernel_rfl
theorem ty41:Ba Tryz.prog 41=some ⟨.slice 5 1 1 [.int .u8 0],1,[.slice none 0 0]⟩:=by kernel_rfl
theorem ty42:Ba Tryz.prog 42=some ⟨.slice 4 1 1 [.bool false],1,[.slice none 0 0]⟩:=by kernel_rfl
theorem ty44:Ba Tryz.prog 44=some ⟨.struct [(0,1),(1,1),(2,1),(3,1),(4,1),(5,1)],6,[.int .i64 0,.int .i64 0,.int .i64 0,.int .i64 0,.slice none 0 0,.slice none 0 0]⟩:=by kernel_rfl
theorem ty45:Ba Tryz.prog 45=some ⟨.slice 49 3 40 [.int .i64 0,.int .i64 0,.slice none 0 0],1,[.slice none 0 0]⟩:=by kernel_rfl
theorem ty49:Ba Tryz.prog 49=some ⟨.struct [(0,1),(1,1),(2,1)],3,[.int .i64 0,.int .i64 0,.slice none 0 0]⟩:=by kernel_rfl
theorem ty51:Ba Tryz.prog 51=some ⟨.int .u64,1,[.int .u64 0]⟩:=by kernel_rfl
theorem ty52:Ba Tryz.prog 52=some ⟨.int .u32,1,[.int .u32 0]⟩:=by kernel_rfl
theorem ty54:Ba Tryz.prog 54=some ⟨.struct [(0,1),(1,1),(2,1),(3,1),(4,1)],5,[.int .i64 0,.int .i64 0,.string .empty,.int .u64 0,.int .u32 0]⟩:=by kernel_rfl
theorem ty55:Ba Tryz.prog 55=some ⟨.slice 3 1 8 [.int .i64 0],1,[.slice none 0 0]⟩:=by kernel_rfl
theorem ty57:Ba Tryz.prog 57=some ⟨.struct [(0,1),(1,1),(2,1),(3,1),(4,1),(5,1),(6,1)],7,[.int .i64 0,.int .i64 0,.int .i64 0,.int .i64 0,.int .i64 0,.string .empty,.slice none 0 0]⟩:=by kernel_rfl
theorem ty59:Ba Tryz.prog 59=some ⟨.struct [(0,1),(1,1),(2,1),(3,1),(4,1),(5,1)],6,[.int .i64 0,.int .i64 0,.int .i64 0,.int .i64 0,.int .i64 0,.slice none 0 0]⟩:=by kernel_rfl
theorem ty60:Ba Tryz.prog 60=some ⟨.slice 94 4 32 [.int .i64 0,.int .i64 0,.int .i64 0,.int .u32 0],1,[.slice none 0 0]⟩:=by kernel_rfl
theorem ty65:Ba Tryz.prog 65=some ⟨.slice 52 1 4 [.int .u32 0],1,[.slice none 0 0]⟩:=by kernel_rfl
theorem ty67:Ba Tryz.prog 67=some ⟨.struct [(0,1),(1,1),(2,1),(3,1),(4,1),(5,1),(6,1),(7,1),(8,1),(9,1),(10,1),(11,1),(12,1),(13,1),(14,1),(15,1),(16,1)],17,[.int .i64 0,.int .i64 0,.string .empty,.string .empty,.string .empty,.string .empty,.string .empty,.int .u64 0,.int .u32 0,.int .i64 0,.int .i64 0,.int .i64 0,.int .i64 0,.slice none 0 0,.slice none 0 0,.slice none 0 0,.slice none 0 0]⟩:=by kernel_rfl
theorem ty68:Ba Tryz.prog 68=some ⟨.ptr,1,[.pointer none]⟩:=by kernel_rfl
theorem ty73:Ba Tryz.prog 73=some ⟨.struct [(0,0),(0,1)],1,[.int .u32 0]⟩:=by kernel_rfl
theorem ty77:Ba Tryz.prog 77=some ⟨.struct [(0,0),(0,2)],2,[.int .i32 0,.int .u32 0]⟩:=by kernel_rfl
theorem ty79:Ba Tryz.prog 79=some ⟨.struct [(0,0),(0,1),(1,2)],3,[.int .u32 0,.int .i32 0,.int .u32 0]⟩:=by kernel_rfl
theorem ty81:Ba Tryz.prog 81=some ⟨.struct [(0,3),(3,1),(4,8),(12,1),(13,1)],14,[.int .u32 0,.int .i32 0,.int .u32 0,.slice none 0 0,.slice none 0 0,.slice none 0 0,.slice none 0 0,.slice none 0 0,.slice none 0 0,.slice none 0 0,.slice none 0 0,.slice none 0 0,.int .i64 0,.int .i64 0]⟩:=by kernel_rfl
theorem ty84:Ba Tryz.prog 84=some ⟨.ptr,1,[.pointer none]⟩:=by kernel_rfl
theorem ty88:Ba Tryz.prog 88=some ⟨.func,1,[.nilFunc]⟩:=by kernel_rfl
theorem ty89:Ba Tryz.prog 89=some ⟨.slice 140 7 72 [.int .i64 0,.int .i64 0,.int .i64 0,.int .u64 0,.int .u64 0,.int .i64 0,.slice none 0 0],1,[.slice none 0 0]⟩:=by kernel_rfl
theorem ty94:Ba Tryz.prog 94=some ⟨.struct [(0,1),(1,1),(2,1),(3,1)],4,[.int .i64 0,.int .i64 0,.int .i64 0,.int .u32 0]⟩:=by kernel_rfl
theorem ty96:Ba Tryz.prog 96=some ⟨.ptr,1,[.pointer none]⟩:=by kernel_rfl
theorem ty97:Ba Tryz.prog 97=some ⟨.array 42 2 1,2,[.slice none 0 0,.slice none 0 0]⟩:=by kernel_rfl
theorem ty98:Ba Tryz.prog 98=some ⟨.slice 106 7 56 [.int .i64 0,.int .i64 0,.int .i64 0,.int .i64 0,.int .i64 0,.int .u32 0,.int .i64 0],1,[.slice none 0 0]⟩:=by kernel_rfl
theorem ty100:Ba Tryz.prog 100=some ⟨.struct [(0,8),(8,2),(10,1)],11,[.slice none 0 0,.slice none 0 0,.slice none 0 0,.slice none 0 0,.slice none 0 0,.slice none 0 0,.slice none 0 0,.slice none 0 0,.slice none 0 0,.slice none 0 0,.slice none 0 0]⟩:=by kernel_rfl
theorem ty104:Ba Tryz.prog 104=some ⟨.struct [(0,1),(1,1)],2,[.int .i64 0,.int .i64 0]⟩:=by kernel_rfl
theorem ty106:Ba Tryz.prog 106=some ⟨.struct [(0,2),(2,4),(6,1)],7,[.int .i64 0,.int .i64 0,.int .i64 0,.int .i64 0,.int .i64 0,.int .u32 0,.int .i64 0]⟩:=by kernel_rfl
theorem ty109:Ba Tryz.prog 109=some ⟨.struct [(0,1),(1,1),(2,1),(3,1)],4,[.int .u64 0,.int .u64 0,.int .i64 0,.slice none 0 0]⟩:=by kernel_rfl
theorem ty111:Ba Tryz.prog 111=some ⟨.func,1,[.nilFunc]⟩:=by kernel_rfl
theorem ty114:Ba Tryz.prog 114=some ⟨.struct [(0,1),(1,1),(2,1),(3,1),(4,1),(5,1),(6,1)],7,[.int .i64 0,.int .i64 0,.int .i64 0,.int .i64 0,.int .u32 0,.int .u32 0,.slice none 0 0]⟩:=by kernel_rfl
theorem ty116:Ba Tryz.prog 116=some ⟨.struct [(0,1),(1,1)],2,[.int .u32 0,.int .i64 0]⟩:=by kernel_rfl
theorem ty118:Ba Tryz.prog 118=some ⟨.struct [(0,1),(1,1),(2,1),(3,2)],5,[.int .i64 0,.int .i64 0,.int .i64 0,.int .u32 0,.int .i64 0]⟩:=by kernel_rfl
theorem ty126:Ba Tryz.prog 126=some ⟨.ptr,1,[.pointer none]⟩:=by kernel_rfl
theorem ty128:Ba Tryz.prog 128=some ⟨.struct [(0,1),(1,3),(4,1)],5,[.slice none 0 0,.int .u32 0,.int .i32 0,.int .u32 0,.slice none 0 0]⟩:=by kernel_rfl
theorem ty129:Ba Tryz.prog 129=some ⟨.slice 217 1 24 [.slice none 0 0],1,[.slice none 0 0]⟩:=by kernel_rfl
theorem ty130:Ba Tryz.prog 130=some ⟨.slice 89 1 24 [.slice none 0 0],1,[.slice none 0 0]⟩:=by kernel_rfl
theorem ty133:Ba Tryz.prog 133=some ⟨.struct [(0,0),(0,0),(0,1)],1,[.int .i64 0]⟩:=by kernel_rfl
theorem ty134:Ba Tryz.prog 134=some ⟨.array 133 64 1,64,[.int .i64 0,.int .i64 0,.int .i64 0,.int .i64 0,.int .i64 0,.int .i64 0,.int .i64 0,.int .i64 0,.int .i64 0,.int .i64 0,.int .i64 0,.int .i64 0,.int .i64 0,.int .i64 0,.int .i64 0,.int .i64 0,.int .i64 0,.int .i64 0,.int .i64 0,.int .i64 0,.int .i64 0,.int .i64 0,.int .i64 0,.int .i64 0,.int .i64 0,.int .i64 0,.int .i64 0,.int .i64 0,.int .i64 0,.int .i64 0,.int .i64 0,.int .i64 0,.int .i64 0,.int .i64 0,.int .i64 0,.int .i64 0,.int .i64 0,.int .i64 0,.int .i64 0,.int .i64 0,.int .i64 0,.int .i64 0,.int .i64 0,.int .i64 0,.int .i64 0,.int .i64 0,.int .i64 0,.int .i64 0,.int .i64 0,.int .i64 0,.int .i64 0,.int .i64 0,.int .i64 0,.int .i64 0,.int .i64 0,.int .i64 0,.int .i64 0,.int .i64 0,.int .i64 0,.int .i64 0,.int .i64 0,.int .i64 0,.int .i64 0,.int .i64 0]⟩:=by kernel_rfl
theorem ty136:Ba Tryz.prog 136=some ⟨.struct [(0,8),(8,1),(9,1),(10,1),(11,1),(12,1),(13,64)],77,[.slice none 0 0,.slice none 0 0,.slice none 0 0,.slice none 0 0,.slice none 0 0,.slice none 0 0,.slice none 0 0,.slice none 0 0,.pointer none,.slice none 0 0,.slice none 0 0,.int .i64 0,.int .i64 0,.int .i64 0,.int .i64 0,.int .i64 0,.int .i64 0,.int .i64 0,.int .i64 0,.int .i64 0,.int .i64 0,.int .i64 0,.int .i64 0,.int .i64 0,.int .i64 0,.int .i64 0,.int .i64 0,.int .i64 0,.int .i64 0,.int .i64 0,.int .i64 0,.int .i64 0,.int .i64 0,.int .i64 0,.int .i64 0,.int .i64 0,.int .i64 0,.int .i64 0,.int .i64 0,.int .i64 0,.int .i64 0,.int .i64 0,.int .i64 0,.int .i64 0,.int .i64 0,.int .i64 0,.int .i64 0,.int .i64 0,.int .i64 0,.int .i64 0,.int .i64 0,.int .i64 0,.int .i64 0,.int .i64 0,.int .i64 0,.int .i64 0,.int .i64 0,.int .i64 0,.int .i64 0,.int .i64 0,.int .i64 0,.int .i64 0,.int .i64 0,.int .i64 0,.int .i64 0,.int .i64 0,.int .i64 0,.int .i64 0,.int .i64 0,.int .i64 0,.int .i64 0,.int .i64 0,.int .i64 0,.int .i64 0,.int .i64 0,.int .i64 0,.int .i64 0]⟩:=by kernel_rfl
theorem ty140:Ba Tryz.prog 140=some ⟨.struct [(0,1),(1,1),(2,1),(3,4)],7,[.int .i64 0,.int .i64 0,.int .i64 0,.int .u64 0,.int .u64 0,.int .i64 0,.slice none 0 0]⟩:=by kernel_rfl
theorem ty144:Ba Tryz.prog 144=some ⟨.func,1,[.nilFunc]⟩:=by kernel_rfl
theorem ty151:Ba Tryz.prog 151=some ⟨.struct [(0,8)],8,[.slice none 0 0,.slice none 0 0,.slice none 0 0,.slice none 0 0,.slice none 0 0,.slice none 0 0,.slice none 0 0,.slice none 0 0]⟩:=by kernel_rfl
theorem ty153:Ba Tryz.prog 153=some ⟨.func,1,[.nilFunc]⟩:=by kernel_rfl
theorem ty155:Ba Tryz.prog 155=some ⟨.func,1,[.nilFunc]⟩:=by kernel_rfl
theorem ty158:Ba Tryz.prog 158=some ⟨.struct [(0,1),(1,1),(2,1)],3,[.int .i64 0,.int .i64 0,.int .i64 0]⟩:=by kernel_rfl
theorem ty159:Ba Tryz.prog 159=some ⟨.func,1,[.nilFunc]⟩:=by kernel_rfl
theorem ty162:Ba Tryz.prog 162=some ⟨.struct [(0,1),(1,1),(2,1),(3,1)],4,[.int .i64 0,.int .i64 0,.int .i64 0,.int .u64 0]⟩:=by kernel_rfl
theorem ty163:Ba Tryz.prog 163=some ⟨.func,1,[.nilFunc]⟩:=by kernel_rfl
theorem ty166:Ba Tryz.prog 166=some ⟨.struct [(0,1),(1,1),(2,1),(3,1)],4,[.int .i64 0,.int .i64 0,.int .i64 0,.slice none 0 0]⟩:=by kernel_rfl
theorem ty168:Ba Tryz.prog 168=some ⟨.func,1,[.nilFunc]⟩:=by kernel_rfl
theorem ty171:Ba Tryz.prog 171=some ⟨.struct [(0,1),(1,1),(2,1),(3,1),(4,1)],5,[.int .i64 0,.int .i64 0,.string .empty,.slice none 0 0,.slice none 0 0]⟩:=by kernel_rfl
theorem ty172:Ba Tryz.prog 172=some ⟨.func,1,[.nilFunc]⟩:=by kernel_rfl
theorem ty174:Ba Tryz.prog 174=some ⟨.func,1,[.nilFunc]⟩:=by kernel_rfl
theorem ty182:Ba Tryz.prog 182=some ⟨.slice 185 3 24 [.int .i64 0,.int .i64 0,.int .u32 0],1,[.slice none 0 0]⟩:=by kernel_rfl
theorem ty185:Ba Tryz.prog 185=some ⟨.struct [(0,1),(1,1),(2,1)],3,[.int .i64 0,.int .i64 0,.int .u32 0]⟩:=by kernel_rfl
theorem ty186:Ba Tryz.prog 186=some ⟨.func,1,[.nilFunc]⟩:=by kernel_rfl
theorem ty188:Ba Tryz.prog 188=some ⟨.int .u64,1,[.int .u64 0]⟩:=by kernel_rfl
theorem ty191:Ba Tryz.prog 191=some ⟨.ptr,1,[.pointer none]⟩:=by kernel_rfl
theorem ty199:Ba Tryz.prog 199=some ⟨.ptr,1,[.pointer none]⟩:=by kernel_rfl
theorem ty217:Ba Tryz.prog 217=some ⟨.slice 285 3 24 [.int .u64 0,.int .i64 0,.int .i64 0],1,[.slice none 0 0]⟩:=by kernel_rfl
theorem ty218:Ba Tryz.prog 218=some ⟨.slice 224 9 104 [.int .i64 0,.int .i64 0,.int .i64 0,.slice none 0 0,.int .u64 0,.int .u64 0,.int .i64 0,.slice none 0 0,.int .i64 0],1,[.slice none 0 0]⟩:=by kernel_rfl
theorem ty224:Ba Tryz.prog 224=some ⟨.struct [(0,1),(1,1),(2,1),(3,1),(4,4),(8,1)],9,[.int .i64 0,.int .i64 0,.int .i64 0,.slice none 0 0,.int .u64 0,.int .u64 0,.int .i64 0,.slice none 0 0,.int .i64 0]⟩:=by kernel_rfl
theorem ty233:Ba Tryz.prog 233=some ⟨.func,1,[.nilFunc]⟩:=by kernel_rfl
theorem ty241:Ba Tryz.prog 241=some ⟨.func,1,[.nilFunc]⟩:=by kernel_rfl
theorem ty246:Ba Tryz.prog 246=some ⟨.ptr,1,[.pointer none]⟩:=by kernel_rfl
theorem ty248:Ba Tryz.prog 248=some ⟨.ptr,1,[.pointer none]⟩:=by kernel_rfl
theorem ty252:Ba Tryz.prog 252=some ⟨.slice 3 1 8 [.int .i64 0],1,[.slice none 0 0]⟩:=by kernel_rfl
theorem ty262:Ba Tryz.prog 262=some ⟨.struct [(0,8),(8,1),(9,1),(10,1),(11,1)],12,[.slice none 0 0,.slice none 0 0,.slice none 0 0,.slice none 0 0,.slice none 0 0,.slice none 0 0,.slice none 0 0,.slice none 0 0,.slice none 0 0,.slice none 0 0,.slice none 0 0,.slice none 0 0]⟩:=by kernel_rfl
theorem ty263:Ba Tryz.prog 263=some ⟨.func,1,[.nilFunc]⟩:=by kernel_rfl
theorem ty285:Ba Tryz.prog 285=some ⟨.struct [(0,1),(1,1),(2,1)],3,[.int .u64 0,.int .i64 0,.int .i64 0]⟩:=by kernel_rfl
theorem ty287:Ba Tryz.prog 287=some ⟨.func,1,[.nilFunc]⟩:=by kernel_rfl
theorem ty295:Ba Tryz.prog 295=some ⟨.func,1,[.nilFunc]⟩:=by kernel_rfl
theorem ty300:Ba Tryz.prog 300=some ⟨.ptr,1,[.pointer none]⟩:=by kernel_rfl
theorem ty305:Ba Tryz.prog 305=some ⟨.struct [(0,8)],8,[.slice none 0 0,.slice none 0 0,.slice none 0 0,.slice none 0 0,.slice none 0 0,.slice none 0 0,.slice none 0 0,.slice none 0 0]⟩:=by kernel_rfl
theorem ty306:Ba Tryz.prog 306=some ⟨.func,1,[.nilFunc]⟩:=by kernel_rfl
theorem ty313:Ba Tryz.prog 313=some ⟨.array 3 2 1,2,[.int .i64 0,.int .i64 0]⟩:=by kernel_rfl
theorem ty320:Ba Tryz.prog 320=some ⟨.func,1,[.nilFunc]⟩:=by kernel_rfl
theorem ty323:Ba Tryz.prog 323=some ⟨.func,1,[.nilFunc]⟩:=by kernel_rfl
theorem ty327:Ba Tryz.prog 327=some ⟨.ptr,1,[.pointer none]⟩:=by kernel_rfl
theorem ty329:Ba Tryz.prog 329=some ⟨.slice 332 3 24 [.int .i64 0,.int .i64 0,.int .i64 0],1,[.slice none 0 0]⟩:=by kernel_rfl
theorem ty332:Ba Tryz.prog 332=some ⟨.struct [(0,1),(1,1),(2,1)],3,[.int .i64 0,.int .i64 0,.int .i64 0]⟩:=by kernel_rfl
theorem ty336:Ba Tryz.prog 336=some ⟨.slice 338 5 40 [.int .i64 0,.int .i64 0,.int .i64 0,.int .i64 0,.int .i64 0],1,[.slice none 0 0]⟩:=by kernel_rfl
theorem ty338:Ba Tryz.prog 338=some ⟨.struct [(0,1),(1,1),(2,1),(3,1),(4,1)],5,[.int .i64 0,.int .i64 0,.int .i64 0,.int .i64 0,.int .i64 0]⟩:=by kernel_rfl
theorem ty342:Ba Tryz.prog 342=some ⟨.ptr,1,[.pointer none]⟩:=by kernel_rfl
theorem ty347:Ba Tryz.prog 347=some ⟨.struct [(0,8),(8,1),(9,1),(10,1),(11,1)],12,[.slice none 0 0,.slice none 0 0,.slice none 0 0,.slice none 0 0,.slice none 0 0,.slice none 0 0,.slice none 0 0,.slice none 0 0,.slice none 0 0,.int .i64 0,.int .i64 0,.slice none 0 0]⟩:=by kernel_rfl
theorem ty355:Ba Tryz.prog 355=some ⟨.struct [(0,8)],8,[.slice none 0 0,.slice none 0 0,.slice none 0 0,.slice none 0 0,.slice none 0 0,.slice none 0 0,.slice none 0 0,.slice none 0 0]⟩:=by kernel_rfl
theorem ty359:Ba Tryz.prog 359=some ⟨.ptr,1,[.pointer none]⟩:=by kernel_rfl
theorem ty361:Ba Tryz.prog 361=some ⟨.ptr,1,[.pointer none]⟩:=by kernel_rfl
theorem ty385:Ba Tryz.prog 385=some ⟨.func,1,[.nilFunc]⟩:=by kernel_rfl
theorem ty388:Ba Tryz.prog 388=some ⟨.func,1,[.nilFunc]⟩:=by kernel_rfl
theorem ty393:Ba Tryz.prog 393=some ⟨.iface,1,[.nilIface]⟩:=by kernel_rfl
theorem ty411:Ba Tryz.prog 411=some ⟨.ptr,1,[.pointer none]⟩:=by kernel_rfl
theorem ty413:Ba Tryz.prog 413=some ⟨.struct [(0,7),(7,1)],8,[.int .i64 0,.int .i64 0,.int .i64 0,.int .i64 0,.int .u32 0,.int .u32 0,.slice none 0 0,.int .i64 0]⟩:=by kernel_rfl
theorem ty415:Ba Tryz.prog 415=some ⟨.struct [(0,8),(8,1)],9,[.int .i64 0,.int .i64 0,.int .i64 0,.int .i64 0,.int .u32 0,.int .u32 0,.slice none 0 0,.int .i64 0,.int .i64 0]⟩:=by kernel_rfl
theorem ty429:Ba Tryz.prog 429=some ⟨.array 3 4 1,4,[.int .i64 0,.int .i64 0,.int .i64 0,.int .i64 0]⟩:=by kernel_rfl
theorem tq54:Oh Tryz.prog 54=some [.int .i64,.int .i64,.string,.int .u64,.int .u32]:=by kernel_rfl
theorem tq94:Oh Tryz.prog 94=some [.int .i64,.int .i64,.int .i64,.int .u32]:=by kernel_rfl
theorem tq104:Oh Tryz.prog 104=some [.int .i64,.int .i64]:=by kernel_rfl
theorem tq116:Oh Tryz.prog 116=some [.int .u32,.int .i64]:=by kernel_rfl
theorem tq158:Oh Tryz.prog 158=some [.int .i64,.int .i64,.int .i64]:=by kernel_rfl
theorem tq162:Oh Tryz.prog 162=some [.int .i64,.int .i64,.int .i64,.int .u64]:=by kernel_rfl
theorem tq185:Oh Tryz.prog 185=some [.int .i64,.int .i64,.int .u32]:=by kernel_rfl
theorem tq285:Oh Tryz.prog 285=some [.int .u64,.int .i64,.int .i64]:=by kernel_rfl
theorem tq332:Oh Tryz.prog 332=some [.int .i64,.int .i64,.int .i64]:=by kernel_rfl
theorem tq338:Oh Tryz.prog 338=some [.int .i64,.int .i64,.int .i64,.int .i64,.int .i64]:=by kernel_rfl
def tab:Tr TI:=(.nd 134 (⟨.array 133 64 1,64,[.int .i64 0,.int .i64 0,.int .i64 0,.int .i64 0,.int .i64 0,.int .i64 0,.int .i64 0,.int .i64 0,.int .i64 0,.int .i64 0,.int .i64 0,.int .i64 0,.int .i64 0,.int .i64 0,.int .i64 0,.int .i64 0,.int .i64 0,.int .i64 0,.int .i64 0,.int .i64 0,.int .i64 0,.int .i64 0,.int .i64 0,.int .i64 0,.int .i64 0,.int .i64 0,.int .i64 0,.int .i64 0,.int .i64 0,.int .i64 0,.int .i64 0,.int .i64 0,.int .i64 0,.int .i64 0,.int .i64 0,.int .i64 0,.int .i64 0,.int .i64 0,.int .i64 0,.int .i64 0,.int .i64 0,.int .i64 0,.int .i64 0,.int .i64 0,.int .i64 0,.int .i64 0,.int .i64 0,.int .i64 0,.int .i64 0,.int .i64 0,.int .i64 0,.int .i64 0,.int .i64 0,.int .i64 0,.int .i64 0,.int .i64 0,.int .i64 0,.int .i64 0,.int .i64 0,.int .i64 0,.int .i64 0,.int .i64 0,.int .i64 0,.int .i64 0]⟩) (.nd 59 (⟨.struct [(0,1),(1,1),(2,1),(3,1),(4,1),(5,1)],6,[.int .i64 0,.int .i64 0,.int .i64 0,.int .i64 0,.int .i64 0,.slice none 0 0]⟩) (.nd 31 (⟨.slice 171 5 80 [.int .i64 0,.int .i64 0,.string .empty,.slice none 0 0,.slice none 0 0],1,[.slice none 0 0]⟩) (.nd 22 (⟨.slice 67 17 240 [.int .i64 0,.int .i64 0,.string .empty,.string .empty,.string .empty,.string .empty,.string .empty,.int .u64 0,.int .u32 0,.int .i64 0,.int .i64 0,.int .i64 0,.int .i64 0,.slice none 0 0,.slice none 0 0,.slice none 0 0,.slice none 0 0],1,[.slice none 0 0]⟩) (.nd 4 (⟨.bool,1,[.bool false]⟩) (.nd 2 (⟨.int .i64,1,[.int .i64 0]⟩) (.nd 1 (⟨.func,1,[.nilFunc]⟩) .lf .lf) (.nd 3 (⟨.int .i64,1,[.int .i64 0]⟩) .lf .lf)) (.nd 9 (⟨.string,1,[.string .empty]⟩) (.nd 5 (⟨.int .u8,1,[.int .u8 0]⟩) .lf .lf) (.nd 20 (⟨.iface,1,[.nilIface]⟩) .lf .lf))) (.nd 28 (⟨.slice 59 6 64 [.int .i64 0,.int .i64 0,.int .i64 0,.int .i64 0,.int .i64 0,.slice none 0 0],1,[.slice none 0 0]⟩) (.nd 26 (⟨.slice 57 7 80 [.int .i64 0,.int .i64 0,.int .i64 0,.int .i64 0,.int .i64 0,.string .empty,.slice none 0 0],1,[.slice none 0 0]⟩) (.nd 25 (⟨.slice 54 5 48 [.int .i64 0,.int .i64 0,.string .empty,.int .u64 0,.int .u32 0],1,[.slice none 0 0]⟩) .lf .lf) (.nd 27 (⟨.slice 158 3 24 [.int .i64 0,.int .i64 0,.int .i64 0],1,[.slice none 0 0]⟩) .lf .lf)) (.nd 30 (⟨.slice 166 4 48 [.int .i64 0,.int .i64 0,.int .i64 0,.slice none 0 0],1,[.slice none 0 0]⟩) (.nd 29 (⟨.slice 162 4 32 [.int .i64 0,.int .i64 0,.int .i64 0,.int .u64 0],1,[.slice none 0 0]⟩) .lf .lf) .lf))) (.nd 45 (⟨.slice 49 3 40 [.int .i64 0,.int .i64 0,.slice none 0 0],1,[.slice none 0 0]⟩) (.nd 38 (⟨.slice 44 6 80 [.int .i64 0,.int .i64 0,.int .i64 0,.int .i64 0,.slice none 0 0,.slice none 0 0],1,[.slice none 0 0]⟩) (.nd 34 (⟨.struct [(0,1),(1,1),(2,1),(3,1),(4,1),(5,1),(6,1),(7,1)],8,[.slice none 0 0,.slice none 0 0,.slice none 0 0,.slice none 0 0,.slice none 0 0,.slice none 0 0,.slice none 0 0,.slice none 0 0]⟩) (.nd 32 (⟨.slice 118 5 40 [.int .i64 0,.int .i64 0,.int .i64 0,.int .u32 0,.int .i64 0],1,[.slice none 0 0]⟩) .lf .lf) (.nd 35 (⟨.int .i64,1,[.int .i64 0]⟩) .lf .lf)) (.nd 42 (⟨.slice 4 1 1 [.bool false],1,[.slice none 0 0]⟩) (.nd 41 (⟨.slice 5 1 1 [.int .u8 0],1,[.slice none 0 0]⟩) .lf .lf) (.nd 44 (⟨.struct [(0,1),(1,1),(2,1),(3,1),(4,1),(5,1)],6,[.int .i64 0,.int .i64 0,.int .i64 0,.int .i64 0,.slice none 0 0,.slice none 0 0]⟩) .lf .lf))) (.nd 54 (⟨.struct [(0,1),(1,1),(2,1),(3,1),(4,1)],5,[.int .i64 0,.int .i64 0,.string .empty,.int .u64 0,.int .u32 0]⟩) (.nd 51 (⟨.int .u64,1,[.int .u64 0]⟩) (.nd 49 (⟨.struct [(0,1),(1,1),(2,1)],3,[.int .i64 0,.int .i64 0,.slice none 0 0]⟩) .lf .lf) (.nd 52 (⟨.int .u32,1,[.int .u32 0]⟩) .lf .lf)) (.nd 57 (⟨.struct [(0,1),(1,1),(2,1),(3,1),(4,1),(5,1),(6,1)],7,[.int .i64 0,.int .i64 0,.int .i64 0,.int .i64 0,.int .i64 0,.string .empty,.slice none 0 0]⟩) (.nd 55 (⟨.slice 3 1 8 [.int .i64 0],1,[.slice none 0 0]⟩) .lf .lf) .lf)))) (.nd 98 (⟨.slice 106 7 56 [.int .i64 0,.int .i64 0,.int .i64 0,.int .i64 0,.int .i64 0,.int .u32 0,.int .i64 0],1,[.slice none 0 0]⟩) (.nd 81 (⟨.struct [(0,3),(3,1),(4,8),(12,1),(13,1)],14,[.int .u32 0,.int .i32 0,.int .u32 0,.slice none 0 0,.slice none 0 0,.slice none 0 0,.slice none 0 0,.slice none 0 0,.slice none 0 0,.slice none 0 0,.slice none 0 0,.slice none 0 0,.int .i64 0,.int .i64 0]⟩) (.nd 68 (⟨.ptr,1,[.pointer none]⟩) (.nd 65 (⟨.slice 52 1 4 [.int .u32 0],1,[.slice none 0 0]⟩) (.nd 60 (⟨.slice 94 4 32 [.int .i64 0,.int .i64 0,.int .i64 0,.int .u32 0],1,[.slice none 0 0]⟩) .lf .lf) (.nd 67 (⟨.struct [(0,1),(1,1),(2,1),(3,1),(4,1),(5,1),(6,1),(7,1),(8,1),(9,1),(10,1),(11,1),(12,1),(13,1),(14,1),(15,1),(16,1)],17,[.int .i64 0,.int .i64 0,.string .empty,.string .empty,.string .empty,.string .empty,.string .empty,.int .u64 0,.int .u32 0,.int .i64 0,.int .i64 0,.int .i64 0,.int .i64 0,.slice none 0 0,.slice none 0 0,.slice none 0 0,.slice none 0 0]⟩) .lf .lf)) (.nd 77 (⟨.struct [(0,0),(0,2)],2,[.int .i32 0,.int .u32 0]⟩) (.nd 73 (⟨.struct [(0,0),(0,1)],1,[.int .u32 0]⟩) .lf .lf) (.nd 79 (⟨.struct [(0,0),(0,1),(1,2)],3,[.int .u32 0,.int .i32 0,.int .u32 0]⟩) .lf .lf))) (.nd 94 (⟨.struct [(0,1),(1,1),(2,1),(3,1)],4,[.int .i64 0,.int .i64 0,.int .i64 0,.int .u32 0]⟩) (.nd 88 (⟨.func,1,[.nilFunc]⟩) (.nd 84 (⟨.ptr,1,[.pointer none]⟩) .lf .lf) (.nd 89 (⟨.slice 140 7 72 [.int .i64 0,.int .i64 0,.int .i64 0,.int .u64 0,.int .u64 0,.int .i64 0,.slice none 0 0],1,[.slice none 0 0]⟩) .lf .lf)) (.nd 97 (⟨.array 42 2 1,2,[.slice none 0 0,.slice none 0 0]⟩) (.nd 96 (⟨.ptr,1,[.pointer none]⟩) .lf .lf) .lf))) (.nd 116 (⟨.struct [(0,1),(1,1)],2,[.int .u32 0,.int .i64 0]⟩) (.nd 109 (⟨.struct [(0,1),(1,1),(2,1),(3,1)],4,[.int .u64 0,.int .u64 0,.int .i64 0,.slice none 0 0]⟩) (.nd 104 (⟨.struct [(0,1),(1,1)],2,[.int .i64 0,.int .i64 0]⟩) (.nd 100 (⟨.struct [(0,8),(8,2),(10,1)],11,[.slice none 0 0,.slice none 0 0,.slice none 0 0,.slice none 0 0,.slice none 0 0,.slice none 0 0,.slice none 0 0,.slice none 0 0,.slice none 0 0,.slice none 0 0,.slice none 0 0]⟩) .lf .lf) (.nd 106 (⟨.struct [(0,2),(2,4),(6,1)],7,[.int .i64 0,.int .i64 0,.int .i64 0,.int .i64 0,.int .i64 0,.int .u32 0,.int .i64 0]⟩) .lf .lf)) (.nd 114 (⟨.struct [(0,1),(1,1),(2,1),(3,1),(4,1),(5,1),(6,1)],7,[.int .i64 0,.int .i64 0,.int .i64 0,.int .i64 0,.int .u32 0,.int .u32 0,.slice none 0 0]⟩) (.nd 111 (⟨.func,1,[.nilFunc]⟩) .lf .lf) .lf)) (.nd 129 (⟨.slice 217 1 24 [.slice none 0 0],1,[.slice none 0 0]⟩) (.nd 126 (⟨.ptr,1,[.pointer none]⟩) (.nd 118 (⟨.struct [(0,1),(1,1),(2,1),(3,2)],5,[.int .i64 0,.int .i64 0,.int .i64 0,.int .u32 0,.int .i64 0]⟩) .lf .lf) (.nd 128 (⟨.struct [(0,1),(1,3),(4,1)],5,[.slice none 0 0,.int .u32 0,.int .i32 0,.int .u32 0,.slice none 0 0]⟩) .lf .lf)) (.nd 133 (⟨.struct [(0,0),(0,0),(0,1)],1,[.int .i64 0]⟩) (.nd 130 (⟨.slice 89 1 24 [.slice none 0 0],1,[.slice none 0 0]⟩) .lf .lf) .lf))))) (.nd 252 (⟨.slice 3 1 8 [.int .i64 0],1,[.slice none 0 0]⟩) (.nd 174 (⟨.func,1,[.nilFunc]⟩) (.nd 159 (⟨.func,1,[.nilFunc]⟩) (.nd 151 (⟨.struct [(0,8)],8,[.slice none 0 0,.slice none 0 0,.slice none 0 0,.slice none 0 0,.slice none 0 0,.slice none 0 0,.slice none 0 0,.slice none 0 0]⟩) (.nd 140 (⟨.struct [(0,1),(1,1),(2,1),(3,4)],7,[.int .i64 0,.int .i64 0,.int .i64 0,.int .u64 0,.int .u64 0,.int .i64 0,.slice none 0 0]⟩) (.nd 136 (⟨.struct [(0,8),(8,1),(9,1),(10,1),(11,1),(12,1),(13,64)],77,[.slice none 0 0,.slice none 0 0,.slice none 0 0,.slice none 0 0,.slice none 0 0,.slice none 0 0,.slice none 0 0,.slice none 0 0,.pointer none,.slice none 0 0,.slice none 0 0,.int .i64 0,.int .i64 0,.int .i64 0,.int .i64 0,.int .i64 0,.int .i64 0,.int .i64 0,.int .i64 0,.int .i64 0,.int .i64 0,.int .i64 0,.int .i64 0,.int .i64 0,.int .i64 0,.int .i64 0,.int .i64 0,.int .i64 0,.int .i64 0,.int .i64 0,.int .i64 0,.int .i64 0,.int .i64 0,.int .i64 0,.int .i64 0,.int .i64 0,.int .i64 0,.int .i64 0,.int .i64 0,.int .i64 0,.int .i64 0,.int .i64 0,.int .i64 0,.int .i64 0,.int .i64 0,.int .i64 0,.int .i64 0,.int .i64 0,.int .i64 0,.int .i64 0,.int .i64 0,.int .i64 0,.int .i64 0,.int .i64 0,.int .i64 0,.int .i64 0,.int .i64 0,.int .i64 0,.int .i64 0,.int .i64 0,.int .i64 0,.int .i64 0,.int .i64 0,.int .i64 0,.int .i64 0,.int .i64 0,.int .i64 0,.int .i64 0,.int .i64 0,.int .i64 0,.int .i64 0,.int .i64 0,.int .i64 0,.int .i64 0,.int .i64 0,.int .i64 0,.int .i64 0]⟩) .lf .lf) (.nd 144 (⟨.func,1,[.nilFunc]⟩) .lf .lf)) (.nd 155 (⟨.func,1,[.nilFunc]⟩) (.nd 153 (⟨.func,1,[.nilFunc]⟩) .lf .lf) (.nd 158 (⟨.struct [(0,1),(1,1),(2,1)],3,[.int .i64 0,.int .i64 0,.int .i64 0]⟩) .lf .lf))) (.nd 168 (⟨.func,1,[.nilFunc]⟩) (.nd 163 (⟨.func,1,[.nilFunc]⟩) (.nd 162 (⟨.struct [(0,1),(1,1),(2,1),(3,1)],4,[.int .i64 0,.int .i64 0,.int .i64 0,.int .u64 0]⟩) .lf .lf) (.nd 166 (⟨.struct [(0,1),(1,1),(2,1),(3,1)],4,[.int .i64 0,.int .i64 0,.int .i64 0,.slice none 0 0]⟩) .lf .lf)) (.nd 172 (⟨.func,1,[.nilFunc]⟩) (.nd 171 (⟨.struct [(0,1),(1,1),(2,1),(3,1),(4,1)],5,[.int .i64 0,.int .i64 0,.string .empty,.slice none 0 0,.slice none 0 0]⟩) .lf .lf) .lf))) (.nd 217 (⟨.slice 285 3 24 [.int .u64 0,.int .i64 0,.int .i64 0],1,[.slice none 0 0]⟩) (.nd 188 (⟨.int .u64,1,[.int .u64 0]⟩) (.nd 185 (⟨.struct [(0,1),(1,1),(2,1)],3,[.int .i64 0,.int .i64 0,.int .u32 0]⟩) (.nd 182 (⟨.slice 185 3 24 [.int .i64 0,.int .i64 0,.int .u32 0],1,[.slice none 0 0]⟩) .lf .lf) (.nd 186 (⟨.func,1,[.nilFunc]⟩) .lf .lf)) (.nd 199 (⟨.ptr,1,[.pointer none]⟩) (.nd 191 (⟨.ptr,1,[.pointer none]⟩) .lf .lf) .lf)) (.nd 241 (⟨.func,1,[.nilFunc]⟩) (.nd 224 (⟨.struct [(0,1),(1,1),(2,1),(3,1),(4,4),(8,1)],9,[.int .i64 0,.int .i64 0,.int .i64 0,.slice none 0 0,.int .u64 0,.int .u64 0,.int .i64 0,.slice none 0 0,.int .i64 0]⟩) (.nd 218 (⟨.slice 224 9 104 [.int .i64 0,.int .i64 0,.int .i64 0,.slice none 0 0,.int .u64 0,.int .u64 0,.int .i64 0,.slice none 0 0,.int .i64 0],1,[.slice none 0 0]⟩) .lf .lf) (.nd 233 (⟨.func,1,[.nilFunc]⟩) .lf .lf)) (.nd 248 (⟨.ptr,1,[.pointer none]⟩) (.nd 246 (⟨.ptr,1,[.pointer none]⟩) .lf .lf) .lf)))) (.nd 336 (⟨.slice 338 5 40 [.int .i64 0,.int .i64 0,.int .i64 0,.int .i64 0,.int .i64 0],1,[.slice none 0 0]⟩) (.nd 306 (⟨.func,1,[.nilFunc]⟩) (.nd 287 (⟨.func,1,[.nilFunc]⟩) (.nd 263 (⟨.func,1,[.nilFunc]⟩) (.nd 262 (⟨.struct [(0,8),(8,1),(9,1),(10,1),(11,1)],12,[.slice none 0 0,.slice none 0 0,.slice none 0 0,.slice none 0 0,.slice none 0 0,.slice none 0 0,.slice none 0 0,.slice none 0 0,.slice none 0 0,.slice none 0 0,.slice none 0 0,.slice none 0 0]⟩) .lf .lf) (.nd 285 (⟨.struct [(0,1),(1,1),(2,1)],3,[.int .u64 0,.int .i64 0,.int .i64 0]⟩) .lf .lf)) (.nd 300 (⟨.ptr,1,[.pointer none]⟩) (.nd 295 (⟨.func,1,[.nilFunc]⟩) .lf .lf) (.nd 305 (⟨.struct [(0,8)],8,[.slice none 0 0,.slice none 0 0,.slice none 0 0,.slice none 0 0,.slice none 0 0,.slice none 0 0,.slice none 0 0,.slice none 0 0]⟩) .lf .lf))) (.nd 327 (⟨.ptr,1,[.pointer none]⟩) (.nd 320 (⟨.func,1,[.nilFunc]⟩) (.nd 313 (⟨.array 3 2 1,2,[.int .i64 0,.int .i64 0]⟩) .lf .lf) (.nd 323 (⟨.func,1,[.nilFunc]⟩) .lf .lf)) (.nd 332 (⟨.struct [(0,1),(1,1),(2,1)],3,[.int .i64 0,.int .i64 0,.int .i64 0]⟩) (.nd 329 (⟨.slice 332 3 24 [.int .i64 0,.int .i64 0,.int .i64 0],1,[.slice none 0 0]⟩) .lf .lf) .lf))) (.nd 385 (⟨.func,1,[.nilFunc]⟩) (.nd 355 (⟨.struct [(0,8)],8,[.slice none 0 0,.slice none 0 0,.slice none 0 0,.slice none 0 0,.slice none 0 0,.slice none 0 0,.slice none 0 0,.slice none 0 0]⟩) (.nd 342 (⟨.ptr,1,[.pointer none]⟩) (.nd 338 (⟨.struct [(0,1),(1,1),(2,1),(3,1),(4,1)],5,[.int .i64 0,.int .i64 0,.int .i64 0,.int .i64 0,.int .i64 0]⟩) .lf .lf) (.nd 347 (⟨.struct [(0,8),(8,1),(9,1),(10,1),(11,1)],12,[.slice none 0 0,.slice none 0 0,.slice none 0 0,.slice none 0 0,.slice none 0 0,.slice none 0 0,.slice none 0 0,.slice none 0 0,.slice none 0 0,.int .i64 0,.int .i64 0,.slice none 0 0]⟩) .lf .lf)) (.nd 361 (⟨.ptr,1,[.pointer none]⟩) (.nd 359 (⟨.ptr,1,[.pointer none]⟩) .lf .lf) .lf)) (.nd 413 (⟨.struct [(0,7),(7,1)],8,[.int .i64 0,.int .i64 0,.int .i64 0,.int .i64 0,.int .u32 0,.int .u32 0,.slice none 0 0,.int .i64 0]⟩) (.nd 393 (⟨.iface,1,[.nilIface]⟩) (.nd 388 (⟨.func,1,[.nilFunc]⟩) .lf .lf) (.nd 411 (⟨.ptr,1,[.pointer none]⟩) .lf .lf)) (.nd 429 (⟨.array 3 4 1,4,[.int .i64 0,.int .i64 0,.int .i64 0,.int .i64 0]⟩) (.nd 415 (⟨.struct [(0,8),(8,1)],9,[.int .i64 0,.int .i64 0,.int .i64 0,.int .i64 0,.int .u32 0,.int .u32 0,.slice none 0 0,.int .i64 0,.int .i64 0]⟩) .lf .lf) .lf))))))
def etab:Tr (List EK):=(.nd 162 ([.int .i64,.int .i64,.int .i64,.int .u64]) (.nd 104 ([.int .i64,.int .i64]) (.nd 94 ([.int .i64,.int .i64,.int .i64,.int .u32]) (.nd 54 ([.int .i64,.int .i64,.string,.int .u64,.int .u32]) .lf .lf) .lf) (.nd 158 ([.int .i64,.int .i64,.int .i64]) (.nd 116 ([.int .u32,.int .i64]) .lf .lf) .lf)) (.nd 332 ([.int .i64,.int .i64,.int .i64]) (.nd 285 ([.int .u64,.int .i64,.int .i64]) (.nd 185 ([.int .i64,.int .i64,.int .u32]) .lf .lf) .lf) (.nd 338 ([.int .i64,.int .i64,.int .i64,.int .i64,.int .i64]) .lf .lf)))
theorem tab_ok:tab.all (λ t i=>Ba Tryz.prog t=some i):=⟨ty134,⟨ty59,⟨ty31,⟨ty22,⟨ty4,⟨ty2,⟨ty1,trivial,trivial⟩,⟨ty3,trivial,trivial⟩⟩,⟨ty9,⟨ty5,trivial,trivial⟩,⟨ty20,trivial,trivial⟩⟩⟩,⟨ty28,⟨ty26,⟨ty25,trivial,trivial⟩,⟨ty27,trivial,trivial⟩⟩,⟨ty30,⟨ty29,trivial,trivial⟩,trivial⟩⟩⟩,⟨ty45,⟨ty38,⟨ty34,⟨ty32,trivial,trivial⟩,⟨ty35,trivial,trivial⟩⟩,⟨ty42,⟨ty41,trivial,trivial⟩,⟨ty44,trivial,trivial⟩⟩⟩,⟨ty54,⟨ty51,⟨ty49,trivial,trivial⟩,⟨ty52,trivial,trivial⟩⟩,⟨ty57,⟨ty55,trivial,trivial⟩,trivial⟩⟩⟩⟩,⟨ty98,⟨ty81,⟨ty68,⟨ty65,⟨ty60,trivial,trivial⟩,⟨ty67,trivial,trivial⟩⟩,⟨ty77,⟨ty73,trivial,trivial⟩,⟨ty79,trivial,trivial⟩⟩⟩,⟨ty94,⟨ty88,⟨ty84,trivial,trivial⟩,⟨ty89,trivial,trivial⟩⟩,⟨ty97,⟨ty96,trivial,trivial⟩,trivial⟩⟩⟩,⟨ty116,⟨ty109,⟨ty104,⟨ty100,trivial,trivial⟩,⟨ty106,trivial,trivial⟩⟩,⟨ty114,⟨ty111,trivial,trivial⟩,trivial⟩⟩,⟨ty129,⟨ty126,⟨ty118,trivial,trivial⟩,⟨ty128,trivial,trivial⟩⟩,⟨ty133,⟨ty130,trivial,trivial⟩,trivial⟩⟩⟩⟩⟩,⟨ty252,⟨ty174,⟨ty159,⟨ty151,⟨ty140,⟨ty136,trivial,trivial⟩,⟨ty144,trivial,trivial⟩⟩,⟨ty155,⟨ty153,trivial,trivial⟩,⟨ty158,trivial,trivial⟩⟩⟩,⟨ty168,⟨ty163,⟨ty162,trivial,trivial⟩,⟨ty166,trivial,trivial⟩⟩,⟨ty172,⟨ty171,trivial,trivial⟩,trivial⟩⟩⟩,⟨ty217,⟨ty188,⟨ty185,⟨ty182,trivial,trivial⟩,⟨ty186,trivial,trivial⟩⟩,⟨ty199,⟨ty191,trivial,trivial⟩,trivial⟩⟩,⟨ty241,⟨ty224,⟨ty218,trivial,trivial⟩,⟨ty233,trivial,trivial⟩⟩,⟨ty248,⟨ty246,trivial,trivial⟩,trivial⟩⟩⟩⟩,⟨ty336,⟨ty306,⟨ty287,⟨ty263,⟨ty262,trivial,trivial⟩,⟨ty285,trivial,trivial⟩⟩,⟨ty300,⟨ty295,trivial,trivial⟩,⟨ty305,trivial,trivial⟩⟩⟩,⟨ty327,⟨ty320,⟨ty313,trivial,trivial⟩,⟨ty323,trivial,trivial⟩⟩,⟨ty332,⟨ty329,trivial,trivial⟩,trivial⟩⟩⟩,⟨ty385,⟨ty355,⟨ty342,⟨ty338,trivial,trivial⟩,⟨ty347,trivial,trivial⟩⟩,⟨ty361,⟨ty359,trivial,trivial⟩,trivial⟩⟩,⟨ty413,⟨ty393,⟨ty388,trivial,trivial⟩,⟨ty411,trivial,trivial⟩⟩,⟨ty429,⟨ty415,trivial,trivial⟩,trivial⟩⟩⟩⟩⟩⟩
theorem A0x:etab.all (λ t i=>Oh Tryz.prog t=some i):=⟨tq162,⟨tq104,⟨tq94,⟨tq54,trivial,trivial⟩,trivial⟩,⟨tq158,⟨tq116,trivial,trivial⟩,trivial⟩⟩,⟨tq332,⟨tq285,⟨tq185,trivial,trivial⟩,trivial⟩,⟨tq338,trivial,trivial⟩⟩⟩
def Γ:TyE Tryz.prog:=⟨⟨λ t=>tab.look t,λ _ _ h=>Azo (Tr.look_ok tab_ok h)⟩,λ t=>etab.look t,λ _ _ h=>Ayh (Tr.look_ok A0x h)⟩
theorem hm:Tryz.prog.follows .mixedOrders=true:=by kernel_rfl
abbrev Sq:=Sy.Spec Tryz.prog
abbrev Sp (f:FuncId) (A:List SV) (R:SV):Prop:=Sy.Spec Tryz.prog f A [] R []
abbrev fT (i:Nat) (fn:Func):Prop:=Fun Tryz.prog i fn (Ap4 fn)
theorem fN {P : Program} {f : FuncId} {fn : Func} (h : P.funcs[f]? = some fn) (hb : fn.body = some (Ap4 fn) := by exact rfl) (hn : (fn.name == "runtime.NumGoroutine") = false := by kernel_rfl) : Fun P f fn (Ap4 fn) := ⟨h, hb, hn⟩
theorem cT {f:FuncId} {fn:Func} {c:Code} {A:List SV} {H:Obs} {R:SV} {H':Obs} (hF:Fun Tryz.prog f fn c) {n:Nat} (hn':fn.ntmps=n)
  (h:∀ (F:Fr) (hF:∀ k,F.k0 k≠.new→k∈H.keys),Mv ⟨Tryz.prog,Γ.toTy,F,n,Aay Tryz.prog fn F R H',H.keys,hF⟩ Γ 100 [.code c] ⟨argσ A,mkh H⟩) (hn:Arb A n=true:=by exact rfl):Sy.Spec Tryz.prog f A H R H':=Xq Γ hm 100 hF hn' hn h
theorem F3:fT 3 Tryz.f3:=fN Tryz.func3
theorem F4:fT 4 Tryz.f4:=fN Tryz.func4
theorem F5:fT 5 Tryz.f5:=fN Tryz.func5
theorem F6:fT 6 Tryz.f6:=fN Tryz.func6
theorem F7:fT 7 Tryz.f7:=fN Tryz.func7
theorem F8:fT 8 Tryz.f8:=fN Tryz.func8
theorem F9:fT 9 Tryz.f9:=fN Tryz.func9
theorem F10:fT 10 Tryz.f10:=fN Tryz.func10
theorem F11:fT 11 Tryz.f11:=fN Tryz.func11
theorem F12:fT 12 Tryz.f12:=fN Tryz.func12
theorem F13:fT 13 Tryz.f13:=fN Tryz.func13
theorem F14:fT 14 Tryz.f14:=fN Tryz.func14
theorem F15:fT 15 Tryz.f15:=fN Tryz.func15
theorem F16:fT 16 Tryz.f16:=fN Tryz.func16
theorem F17:fT 17 Tryz.f17:=fN Tryz.func17
theorem F18:fT 18 Tryz.f18:=fN Tryz.func18
theorem F19:fT 19 Tryz.f19:=fN Tryz.func19
theorem F20:fT 20 Tryz.f20:=fN Tryz.func20
theorem F21:fT 21 Tryz.f21:=fN Tryz.func21
theorem F22:fT 22 Tryz.f22:=fN Tryz.func22
theorem F23:fT 23 Tryz.f23:=fN Tryz.func23
theorem F24:fT 24 Tryz.f24:=fN Tryz.func24
theorem F25:fT 25 Tryz.f25:=fN Tryz.func25
theorem F26:fT 26 Tryz.f26:=fN Tryz.func26
theorem F27:fT 27 Tryz.f27:=fN Tryz.func27
theorem F28:fT 28 Tryz.f28:=fN Tryz.func28
theorem F29:fT 29 Tryz.f29:=fN Tryz.func29
theorem F30:fT 30 Tryz.f30:=fN Tryz.func30
theorem F31:fT 31 Tryz.f31:=fN Tryz.func31
theorem F32:fT 32 Tryz.f32:=fN Tryz.func32
theorem F33:fT 33 Tryz.f33:=fN Tryz.func33
theorem F34:fT 34 Tryz.f34:=fN Tryz.func34
theorem F35:fT 35 Tryz.f35:=fN Tryz.func35
theorem F36:fT 36 Tryz.f36:=fN Tryz.func36
theorem F37:fT 37 Tryz.f37:=fN Tryz.func37
theorem F38:fT 38 Tryz.f38:=fN Tryz.func38
theorem F39:fT 39 Tryz.f39:=fN Tryz.func39
theorem F40:fT 40 Tryz.f40:=fN Tryz.func40
theorem F41:fT 41 Tryz.f41:=fN Tryz.func41
theorem F42:fT 42 Tryz.f42:=fN Tryz.func42
theorem F43:fT 43 Tryz.f43:=fN Tryz.func43
theorem F44:fT 44 Tryz.f44:=fN Tryz.func44
theorem F45:fT 45 Tryz.f45:=fN Tryz.func45
theorem F46:fT 46 Tryz.f46:=fN Tryz.func46
theorem F47:fT 47 Tryz.f47:=fN Tryz.func47
theorem F48:fT 48 Tryz.f48:=fN Tryz.func48
theorem F49:fT 49 Tryz.f49:=fN Tryz.func49
theorem F50:fT 50 Tryz.f50:=fN Tryz.func50
theorem F51:fT 51 Tryz.f51:=fN Tryz.func51
theorem F52:fT 52 Tryz.f52:=fN Tryz.func52
theorem F53:fT 53 Tryz.f53:=fN Tryz.func53
theorem F54:fT 54 Tryz.f54:=fN Tryz.func54
theorem F55:fT 55 Tryz.f55:=fN Tryz.func55
theorem F56:fT 56 Tryz.f56:=fN Tryz.func56
theorem F57:fT 57 Tryz.f57:=fN Tryz.func57
theorem F58:fT 58 Tryz.f58:=fN Tryz.func58
theorem F59:fT 59 Tryz.f59:=fN Tryz.func59
theorem F60:fT 60 Tryz.f60:=fN Tryz.func60
theorem F61:fT 61 Tryz.f61:=fN Tryz.func61
theorem F62:fT 62 Tryz.f62:=fN Tryz.func62
theorem F63:fT 63 Tryz.f63:=fN Tryz.func63
theorem F64:fT 64 Tryz.f64:=fN Tryz.func64
theorem F65:fT 65 Tryz.f65:=fN Tryz.func65
theorem F66:fT 66 Tryz.f66:=fN Tryz.func66
theorem F67:fT 67 Tryz.f67:=fN Tryz.func67
theorem F68:fT 68 Tryz.f68:=fN Tryz.func68
theorem F69:fT 69 Tryz.f69:=fN Tryz.func69
theorem F70:fT 70 Tryz.f70:=fN Tryz.func70
theorem F71:fT 71 Tryz.f71:=fN Tryz.func71
theorem F72:fT 72 Tryz.f72:=fN Tryz.func72
theorem F73:fT 73 Tryz.f73:=fN Tryz.func73
theorem F74:fT 74 Tryz.f74:=fN Tryz.func74
theorem F75:fT 75 Tryz.f75:=fN Tryz.func75
theorem F76:fT 76 Tryz.f76:=fN Tryz.func76
theorem F77:fT 77 Tryz.f77:=fN Tryz.func77
theorem F78:fT 78 Tryz.f78:=fN Tryz.func78
theorem F79:fT 79 Tryz.f79:=fN Tryz.func79
theorem F80:fT 80 Tryz.f80:=fN Tryz.func80
theorem F81:fT 81 Tryz.f81:=fN Tryz.func81
theorem F82:fT 82 Tryz.f82:=fN Tryz.func82
theorem F83:fT 83 Tryz.f83:=fN Tryz.func83
theorem F84:fT 84 Tryz.f84:=fN Tryz.func84
theorem F85:fT 85 Tryz.f85:=fN Tryz.func85
theorem F86:fT 86 Tryz.f86:=fN Tryz.func86
theorem F87:fT 87 Tryz.f87:=fN Tryz.func87
theorem F88:fT 88 Tryz.f88:=fN Tryz.func88
theorem F89:fT 89 Tryz.f89:=fN Tryz.func89
theorem F90:fT 90 Tryz.f90:=fN Tryz.func90
theorem F91:fT 91 Tryz.f91:=fN Tryz.func91
theorem F92:fT 92 Tryz.f92:=fN Tryz.func92
theorem F93:fT 93 Tryz.f93:=fN Tryz.func93
theorem F94:fT 94 Tryz.f94:=fN Tryz.func94
theorem F95:fT 95 Tryz.f95:=fN Tryz.func95
theorem F96:fT 96 Tryz.f96:=fN Tryz.func96
theorem F97:fT 97 Tryz.f97:=fN Tryz.func97
theorem F98:fT 98 Tryz.f98:=fN Tryz.func98
theorem F99:fT 99 Tryz.f99:=fN Tryz.func99
theorem F100:fT 100 Tryz.f100:=fN Tryz.func100
theorem F101:fT 101 Tryz.f101:=fN Tryz.func101
theorem F102:fT 102 Tryz.f102:=fN Tryz.func102
theorem F103:fT 103 Tryz.f103:=fN Tryz.func103
theorem F104:fT 104 Tryz.f104:=fN Tryz.func104
theorem F105:fT 105 Tryz.f105:=fN Tryz.func105
theorem F106:fT 106 Tryz.f106:=fN Tryz.func106
theorem F107:fT 107 Tryz.f107:=fN Tryz.func107
theorem F108:fT 108 Tryz.f108:=fN Tryz.func108
theorem F109:fT 109 Tryz.f109:=fN Tryz.func109
theorem F110:fT 110 Tryz.f110:=fN Tryz.func110
theorem F111:fT 111 Tryz.f111:=fN Tryz.func111
theorem F112:fT 112 Tryz.f112:=fN Tryz.func112
theorem F113:fT 113 Tryz.f113:=fN Tryz.func113
theorem F114:fT 114 Tryz.f114:=fN Tryz.func114
theorem F115:fT 115 Tryz.f115:=fN Tryz.func115
theorem F116:fT 116 Tryz.f116:=fN Tryz.func116
theorem F117:fT 117 Tryz.f117:=fN Tryz.func117
theorem F118:fT 118 Tryz.f118:=fN Tryz.func118
theorem F123:fT 123 Tryz.f123:=fN Tryz.func123
theorem F124:fT 124 Tryz.f124:=fN Tryz.func124
theorem F125:fT 125 Tryz.f125:=fN Tryz.func125
theorem F126:fT 126 Tryz.f126:=fN Tryz.func126
theorem F127:fT 127 Tryz.f127:=fN Tryz.func127
theorem F128:fT 128 Tryz.f128:=fN Tryz.func128
theorem F129:fT 129 Tryz.f129:=fN Tryz.func129
theorem F130:fT 130 Tryz.f130:=fN Tryz.func130
theorem F131:fT 131 Tryz.f131:=fN Tryz.func131
theorem F132:fT 132 Tryz.f132:=fN Tryz.func132
theorem F133:fT 133 Tryz.f133:=fN Tryz.func133
theorem F134:fT 134 Tryz.f134:=fN Tryz.func134
theorem F135:fT 135 Tryz.f135:=fN Tryz.func135
theorem F136:fT 136 Tryz.f136:=fN Tryz.func136
theorem F137:fT 137 Tryz.f137:=fN Tryz.func137
theorem F138:fT 138 Tryz.f138:=fN Tryz.func138
theorem F139:fT 139 Tryz.f139:=fN Tryz.func139
theorem F141:fT 141 Tryz.f141:=fN Tryz.func141
theorem F142:fT 142 Tryz.f142:=fN Tryz.func142
theorem F143:fT 143 Tryz.f143:=fN Tryz.func143
theorem F144:fT 144 Tryz.f144:=fN Tryz.func144
theorem F145:fT 145 Tryz.f145:=fN Tryz.func145
theorem F146:fT 146 Tryz.f146:=fN Tryz.func146
theorem F147:fT 147 Tryz.f147:=fN Tryz.func147
theorem F148:fT 148 Tryz.f148:=fN Tryz.func148
theorem F149:fT 149 Tryz.f149:=fN Tryz.func149
theorem F150:fT 150 Tryz.f150:=fN Tryz.func150
theorem F151:fT 151 Tryz.f151:=fN Tryz.func151
theorem F152:fT 152 Tryz.f152:=fN Tryz.func152
theorem F153:fT 153 Tryz.f153:=fN Tryz.func153
theorem F154:fT 154 Tryz.f154:=fN Tryz.func154
theorem F155:fT 155 Tryz.f155:=fN Tryz.func155
theorem F156:fT 156 Tryz.f156:=fN Tryz.func156
theorem F157:fT 157 Tryz.f157:=fN Tryz.func157
theorem F158:fT 158 Tryz.f158:=fN Tryz.func158
theorem F159:fT 159 Tryz.f159:=fN Tryz.func159
theorem F160:fT 160 Tryz.f160:=fN Tryz.func160
theorem F161:fT 161 Tryz.f161:=fN Tryz.func161
theorem F162:fT 162 Tryz.f162:=fN Tryz.func162
theorem F163:fT 163 Tryz.f163:=fN Tryz.func163
theorem F164:fT 164 Tryz.f164:=fN Tryz.func164
theorem F165:fT 165 Tryz.f165:=fN Tryz.func165
theorem F166:fT 166 Tryz.f166:=fN Tryz.func166
theorem F167:fT 167 Tryz.f167:=fN Tryz.func167
theorem F168:fT 168 Tryz.f168:=fN Tryz.func168
theorem F169:fT 169 Tryz.f169:=fN Tryz.func169
theorem F170:fT 170 Tryz.f170:=fN Tryz.func170
theorem F171:fT 171 Tryz.f171:=fN Tryz.func171
theorem F172:fT 172 Tryz.f172:=fN Tryz.func172
theorem F173:fT 173 Tryz.f173:=fN Tryz.func173
theorem F174:fT 174 Tryz.f174:=fN Tryz.func174
theorem F175:fT 175 Tryz.f175:=fN Tryz.func175
theorem F176:fT 176 Tryz.f176:=fN Tryz.func176
theorem F177:fT 177 Tryz.f177:=fN Tryz.func177
theorem F178:fT 178 Tryz.f178:=fN Tryz.func178
theorem F179:fT 179 Tryz.f179:=fN Tryz.func179
theorem F180:fT 180 Tryz.f180:=fN Tryz.func180
theorem F185:fT 185 Tryz.f185:=fN Tryz.func185
theorem F186:fT 186 Tryz.f186:=fN Tryz.func186
theorem F187:fT 187 Tryz.f187:=fN Tryz.func187
theorem F188:fT 188 Tryz.f188:=fN Tryz.func188
theorem F189:fT 189 Tryz.f189:=fN Tryz.func189
theorem F190:fT 190 Tryz.f190:=fN Tryz.func190
theorem F191:fT 191 Tryz.f191:=fN Tryz.func191
theorem F192:fT 192 Tryz.f192:=fN Tryz.func192
theorem F193:fT 193 Tryz.f193:=fN Tryz.func193
theorem F194:fT 194 Tryz.f194:=fN Tryz.func194
theorem F195:fT 195 Tryz.f195:=fN Tryz.func195
theorem F196:fT 196 Tryz.f196:=fN Tryz.func196
theorem F197:fT 197 Tryz.f197:=fN Tryz.func197
theorem F198:fT 198 Tryz.f198:=fN Tryz.func198
theorem F199:fT 199 Tryz.f199:=fN Tryz.func199
theorem F200:fT 200 Tryz.f200:=fN Tryz.func200
theorem F201:fT 201 Tryz.f201:=fN Tryz.func201
theorem F202:fT 202 Tryz.f202:=fN Tryz.func202
theorem F203:fT 203 Tryz.f203:=fN Tryz.func203
theorem F204:fT 204 Tryz.f204:=fN Tryz.func204
theorem F205:fT 205 Tryz.f205:=fN Tryz.func205
theorem F206:fT 206 Tryz.f206:=fN Tryz.func206
theorem F207:fT 207 Tryz.f207:=fN Tryz.func207
theorem F208:fT 208 Tryz.f208:=fN Tryz.func208
theorem F209:fT 209 Tryz.f209:=fN Tryz.func209
theorem F210:fT 210 Tryz.f210:=fN Tryz.func210
theorem F211:fT 211 Tryz.f211:=fN Tryz.func211
theorem F212:fT 212 Tryz.f212:=fN Tryz.func212
theorem F213:fT 213 Tryz.f213:=fN Tryz.func213
theorem F214:fT 214 Tryz.f214:=fN Tryz.func214
theorem F215:fT 215 Tryz.f215:=fN Tryz.func215
theorem F216:fT 216 Tryz.f216:=fN Tryz.func216
theorem F217:fT 217 Tryz.f217:=fN Tryz.func217
theorem F218:fT 218 Tryz.f218:=fN Tryz.func218
theorem F219:fT 219 Tryz.f219:=fN Tryz.func219
theorem F220:fT 220 Tryz.f220:=fN Tryz.func220
theorem F221:fT 221 Tryz.f221:=fN Tryz.func221
theorem F222:fT 222 Tryz.f222:=fN Tryz.func222
theorem F223:fT 223 Tryz.f223:=fN Tryz.func223
theorem F224:fT 224 Tryz.f224:=fN Tryz.func224
theorem F225:fT 225 Tryz.f225:=fN Tryz.func225
theorem F226:fT 226 Tryz.f226:=fN Tryz.func226
theorem F227:fT 227 Tryz.f227:=fN Tryz.func227
theorem F228:fT 228 Tryz.f228:=fN Tryz.func228
theorem F229:fT 229 Tryz.f229:=fN Tryz.func229
theorem F230:fT 230 Tryz.f230:=fN Tryz.func230
theorem F231:fT 231 Tryz.f231:=fN Tryz.func231
theorem F232:fT 232 Tryz.f232:=fN Tryz.func232
theorem F234:fT 234 Tryz.f234:=fN Tryz.func234
theorem F235:fT 235 Tryz.f235:=fN Tryz.func235
theorem F236:fT 236 Tryz.f236:=fN Tryz.func236
theorem F237:fT 237 Tryz.f237:=fN Tryz.func237
theorem F238:fT 238 Tryz.f238:=fN Tryz.func238
theorem F239:fT 239 Tryz.f239:=fN Tryz.func239
theorem F240:fT 240 Tryz.f240:=fN Tryz.func240
theorem F241:fT 241 Tryz.f241:=fN Tryz.func241
theorem F242:fT 242 Tryz.f242:=fN Tryz.func242
theorem F251:fT 251 Tryz.f251:=fN Tryz.func251
theorem F252:fT 252 Tryz.f252:=fN Tryz.func252
theorem F253:fT 253 Tryz.f253:=fN Tryz.func253
theorem F254:fT 254 Tryz.f254:=fN Tryz.func254
theorem F255:fT 255 Tryz.f255:=fN Tryz.func255
theorem F256:fT 256 Tryz.f256:=fN Tryz.func256
theorem F257:fT 257 Tryz.f257:=fN Tryz.func257
theorem F258:fT 258 Tryz.f258:=fN Tryz.func258
theorem F259:fT 259 Tryz.f259:=fN Tryz.func259
theorem F260:fT 260 Tryz.f260:=fN Tryz.func260
theorem F261:fT 261 Tryz.f261:=fN Tryz.func261
theorem F262:fT 262 Tryz.f262:=fN Tryz.func262
theorem F263:fT 263 Tryz.f263:=fN Tryz.func263
theorem F264:fT 264 Tryz.f264:=fN Tryz.func264
theorem F265:fT 265 Tryz.f265:=fN Tryz.func265
theorem F266:fT 266 Tryz.f266:=fN Tryz.func266
theorem F267:fT 267 Tryz.f267:=fN Tryz.func267
theorem F268:fT 268 Tryz.f268:=fN Tryz.func268
theorem F269:fT 269 Tryz.f269:=fN Tryz.func269
theorem F270:fT 270 Tryz.f270:=fN Tryz.func270
theorem F271:fT 271 Tryz.f271:=fN Tryz.func271
theorem F272:fT 272 Tryz.f272:=fN Tryz.func272
theorem F273:fT 273 Tryz.f273:=fN Tryz.func273
theorem F274:fT 274 Tryz.f274:=fN Tryz.func274
theorem F275:fT 275 Tryz.f275:=fN Tryz.func275
theorem F276:fT 276 Tryz.f276:=fN Tryz.func276
theorem F277:fT 277 Tryz.f277:=fN Tryz.func277
theorem F278:fT 278 Tryz.f278:=fN Tryz.func278
theorem F279:fT 279 Tryz.f279:=fN Tryz.func279
theorem F280:fT 280 Tryz.f280:=fN Tryz.func280
theorem F281:fT 281 Tryz.f281:=fN Tryz.func281
theorem F282:fT 282 Tryz.f282:=fN Tryz.func282
theorem F283:fT 283 Tryz.f283:=fN Tryz.func283
theorem F284:fT 284 Tryz.f284:=fN Tryz.func284
theorem F285:fT 285 Tryz.f285:=fN Tryz.func285
theorem F286:fT 286 Tryz.f286:=fN Tryz.func286
theorem F287:fT 287 Tryz.f287:=fN Tryz.func287
theorem F288:fT 288 Tryz.f288:=fN Tryz.func288
theorem F289:fT 289 Tryz.f289:=fN Tryz.func289
theorem F290:fT 290 Tryz.f290:=fN Tryz.func290
theorem F291:fT 291 Tryz.f291:=fN Tryz.func291
theorem F292:fT 292 Tryz.f292:=fN Tryz.func292
theorem F293:fT 293 Tryz.f293:=fN Tryz.func293
theorem F294:fT 294 Tryz.f294:=fN Tryz.func294
theorem F295:fT 295 Tryz.f295:=fN Tryz.func295
theorem F296:fT 296 Tryz.f296:=fN Tryz.func296
theorem F297:fT 297 Tryz.f297:=fN Tryz.func297
theorem F305:fT 305 Tryz.f305:=fN Tryz.func305
theorem F306:fT 306 Tryz.f306:=fN Tryz.func306
theorem F307:fT 307 Tryz.f307:=fN Tryz.func307
theorem F308:fT 308 Tryz.f308:=fN Tryz.func308
theorem F309:fT 309 Tryz.f309:=fN Tryz.func309
theorem F310:fT 310 Tryz.f310:=fN Tryz.func310
theorem F311:fT 311 Tryz.f311:=fN Tryz.func311
theorem F312:fT 312 Tryz.f312:=fN Tryz.func312
theorem F313:fT 313 Tryz.f313:=fN Tryz.func313
theorem F314:fT 314 Tryz.f314:=fN Tryz.func314
theorem F316:fT 316 Tryz.f316:=fN Tryz.func316
theorem F317:fT 317 Tryz.f317:=fN Tryz.func317
theorem F318:fT 318 Tryz.f318:=fN Tryz.func318
theorem F319:fT 319 Tryz.f319:=fN Tryz.func319
theorem F320:fT 320 Tryz.f320:=fN Tryz.func320
theorem F322:fT 322 Tryz.f322:=fN Tryz.func322
theorem F323:fT 323 Tryz.f323:=fN Tryz.func323
theorem F344:fT 344 Tryz.f344:=fN Tryz.func344
theorem F345:fT 345 Tryz.f345:=fN Tryz.func345
theorem F346:fT 346 Tryz.f346:=fN Tryz.func346
theorem F347:fT 347 Tryz.f347:=fN Tryz.func347
theorem rg {F:Fr} {n:Nat} {B:Exit→Act→World→Prop} {bn:List Nat} {hbn:∀ k,F.k0 k≠.new→k∈bn} {k:List KI} {s:SS} (h:Mv ⟨Tryz.prog,Γ.toTy,F,n,B,bn,hbn⟩ Γ 400 k s):G ⟨Tryz.prog,Γ.toTy,F,n,B,bn,hbn⟩ k s:=rG Γ hm h
theorem rd {F:Fr} {n:Nat} {B:Exit→Act→World→Prop} {bn:List Nat} {hbn:∀ k,F.k0 k≠.new→k∈bn} {k:List KI} {s:SS} {all:Array Oper} {done:List Stp} {rest:List Oper} (hs:all.toList=done.map (·.o)++rest) (h:Xk ⟨Tryz.prog,Γ.toTy,F,n,B,bn,hbn⟩ Γ 400 k all done rest s):DR ⟨Tryz.prog,Γ.toTy,F,n,B,bn,hbn⟩ k all done rest s:=rD Γ hm hs h
structure Bq (Q:Prop):Prop where out:Q
theorem oO {P Q:Prop} (h:Q) (e:Bq Q→P:=by intro hb;refine rg ?_;(conv=>whnf);exact hb.out):P:=e ⟨h⟩
theorem oF {P Q:Prop} (h:Q) (e:Bq Q→P:=by intro hb;refine rg ?_;(conv=>whnf);refine aF ?_;refine rg ?_;(conv=>whnf);exact hb.out):P:=e ⟨h⟩
theorem oT {P Q:Prop} (h:Q) (e:Bq Q→P:=by intro hb;refine rg ?_;(conv=>whnf);refine aT ?_;refine rg ?_;(conv=>whnf);exact hb.out):P:=e ⟨h⟩
theorem bF {P Q:Prop} (h:Q) (e:Bq Q→P:=by intro hb;refine aF ?_;refine rg ?_;(conv=>whnf);exact hb.out):P:=e ⟨h⟩
theorem bT {P Q:Prop} (h:Q) (e:Bq Q→P:=by intro hb;refine aT ?_;refine rg ?_;(conv=>whnf);exact hb.out):P:=e ⟨h⟩
theorem oD {P Q:Prop} (h:Q) (e:Bq Q→P:=by intro hb;refine rd z_ ?_;(conv=>whnf);exact hb.out):P:=e ⟨h⟩
theorem dN {P:Prop} (h:P:=by
 apply Ap
 ·exact E
 ·(repeat (first | exact ResVs.nil | (apply ResVs.cons;(first | exact .tmp | exact .cell rfl rfl rfl rfl))))
 ·exact E
 ·exact E):P:=h
theorem iL {a:Int} {K:Prop} (h:K) (e:I64 a:=by unfold I64;omega):I64 a∧K:=⟨e,h⟩
theorem iW {a:Int} {K Q:Prop} (h:Q) (e:I64 a:=by unfold I64;omega) (e2:Bq Q→K:=by intro hb;(conv=>whnf);exact hb.out):I64 a∧K:=⟨e,e2 ⟨h⟩⟩
theorem kW {α:Sort _} {a b:α} {K Q:Prop} (h:Q) (e:a=b:=by kernel_rfl) (e2:Bq Q→K:=by intro hb;(conv=>whnf);exact hb.out):a=b∧K:=⟨e,e2 ⟨h⟩⟩
theorem c0 {C:Cx} {k:List KI} {s:SS} {all:Array Oper} {o:Oper} {rest:List Oper} {f:FuncId} {fn:Func} {c:Code} {xs:List Operand} {ts:Array TypeId} {A:List SV} {R:SV} (hs:Sy.Spec C.P f A [] R []) (hf:Fun C.P f fn c) (hg:G C (.ops all rest::k) (s.upd o.dst ⟨R,[],[]⟩)) (h:o.op=.call ⟨.value (.func f),xs.toArray,ts⟩:=by exact rfl)
  (hA:A=xs.map (ev s):=by exact rfl) (hok:(B7 [] A && R.inn [])=true:=by exact rfl) (hd:S9 C.n o=true:=by exact rfl) (hw:Ej C.n all o s=some true:=by exact rfl):G C (.ops all (o::rest)::k) s:=Mi hs hf h hA hok hd hw hg
theorem cD {C:Cx} {k:List KI} {s:SS} {all:Array Oper} {done:List Stp} {o:Oper} {rest:List Oper} {f:FuncId} {fn:Func} {c:Code} {xs:List Operand} {ts:Array TypeId} {A:List SV} {R:SV} (hs:Sy.Spec C.P f A [] R []) (hf:Fun C.P f fn c) (hg:DR C k all (done++[⟨done.length,o,⟨R,[],[]⟩,true⟩]) rest (s.upd o.dst ⟨R,[],[]⟩)) (h:o.op=.call ⟨.value (.func f),xs.toArray,ts⟩:=by exact rfl)
  (hA:A=xs.map (ev s):=by exact rfl) (hok:(B7 [] A && R.inn [])=true:=by exact rfl) (hi:all[done.length]? = some o:=by kernel_rfl) (hw:Ej C.n all o s=some true:=by exact rfl):DR C k all done (o::rest) s:=Ayv hs hf h hA hok hi hw hg
theorem fU {P Q:Prop} (h:Q) (e:Bq Q→P:=by intro hb;((first|refine rG Γ hm ?_|refine rD Γ hm z_ ?_);(conv=>whnf);repeat((first|refine aF ?_|refine aT ?_);(first|refine rG Γ hm ?_|refine rD Γ hm z_ ?_);conv=>whnf));exact hb.out):P:=e ⟨h⟩
theorem fW {P Q:Prop} (h:Q) (e:Bq Q→P:=by intro hb;((conv=>whnf);repeat((first|refine aF ?_|refine aT ?_);(first|refine rG Γ hm ?_|refine rD Γ hm z_ ?_);conv=>whnf));exact hb.out):P:=e ⟨h⟩
theorem vL {s:SS} {V:List Nat} {l m:List SV} (h:VwL s V l m:=by repeat (first | exact VwL.nil | refine VwL.cons (Vw.refl _) ?_ | refine VwL.cons Vw.nil ?_)):VwL s V l m:=h
theorem qA {p q:Prop} [Decidable p] (h:decide p=true) (e:p→q:=by intro _h;omega):q:=e (zK h)
theorem qB {p q:Prop} [Decidable p] (h:decide p=false) (e:¬ p→q:=by intro _h;omega):q:=e (zN h)
end Go.Sy.YtljngfegfclkpaaGreat
namespace Go.Sy.YtljngfegfclkpaaGreat
open Go.Proofs
structure Device where
 (row prio:Int) (name:ByteArray) (mac vtep:Int)
structure Port where
 (row dev native cost link:Int) (name:ByteArray) (tagged:List Int)
structure Link where
 (row a b:Int)
structure Domain where
 (dev vlan vni irb row:Int) (peers:List Int)
structure Static where
 (row domain port mac:Int)
structure Flood where
 (row dev vni:Int) (addrs:List Int)
structure Vrf where
 (row dev:Int) (name:ByteArray) (imports exports:List Int)
structure Irb where
 (row domain vrf addr bits:Int)
structure Net where
 (devices:List Device) (ports:List Port) (links:List Link) (domains:List Domain) (statics:List Static) (floods:List Flood) (vrfs:List Vrf) (irbs:List Irb)
def Aq (d:Device):SV:=.agg [Aa d.row,Aa d.prio,Dz d.name,Bb d.mac,A8 d.vtep]
def Aw (p:Port):SV:=.agg [Aa p.row,Aa p.dev,Aa p.native,Aa p.cost,Aa p.link,Dz p.name,.sl 1 Aa p.tagged]
def Br (l:Link):SV:=.agg [Aa l.row,Aa l.a,Aa l.b]
def An (d:Domain):SV:=.agg [Aa d.dev,Aa d.vlan,Aa d.vni,Aa d.irb,Aa d.row,.sl 1 Aa d.peers]
def As (s:Static):SV:=.agg [Aa s.row,Aa s.domain,Aa s.port,Bb s.mac]
def A3 (f:Flood):SV:=.agg [Aa f.row,Aa f.dev,Aa f.vni,.sl 1 A8 f.addrs]
def B5 (v:Vrf):SV:=.agg [Aa v.row,Aa v.dev,Dz v.name,.sl 1 Aa v.imports,.sl 1 Aa v.exports]
def By (i:Irb):SV:=.agg [Aa i.row,Aa i.domain,Aa i.vrf,A8 i.addr,Aa i.bits]
def C7 (n:Net):List SV:=[.sl 5 Aq n.devices,.sl 7 Aw n.ports,.sl 3 Br n.links,.sl 6 An n.domains,.sl 4 As n.statics,.sl 4 A3 n.floods,.sl 5 B5 n.vrfs,.sl 5 By n.irbs]
def Aj (n:Net):SV:=.agg [.sl 5 Aq n.devices,.sl 7 Aw n.ports,.sl 3 Br n.links,.sl 6 An n.domains,.sl 4 As n.statics,.sl 4 A3 n.floods,.sl 5 B5 n.vrfs,.sl 5 By n.irbs]
instance:Inhabited Device:=⟨⟨0,0,.empty,0,0⟩⟩
instance:Inhabited Port:=⟨⟨0,0,0,0,0,.empty,[]⟩⟩
instance:Inhabited Link:=⟨⟨0,0,0⟩⟩
instance:Inhabited Domain:=⟨⟨0,0,0,0,0,[]⟩⟩
instance:Inhabited Static:=⟨⟨0,0,0,0⟩⟩
instance:Inhabited Flood:=⟨⟨0,0,0,[]⟩⟩
instance:Inhabited Vrf:=⟨⟨0,0,.empty,[],[]⟩⟩
instance:Inhabited Irb:=⟨⟨0,0,0,0,0⟩⟩
def Af (i:Int) (n:Nat):Bool:=decide (0≤i) && decide (i<n)
def inB (l:List Int) (x:Int):Bool:=l.any (· == x)
def nth {α:Type} [Inhabited α] (l:List α) (i:Int):α:=(l[i.toNat]?).getD default
theorem Ae {α:Type} [Inhabited α] {l:List α} {i:Int} (h:i.toNat<l.length):nth l i=l[i.toNat]:=by
 simp[nth,h]
def Bg {α:Type} (p:α→Bool) (l:List α):Int:=match l.findIdx? p with | some i=>(i:Int) | none=>-1
theorem Cj {α:Type} {p:α→Bool} {l:List α} {j:Nat} (h:j<l.length) (h1:∀ i (hi:i<l.length),i<j→p l[i]=false) (h2:p l[j]=true):Bg p l=j:=by
 have:l.findIdx? p=some j:=by
  rw[xK]
  exact⟨h,h2,λ i hi=>by simp[h1 i q_ hi]⟩
 simp[Bg,this]
theorem Dg {α:Type} {p:α→Bool} {l:List α} (h1:∀ i (hi:i<l.length),p l[i]=false):Bg p l=-1:=by
 have:l.findIdx? p=none:=by
  rw[tD]
  intro x hx
  obtain ⟨i,hi,rfl⟩:=yR.1 hx
  exact h1 i hi
 simp[Bg,this]
theorem Hj {α:Type} (p:α→Bool) (l:List α):Bg p l<l.length:=by
 unfold Bg
 split
 ·rename_i i h
  rw[xK]at h
  obtain ⟨h,_⟩:=h
  omega
 ·omega
theorem Kg {α:Type} (p:α→Bool) (l:List α):decide (0≤Bg p l)=l.any p:=by
 unfold Bg
 split
 ·rename_i i h
  rw[xK]at h
  obtain ⟨h,h2,_⟩:=h
  have:l.any p=true:=wF.2 ⟨_,zE h,h2⟩
  rw[this]
  simp
 ·rename_i h
  rw[tD]at h
  have:l.any p=false:=by
   rw[wQ]
   intro x hx
   simp[h x hx]
  rw[this]
  simp
def Ha {α:Type} (p:Nat→α→Bool) (l:List α):Bool:=l.zipIdx.all λ q=>p q.2 q.1
theorem allB_iff {α:Type} {p:Nat→α→Bool} {l:List α}:Ha p l=true↔∀ i (h:i<l.length),p i l[i]=true:=by
 simp only[Ha,xD]
 constructor
 ·intro h i hi
  exact h (l[i],i) (by rw[uI];simp[hi])
 ·rintro h ⟨x,i⟩ hx
  rw[uI]at hx
  obtain ⟨hi,rfl⟩:=tE.1 hx
  exact h i hi
theorem Au9 {α:Type} {p:Nat→α→Bool} {l:List α} (h:∀ i (h:i<l.length),p i l[i]=true):Ha p l=true:=allB_iff.2 h
theorem Cz {α:Type} {p:Nat→α→Bool} {l:List α} {i:Nat} (h:i<l.length) (h1:p i l[i]=false):Ha p l=false:=by
 cases hh:Ha p l with
 | false=>rfl
 | true=>have:=allB_iff.1 hh i h;rw[h1]at this;cases this
def Ir {α:Type} (p:Nat→α→Bool) (l:List α) (j:Nat):Prop:=∀ i (h:i<l.length),i<j→p i l[i]=true
theorem Bp {α:Type} (p:Nat→α→Bool) (l:List α):Ir p l 0:=λ i h hj=>zW hj q_
theorem Bj {α:Type} {p:Nat→α→Bool} {l:List α} {j:Nat} (hI:Ir p l j) (hj:j<l.length) (h:p j l[j]=true):Ir p l (j+1):=by
 intro i hi hij
 rcases vB i j with h1 | h1
 ·exact hI i hi h1
 ·have:i=j:=by omega
  subst this
  exact h
theorem Eo {α:Type} {p:Nat→α→Bool} {l:List α} {j:Nat} (hI:Ir p l j) (hj:l.length≤j):Ha p l=true:=Au9 λ i hi=>hI i hi q_
def Ak {α:Type} (l:List α):Prop:=l.length<2147483648
end Go.Sy.YtljngfegfclkpaaGreat
namespace Go.Sy.YtljngfegfclkpaaGreat
open Go.Proofs
attribute [local irreducible] Go.Sy.G Go.Sy.DR
set_option maxRecDepth 20000
set_option maxHeartbeats 4000000
theorem H9 {α:Type} (sz:Nat) (e:α→SV) (l:List α) (i:Int):Sp 56 [.sl sz e l,Aa i] (Ac (Af i l.length)):=cT F56 Tryz.ntmps56 λ F hF=>by
 conv=>whnf
 (repeat' (first | (refine⟨λ h=>?_,λ h=>?_⟩<;>(repeat (first | simp only[zG]at h | simp only[zV]at h))<;>((refine oO ?_))) | (refine Ap rfl (.cons .tmp .nil) ?_ rfl)))
 all_goals (refine zD Ac ?_)
 all_goals grind [Af]
theorem Aoc {α:Type} (sz:Nat) (e:α→SV) (l:List α) (i:Int):Sp 103 [.sl sz e l,Aa i] (Ac (Af i l.length)):=cT F103 Tryz.ntmps103 λ F hF=>by
 conv=>whnf
 (repeat' (first | (refine⟨λ h=>?_,λ h=>?_⟩<;>(repeat (first | simp only[zG]at h | simp only[zV]at h))<;>((refine oO ?_))) | (refine Ap rfl (.cons .tmp .nil) ?_ rfl)))
 all_goals (refine zD Ac ?_)
 all_goals grind [Af]
theorem Ake {α:Type} (sz:Nat) (e:α→SV) (l:List α) (i:Int):Sp 108 [.sl sz e l,Aa i] (Ac (Af i l.length)):=cT F108 Tryz.ntmps108 λ F hF=>by
 conv=>whnf
 (repeat' (first | (refine⟨λ h=>?_,λ h=>?_⟩<;>(repeat (first | simp only[zG]at h | simp only[zV]at h))<;>((refine oO ?_))) | (refine Ap rfl (.cons .tmp .nil) ?_ rfl)))
 all_goals (refine zD Ac ?_)
 all_goals grind [Af]
theorem Sd {α:Type} (sz:Nat) (e:α→SV) (l:List α) (i:Int):Sp 109 [.sl sz e l,Aa i] (Ac (Af i l.length)):=cT F109 Tryz.ntmps109 λ F hF=>by
 conv=>whnf
 (repeat' (first | (refine⟨λ h=>?_,λ h=>?_⟩<;>(repeat (first | simp only[zG]at h | simp only[zV]at h))<;>((refine oO ?_))) | (refine Ap rfl (.cons .tmp .nil) ?_ rfl)))
 all_goals (refine zD Ac ?_)
 all_goals grind [Af]
theorem J3 {α:Type} (sz:Nat) (e:α→SV) (l:List α) (i:Int):Sp 65 [.sl sz e l,Aa i] (Ac (Af i l.length)):=cT F65 Tryz.ntmps65 λ F hF=>by
 conv=>whnf
 (repeat' (first | (refine⟨λ h=>?_,λ h=>?_⟩<;>(repeat (first | simp only[zG]at h | simp only[zV]at h))<;>((refine oO ?_))) | (refine Ap rfl (.cons .tmp .nil) ?_ rfl)))
 all_goals (refine zD Ac ?_)
 all_goals grind [Af]
theorem Aob {α:Type} (sz:Nat) (e:α→SV) (l:List α) (i:Int):Sp 111 [.sl sz e l,Aa i] (Ac (Af i l.length)):=cT F111 Tryz.ntmps111 λ F hF=>by
 conv=>whnf
 (repeat' (first | (refine⟨λ h=>?_,λ h=>?_⟩<;>(repeat (first | simp only[zG]at h | simp only[zV]at h))<;>((refine oO ?_))) | (refine Ap rfl (.cons .tmp .nil) ?_ rfl)))
 all_goals (refine zD Ac ?_)
 all_goals grind [Af]
theorem Axx (l:List Int) (x:Int) (hl:Ak l):Sp 64 [.sl 1 Aa l,Aa x] (Aa (Bg (· == x) l)):=cT F64 Tryz.ntmps64 λ F hF=>by
 unfold Ak at hl
 conv=>whnf
 refine Bi l.length (λ j=>∀ i (h:i<l.length),i<j→(l[i] == x)=false) (λ j=>[(0,.sl 1 Aa l),(1,Aa x),(7,Aa l.length),(8,Aa j)]) (λ _=>[]) [] (λ i h hj=>zW hj q_) ⟨⟨E,E,E,E,E,E,E,E,Y⟩,Y,E,E⟩ ?_
 intro j hj hI
 refine oO ?_
 (repeat' (first | (refine⟨λ h=>?_,λ h=>?_⟩<;>(repeat (first | simp only[zG]at h | simp only[zV]at h | simp only[yA]at h | simp only[zO]at h))<;>((refine oO ?_))) | (refine Ap rfl (.cons .tmp .nil) ?_ rfl) | (refine⟨z_,?_⟩;((conv=>whnf))) | (refine⟨by (omega),by (omega),?_⟩;((conv=>whnf))) | (refine⟨by (unfold I64;omega),?_⟩;((conv=>whnf))) | refine Be [] hI q_ ?_ ⟨⟨rfl,rfl,rfl,rfl,rfl,rfl,rfl,rfl,trivial⟩,trivial,rfl,rfl⟩))
 all_goals try (refine zD Aa ?_)
 ·exact Cj q_ hI (by simpa using h.symm)
 ·intro i hi hij
  rcases vB i j with h1 | h1
  ·exact hI i hi h1
  ·have:i=j:=by omega
   subst this
   simpa using Ne.symm h
 ·exact Dg (λ i hi=>hI i hi q_)
theorem Dp (l:List Int) (x:Int) (hl:Ak l):Sp 21 [.sl 1 Aa l,Aa x] (Ac (inB l x)):=cT F21 Tryz.ntmps21 λ F hF=>by
 conv=>whnf
 (repeat' (first | (refine Ap rfl (.cons .tmp .nil) ?_ rfl) | (refine c0 (Axx _ _ hl) F64 ?_;((refine oO ?_)))))
 exact zD Ac (Kg _ _).symm
def Ce (p:Port) (v:Int):Bool:=v != 0 && (v == p.native || inB p.tagged v)
theorem Wt (p:Port) (v:Int) (hl:Ak p.tagged):Sp 66 [Aw p,Aa v] (Ac (Ce p v)):=cT F66 Tryz.ntmps66 λ F hF=>by
 conv=>whnf
 (repeat' (first | (refine⟨λ h=>?_,λ h=>?_⟩<;>(repeat (first | simp only[yA]at h | simp only[zO]at h | simp only[yV]at h | simp only[bne_eq_false_iff_eq]at h))<;>((refine oO ?_))) | (refine Ap rfl (.cons .tmp .nil) ?_ rfl) | (refine c0 (Dp _ _ hl) F21 ?_;((refine oO ?_)))))
 all_goals (refine zD Ac ?_)
 all_goals grind [Ce]
def Ug (l:List Int) (least most:Int) (i:Nat) (x:Int):Bool:=decide (least≤x) && decide (x≤most) && (i == 0 || decide (nth l ((i:Int)-1)<x))
def If (l:List Int) (least most:Int):Bool:=decide (0<l.length) && decide (l.length≤16) && Ha (Ug l least most) l
theorem Aca (l:List Int) (least most:Int) (hl:Ak l):Sp 110 [.sl 1 Aa l,Aa least,Aa most] (Ac (If l least most)):=cT F110 Tryz.ntmps110 λ F hF=>by
 unfold Ak at hl
 conv=>whnf
 refine Bi l.length (λ j=>Ir (Ug l least most) l j) (λ j=>[(0,.sl 1 Aa l),(1,Aa least),(2,Aa most),(9,.sl 1 Aa l),(10,Aa l.length),(11,Aa j)]) (λ _=>[]) [] (Bp _ _) ⟨⟨E,E,E,E,E,E,E,E,E,E,E,E,Y⟩,Y,E,E⟩ ?_
 intro j hj hI
 refine oO ?_
 (repeat' (first | (refine⟨λ h=>?_,λ h=>?_⟩<;>(repeat (first | simp only[zG]at h | simp only[zV]at h))<;>((refine oO ?_);repeat((first|refine aF ?_|refine aT ?_);(refine oO ?_)))) | (refine Ap rfl (.cons .tmp .nil) ?_ rfl) | (refine⟨z_,?_⟩;((conv=>whnf))) | (refine⟨by (first | (unfold I64;omega) | omega),by (omega),?_⟩;((conv=>whnf))) | (refine⟨by (unfold I64;omega),?_⟩;((conv=>whnf))) | refine Be [] hI q_ ?_ ⟨⟨rfl,rfl,rfl,rfl,rfl,rfl,rfl,rfl,rfl,rfl,rfl,rfl,trivial⟩,trivial,rfl,rfl⟩))
 all_goals try (refine zD Ac ?_)
 all_goals try simp only[zR,Int.pred_toNat]at *
 ·rw[If,Cz (i:=j) q_ (by simp[Ug];omega)];simp
 ·rw[If,Cz (i:=j) q_ (by simp[Ug];omega)];simp
 ·rw[If,Cz (i:=j) q_ (by simp only[Ug,Ae (show ((j:Int)-1).toNat<l.length by omega),Int.pred_toNat,zR];simp;omega)];simp
 ·exact Bj hI q_ (by simp only[Ug,Ae (show ((j:Int)-1).toNat<l.length by omega),Int.pred_toNat,zR];simp;omega)
 ·exact Bj hI q_ (by simp[Ug];omega)
 ·rw[If,Eo hI q_,xO];simp;omega
 ·rw[If];simp;omega
theorem Ahb (l:List Int) (most:Int) (hl:Ak l):Sp 59 [.sl 1 Aa l,Aa most] (Ac (decide (l.length=0) || If l 1 most)):=cT F59 Tryz.ntmps59 λ F hF=>by
 conv=>whnf
 (repeat' (first | (refine⟨λ h=>?_,λ h=>?_⟩<;>(repeat (first | simp only[yA]at h | simp only[zO]at h))<;>((refine oO ?_))) | (refine Ap rfl (.cons .tmp .nil) ?_ rfl) | (refine c0 (Aca l 1 most hl) F110 ?_;((refine oO ?_)))))
 all_goals (refine zD Ac ?_)
 all_goals grind
theorem Sw {K:List Nat}:∀ (a b:List SV),B7 K (a++b)=(B7 K a && B7 K b)
 | [],b=>by simp[B7]
 | x::a,b=>by simp[B7,Sw a b,Bool.and_assoc]
theorem C2 {f:FuncId} {first cap xs:List SV} (hc:(SV.clo (.func f) first cap).inn []=true) (hx:B7 [] xs=true):B7 [] (first++xs++cap)=true:=by
 simp only[SV.inn,zB]at hc
 rw[Sw,Sw,hc.1,hc.2,hx]
 rfl
theorem Ec (l:List Domain) (p:Domain→Bool) (f:FuncId) (first cap:List SV) (hc:(SV.clo (.func f) first cap).inn []=true) (hf:∀ x∈l,Hh Tryz.prog f (first++[An x]++cap) (Ac (p x))) (hl:Ak l) :
  Sp 170 [.sl 6 An l,.clo (.func f) first cap] (Aa (Bg p l)):=cT F170 Tryz.ntmps170 λ F hF=>by
 unfold Ak at hl
 have hin:∀ x:Domain,B7 [] (first++[An x]++cap)=true:=λ x=>C2 hc rfl
 conv=>whnf
 refine Bi l.length (λ j=>Ir (λ _ x=>!(p x)) l j) (λ j=>[(0,.sl 6 An l),(1,.clo (.func f) first cap),(7,Aa l.length),(8,Aa j)]) (λ _=>[]) [] (Bp _ _) ⟨⟨E,E,A9 _,hc,E,E,E,E,Y⟩,Y,E,E⟩ ?_
 intro j hj hI
 refine oO ?_
 constructor<;>intro h
 ·have h:=zK h
  have hj2:j<l.length:=by omega
  refine oO ?_
  refine⟨E,by omega,by omega,?_⟩
  conv=>whnf
  refine Eg (hf l[j] (zE hj2)) E E E (by simp only[hin];rfl) E E ?_
  refine oO ?_
  constructor<;>intro h2
  ·refine oO ?_
   refine Ap E (.cons .tmp .nil) (zD Aa ?_) E
   exact Cj hj2 (λ i hi hij=>by simpa using hI i hi hij) h2
  ·refine oO ?_
   refine iW ?_
   exact Be [] hI hj2 (Bj hI hj2 (by simp[h2])) ⟨⟨E,E,A9 _,hc,E,E,E,E,Y⟩,Y,E,E⟩
 ·have h:=zN h
  refine oO ?_
  refine Ap E (.cons .tmp .nil) (zD Aa ?_) E
  exact Dg (λ i hi=>by simpa using hI i hi q_)
theorem Qp (l:List Port) (p:Port→Bool) (f:FuncId) (first cap:List SV) (hc:(SV.clo (.func f) first cap).inn []=true) (hf:∀ x∈l,Hh Tryz.prog f (first++[Aw x]++cap) (Ac (p x))) (hl:Ak l) :
  Sp 266 [.sl 7 Aw l,.clo (.func f) first cap] (Aa (Bg p l)):=cT F266 Tryz.ntmps266 λ F hF=>by
 unfold Ak at hl
 have hin:∀ x:Port,B7 [] (first++[Aw x]++cap)=true:=λ x=>C2 hc rfl
 conv=>whnf
 refine Bi l.length (λ j=>Ir (λ _ x=>!(p x)) l j) (λ j=>[(0,.sl 7 Aw l),(1,.clo (.func f) first cap),(7,Aa l.length),(8,Aa j)]) (λ _=>[]) [] (Bp _ _) ⟨⟨E,E,A9 _,hc,E,E,E,E,Y⟩,Y,E,E⟩ ?_
 intro j hj hI
 refine oO ?_
 constructor<;>intro h
 ·have h:=zK h
  have hj2:j<l.length:=by omega
  refine oO ?_
  refine⟨E,by omega,by omega,?_⟩
  conv=>whnf
  refine Eg (hf l[j] (zE hj2)) E E E (by simp only[hin];rfl) E E ?_
  refine oO ?_
  constructor<;>intro h2
  ·refine oO ?_
   refine Ap E (.cons .tmp .nil) (zD Aa ?_) E
   exact Cj hj2 (λ i hi hij=>by simpa using hI i hi hij) h2
  ·refine oO ?_
   refine iW ?_
   exact Be [] hI hj2 (Bj hI hj2 (by simp[h2])) ⟨⟨E,E,A9 _,hc,E,E,E,E,Y⟩,Y,E,E⟩
 ·have h:=zN h
  refine oO ?_
  refine Ap E (.cons .tmp .nil) (zD Aa ?_) E
  exact Dg (λ i hi=>by simpa using hI i hi q_)
theorem Au7 (l:List Port) (p:Nat→Port→Bool) (f:FuncId) (first cap:List SV) (hc:(SV.clo (.func f) first cap).inn []=true) (hf:∀ i (h:i<l.length),Hh Tryz.prog f (first++[Aa i,Aw l[i]]++cap) (Ac (p i l[i]))) (hl:Ak l) :
  Sp 48 [.sl 7 Aw l,.clo (.func f) first cap] (Ac (Ha p l)):=cT F48 Tryz.ntmps48 λ F hF=>by
 unfold Ak at hl
 have hin:∀ (i:Nat) (x:Port),B7 [] (first++[Aa i,Aw x]++cap)=true:=λ i x=>C2 hc rfl
 conv=>whnf
 refine Bi l.length (λ j=>Ir p l j) (λ j=>[(0,.sl 7 Aw l),(1,.clo (.func f) first cap),(7,.sl 7 Aw l),(8,Aa l.length),(9,Aa j)]) (λ _=>[]) [] (Bp _ _) ⟨⟨E,E,A9 _,hc,E,E,E,E,E,E,Y⟩,Y,E,E⟩ ?_
 intro j hj hI
 refine oO ?_
 constructor<;>intro h
 ·have h:=zK h
  have hj2:j<l.length:=by omega
  refine oO ?_
  refine⟨E,by omega,by omega,?_⟩
  conv=>whnf
  refine Eg (hf j hj2) E E E (by simp only[hin];rfl) E E ?_
  refine oO ?_
  constructor<;>intro h2
  ·refine oO ?_
   refine Ap E (.cons .tmp .nil) (zD Ac ?_) E
   exact Cz hj2 (by simpa using h2)
  ·refine oO ?_
   refine iW ?_
   exact Be [] hI hj2 (Bj hI hj2 (by simpa using h2)) ⟨⟨E,E,A9 _,hc,E,E,E,E,E,E,Y⟩,Y,E,E⟩
 ·have h:=zN h
  refine oO ?_
  refine Ap E (.cons .tmp .nil) (zD Ac ?_) E
  exact Eo hI q_
theorem Au8 (l:List Link) (p:Nat→Link→Bool) (f:FuncId) (first cap:List SV) (hc:(SV.clo (.func f) first cap).inn []=true) (hf:∀ i (h:i<l.length),Hh Tryz.prog f (first++[Aa i,Br l[i]]++cap) (Ac (p i l[i]))) (hl:Ak l) :
  Sp 50 [.sl 3 Br l,.clo (.func f) first cap] (Ac (Ha p l)):=cT F50 Tryz.ntmps50 λ F hF=>by
 unfold Ak at hl
 have hin:∀ (i:Nat) (x:Link),B7 [] (first++[Aa i,Br x]++cap)=true:=λ i x=>C2 hc rfl
 conv=>whnf
 refine Bi l.length (λ j=>Ir p l j) (λ j=>[(0,.sl 3 Br l),(1,.clo (.func f) first cap),(7,.sl 3 Br l),(8,Aa l.length),(9,Aa j)]) (λ _=>[]) [] (Bp _ _) ⟨⟨E,E,A9 _,hc,E,E,E,E,E,E,Y⟩,Y,E,E⟩ ?_
 intro j hj hI
 refine oO ?_
 constructor<;>intro h
 ·have h:=zK h
  have hj2:j<l.length:=by omega
  refine oO ?_
  refine⟨E,by omega,by omega,?_⟩
  conv=>whnf
  refine Eg (hf j hj2) E E E (by simp only[hin];rfl) E E ?_
  refine oO ?_
  constructor<;>intro h2
  ·refine oO ?_
   refine Ap E (.cons .tmp .nil) (zD Ac ?_) E
   exact Cz hj2 (by simpa using h2)
  ·refine oO ?_
   refine iW ?_
   exact Be [] hI hj2 (Bj hI hj2 (by simpa using h2)) ⟨⟨E,E,A9 _,hc,E,E,E,E,E,E,Y⟩,Y,E,E⟩
 ·have h:=zN h
  refine oO ?_
  refine Ap E (.cons .tmp .nil) (zD Ac ?_) E
  exact Eo hI q_
theorem Aah (l:List Domain) (p:Nat→Domain→Bool) (f:FuncId) (first cap:List SV) (hc:(SV.clo (.func f) first cap).inn []=true) (hf:∀ i (h:i<l.length),Hh Tryz.prog f (first++[Aa i,An l[i]]++cap) (Ac (p i l[i]))) (hl:Ak l) :
  Sp 45 [.sl 6 An l,.clo (.func f) first cap] (Ac (Ha p l)):=cT F45 Tryz.ntmps45 λ F hF=>by
 unfold Ak at hl
 have hin:∀ (i:Nat) (x:Domain),B7 [] (first++[Aa i,An x]++cap)=true:=λ i x=>C2 hc rfl
 conv=>whnf
 refine Bi l.length (λ j=>Ir p l j) (λ j=>[(0,.sl 6 An l),(1,.clo (.func f) first cap),(7,.sl 6 An l),(8,Aa l.length),(9,Aa j)]) (λ _=>[]) [] (Bp _ _) ⟨⟨E,E,A9 _,hc,E,E,E,E,E,E,Y⟩,Y,E,E⟩ ?_
 intro j hj hI
 refine oO ?_
 constructor<;>intro h
 ·have h:=zK h
  have hj2:j<l.length:=by omega
  refine oO ?_
  refine⟨E,by omega,by omega,?_⟩
  conv=>whnf
  refine Eg (hf j hj2) E E E (by simp only[hin];rfl) E E ?_
  refine oO ?_
  constructor<;>intro h2
  ·refine oO ?_
   refine Ap E (.cons .tmp .nil) (zD Ac ?_) E
   exact Cz hj2 (by simpa using h2)
  ·refine oO ?_
   refine iW ?_
   exact Be [] hI hj2 (Bj hI hj2 (by simpa using h2)) ⟨⟨E,E,A9 _,hc,E,E,E,E,E,E,Y⟩,Y,E,E⟩
 ·have h:=zN h
  refine oO ?_
  refine Ap E (.cons .tmp .nil) (zD Ac ?_) E
  exact Eo hI q_
theorem Amn (l:List Static) (p:Nat→Static→Bool) (f:FuncId) (first cap:List SV) (hc:(SV.clo (.func f) first cap).inn []=true) (hf:∀ i (h:i<l.length),Hh Tryz.prog f (first++[Aa i,As l[i]]++cap) (Ac (p i l[i]))) (hl:Ak l) :
  Sp 52 [.sl 4 As l,.clo (.func f) first cap] (Ac (Ha p l)):=cT F52 Tryz.ntmps52 λ F hF=>by
 unfold Ak at hl
 have hin:∀ (i:Nat) (x:Static),B7 [] (first++[Aa i,As x]++cap)=true:=λ i x=>C2 hc rfl
 conv=>whnf
 refine Bi l.length (λ j=>Ir p l j) (λ j=>[(0,.sl 4 As l),(1,.clo (.func f) first cap),(7,.sl 4 As l),(8,Aa l.length),(9,Aa j)]) (λ _=>[]) [] (Bp _ _) ⟨⟨E,E,A9 _,hc,E,E,E,E,E,E,Y⟩,Y,E,E⟩ ?_
 intro j hj hI
 refine oO ?_
 constructor<;>intro h
 ·have h:=zK h
  have hj2:j<l.length:=by omega
  refine oO ?_
  refine⟨E,by omega,by omega,?_⟩
  conv=>whnf
  refine Eg (hf j hj2) E E E (by simp only[hin];rfl) E E ?_
  refine oO ?_
  constructor<;>intro h2
  ·refine oO ?_
   refine Ap E (.cons .tmp .nil) (zD Ac ?_) E
   exact Cz hj2 (by simpa using h2)
  ·refine oO ?_
   refine iW ?_
   exact Be [] hI hj2 (Bj hI hj2 (by simpa using h2)) ⟨⟨E,E,A9 _,hc,E,E,E,E,E,E,Y⟩,Y,E,E⟩
 ·have h:=zN h
  refine oO ?_
  refine Ap E (.cons .tmp .nil) (zD Ac ?_) E
  exact Eo hI q_
theorem Ap9 (l:List Flood) (p:Nat→Flood→Bool) (f:FuncId) (first cap:List SV) (hc:(SV.clo (.func f) first cap).inn []=true) (hf:∀ i (h:i<l.length),Hh Tryz.prog f (first++[Aa i,A3 l[i]]++cap) (Ac (p i l[i]))) (hl:Ak l) :
  Sp 54 [.sl 4 A3 l,.clo (.func f) first cap] (Ac (Ha p l)):=cT F54 Tryz.ntmps54 λ F hF=>by
 unfold Ak at hl
 have hin:∀ (i:Nat) (x:Flood),B7 [] (first++[Aa i,A3 x]++cap)=true:=λ i x=>C2 hc rfl
 conv=>whnf
 refine Bi l.length (λ j=>Ir p l j) (λ j=>[(0,.sl 4 A3 l),(1,.clo (.func f) first cap),(7,.sl 4 A3 l),(8,Aa l.length),(9,Aa j)]) (λ _=>[]) [] (Bp _ _) ⟨⟨E,E,A9 _,hc,E,E,E,E,E,E,Y⟩,Y,E,E⟩ ?_
 intro j hj hI
 refine oO ?_
 constructor<;>intro h
 ·have h:=zK h
  have hj2:j<l.length:=by omega
  refine oO ?_
  refine⟨E,by omega,by omega,?_⟩
  conv=>whnf
  refine Eg (hf j hj2) E E E (by simp only[hin];rfl) E E ?_
  refine oO ?_
  constructor<;>intro h2
  ·refine oO ?_
   refine Ap E (.cons .tmp .nil) (zD Ac ?_) E
   exact Cz hj2 (by simpa using h2)
  ·refine oO ?_
   refine iW ?_
   exact Be [] hI hj2 (Bj hI hj2 (by simpa using h2)) ⟨⟨E,E,A9 _,hc,E,E,E,E,E,E,Y⟩,Y,E,E⟩
 ·have h:=zN h
  refine oO ?_
  refine Ap E (.cons .tmp .nil) (zD Ac ?_) E
  exact Eo hI q_
theorem Ay4 (l:List Vrf) (p:Nat→Vrf→Bool) (f:FuncId) (first cap:List SV) (hc:(SV.clo (.func f) first cap).inn []=true) (hf:∀ i (h:i<l.length),Hh Tryz.prog f (first++[Aa i,B5 l[i]]++cap) (Ac (p i l[i]))) (hl:Ak l) :
  Sp 57 [.sl 5 B5 l,.clo (.func f) first cap] (Ac (Ha p l)):=cT F57 Tryz.ntmps57 λ F hF=>by
 unfold Ak at hl
 have hin:∀ (i:Nat) (x:Vrf),B7 [] (first++[Aa i,B5 x]++cap)=true:=λ i x=>C2 hc rfl
 conv=>whnf
 refine Bi l.length (λ j=>Ir p l j) (λ j=>[(0,.sl 5 B5 l),(1,.clo (.func f) first cap),(7,.sl 5 B5 l),(8,Aa l.length),(9,Aa j)]) (λ _=>[]) [] (Bp _ _) ⟨⟨E,E,A9 _,hc,E,E,E,E,E,E,Y⟩,Y,E,E⟩ ?_
 intro j hj hI
 refine oO ?_
 constructor<;>intro h
 ·have h:=zK h
  have hj2:j<l.length:=by omega
  refine oO ?_
  refine⟨E,by omega,by omega,?_⟩
  conv=>whnf
  refine Eg (hf j hj2) E E E (by simp only[hin];rfl) E E ?_
  refine oO ?_
  constructor<;>intro h2
  ·refine oO ?_
   refine Ap E (.cons .tmp .nil) (zD Ac ?_) E
   exact Cz hj2 (by simpa using h2)
  ·refine oO ?_
   refine iW ?_
   exact Be [] hI hj2 (Bj hI hj2 (by simpa using h2)) ⟨⟨E,E,A9 _,hc,E,E,E,E,E,E,Y⟩,Y,E,E⟩
 ·have h:=zN h
  refine oO ?_
  refine Ap E (.cons .tmp .nil) (zD Ac ?_) E
  exact Eo hI q_
theorem Ay5 (l:List Irb) (p:Nat→Irb→Bool) (f:FuncId) (first cap:List SV) (hc:(SV.clo (.func f) first cap).inn []=true) (hf:∀ i (h:i<l.length),Hh Tryz.prog f (first++[Aa i,By l[i]]++cap) (Ac (p i l[i]))) (hl:Ak l) :
  Sp 60 [.sl 5 By l,.clo (.func f) first cap] (Ac (Ha p l)):=cT F60 Tryz.ntmps60 λ F hF=>by
 unfold Ak at hl
 have hin:∀ (i:Nat) (x:Irb),B7 [] (first++[Aa i,By x]++cap)=true:=λ i x=>C2 hc rfl
 conv=>whnf
 refine Bi l.length (λ j=>Ir p l j) (λ j=>[(0,.sl 5 By l),(1,.clo (.func f) first cap),(7,.sl 5 By l),(8,Aa l.length),(9,Aa j)]) (λ _=>[]) [] (Bp _ _) ⟨⟨E,E,A9 _,hc,E,E,E,E,E,E,Y⟩,Y,E,E⟩ ?_
 intro j hj hI
 refine oO ?_
 constructor<;>intro h
 ·have h:=zK h
  have hj2:j<l.length:=by omega
  refine oO ?_
  refine⟨E,by omega,by omega,?_⟩
  conv=>whnf
  refine Eg (hf j hj2) E E E (by simp only[hin];rfl) E E ?_
  refine oO ?_
  constructor<;>intro h2
  ·refine oO ?_
   refine Ap E (.cons .tmp .nil) (zD Ac ?_) E
   exact Cz hj2 (by simpa using h2)
  ·refine oO ?_
   refine iW ?_
   exact Be [] hI hj2 (Bj hI hj2 (by simpa using h2)) ⟨⟨E,E,A9 _,hc,E,E,E,E,E,E,Y⟩,Y,E,E⟩
 ·have h:=zN h
  refine oO ?_
  refine Ap E (.cons .tmp .nil) (zD Ac ?_) E
  exact Eo hI q_
theorem Ay3 (l:List Int) (p:Nat→Int→Bool) (f:FuncId) (first cap:List SV) (hc:(SV.clo (.func f) first cap).inn []=true) (hf:∀ i (h:i<l.length),Hh Tryz.prog f (first++[Aa i,Aa l[i]]++cap) (Ac (p i l[i]))) (hl:Ak l) :
  Sp 105 [.sl 1 Aa l,.clo (.func f) first cap] (Ac (Ha p l)):=cT F105 Tryz.ntmps105 λ F hF=>by
 unfold Ak at hl
 have hin:∀ (i:Nat) (x:Int),B7 [] (first++[Aa i,Aa x]++cap)=true:=λ i x=>C2 hc rfl
 conv=>whnf
 refine Bi l.length (λ j=>Ir p l j) (λ j=>[(0,.sl 1 Aa l),(1,.clo (.func f) first cap),(7,.sl 1 Aa l),(8,Aa l.length),(9,Aa j)]) (λ _=>[]) [] (Bp _ _) ⟨⟨E,E,A9 _,hc,E,E,E,E,E,E,Y⟩,Y,E,E⟩ ?_
 intro j hj hI
 refine oO ?_
 constructor<;>intro h
 ·have h:=zK h
  have hj2:j<l.length:=by omega
  refine oO ?_
  refine⟨E,by omega,by omega,?_⟩
  conv=>whnf
  refine Eg (hf j hj2) E E E (by simp only[hin];rfl) E E ?_
  refine oO ?_
  constructor<;>intro h2
  ·refine oO ?_
   refine Ap E (.cons .tmp .nil) (zD Ac ?_) E
   exact Cz hj2 (by simpa using h2)
  ·refine oO ?_
   refine iW ?_
   exact Be [] hI hj2 (Bj hI hj2 (by simpa using h2)) ⟨⟨E,E,A9 _,hc,E,E,E,E,E,E,Y⟩,Y,E,E⟩
 ·have h:=zN h
  refine oO ?_
  refine Ap E (.cons .tmp .nil) (zD Ac ?_) E
  exact Eo hI q_
structure Net.Fin (n:Net):Prop where
 devices:Ak n.devices
 ports:Ak n.ports
 links:Ak n.links
 domains:Ak n.domains
 statics:Ak n.statics
 floods:Ak n.floods
 vrfs:Ak n.vrfs
 irbs:Ak n.irbs
 tagged:∀ p∈n.ports,Ak p.tagged
 peers:∀ d∈n.domains,Ak d.peers
 addrs:∀ f∈n.floods,Ak f.addrs
 imports:∀ v∈n.vrfs,Ak v.imports
 exports:∀ v∈n.vrfs,Ak v.exports
def Cq (n:Net) (dev vlan:Int):Int:=Bg (λ d=>d.dev == dev && d.vlan == vlan) n.domains
theorem A0z (dev vlan:Int) (d:Domain):Sp 171 [An d,.ref 1 (Aa dev) 0,.ref 1 (Aa vlan) 0] (Ac (d.dev == dev && d.vlan == vlan)):=cT F171 Tryz.ntmps171 λ F hF=>by
 conv=>whnf
 (repeat' (first | (refine⟨λ h=>?_,λ h=>?_⟩<;>(repeat (first | simp only[yA]at h | simp only[zO]at h))<;>((refine oO ?_))) | (refine Ap rfl (.cons .tmp .nil) ?_ rfl)))
 all_goals (refine zD Ac ?_)
 all_goals simp_all
theorem O7 (n:Net) (dev vlan:Int) (hl:Ak n.domains):Sp 104 [Aj n,Aa dev,Aa vlan] (Aa (Cq n dev vlan)):=cT F104 Tryz.ntmps104 λ F hF=>by
 conv=>whnf
 refine Az 4 1 (Aa dev) E E E ?_
 refine Az 5 1 (Aa vlan) E E E ?_
 refine c0 (Ec n.domains (λ d=>d.dev == dev && d.vlan == vlan) 171 [] [.ref 1 (Aa dev) 0,.ref 1 (Aa vlan) 0] E (λ d _=>⟨⟨_,_,F171⟩,A0z dev vlan d⟩) hl) F170 ?_
 refine oO ?_
 exact dN
def Aew (n:Net):Bool:=decide (n.devices.length≤8) && decide (n.ports.length≤40) && decide (n.links.length≤20) && decide (n.domains.length≤48) && decide (n.statics.length≤64) && decide (n.floods.length≤48) && decide (n.vrfs.length≤16) && decide (n.irbs.length≤48)
theorem fewS (n:Net):Sp 44 [Aj n] (Ac (Aew n)):=cT F44 Tryz.ntmps44 λ F hF=>by
 conv=>whnf
 (repeat' (first | (refine⟨λ h=>?_,λ h=>?_⟩<;>(repeat (first | simp only[zG]at h | simp only[zV]at h))<;>((refine oO ?_);repeat((refine aF ?_);(refine oO ?_)))) | (refine Ap rfl (.cons .tmp .nil) ?_ rfl)))
 all_goals (refine zD Ac ?_)
 all_goals (unfold Aew;rw[xO];simp;omega)
def L4 (n:Net) (i:Nat) (d:Domain):Bool :=
 Af d.dev n.devices.length && decide (1≤d.vlan) && decide (d.vlan≤4094) && decide (0≤d.vni) && decide (d.vni≤16777215) && (d.irb == -1 || Af d.irb n.irbs.length && (nth n.irbs d.irb).domain == i) && Cq n d.dev d.vlan == i
theorem bareS (n:Net) (i:Nat) (d:Domain) (hl:Ak n.domains):Sp 46 [Aj n,Aa i,An d] (Ac (L4 n i d)):=cT F46 Tryz.ntmps46 λ F hF=>by
 conv=>whnf
 (repeat' (first | (refine⟨λ h=>?_,λ h=>?_⟩<;>(repeat (first | simp only[Af]at h | simp only[zG]at h | simp only[zV]at h | simp only[yA]at h | simp only[zO]at h | simp only[zB]at h | simp only[yT]at h))<;>((refine oO ?_);repeat((first|refine aF ?_|refine aT ?_);(refine oO ?_)))) | (refine Ap rfl (.cons .tmp .nil) ?_ rfl) | (refine⟨z_,?_⟩;((conv=>whnf))) | (refine⟨by (omega),by (omega),?_⟩;((conv=>whnf))) | (refine c0 (H9 5 Aq n.devices d.dev) F56 ?_;((refine oO ?_))) | (refine c0 (Aoc 5 By n.irbs d.irb) F103 ?_;((refine oO ?_))) | (refine c0 (O7 n d.dev d.vlan hl) F104 ?_;((refine oO ?_)))))
 all_goals (refine zD Ac ?_)
 all_goals (clear hF;grind [L4,Af,Ae])
def Kv (n:Net) (d:Domain):Bool:=(nth n.devices d.dev).vtep != 0
theorem A1l (n:Net) (d:Domain) (hd:Af d.dev n.devices.length=true):Sp 172 [Aj n,An d] (Ac (Kv n d)):=cT F172 Tryz.ntmps172 λ F hF=>by
 simp only[Af,zB,zG]at hd
 conv=>whnf
 (repeat' (first | (refine Ap rfl (.cons .tmp .nil) ?_ rfl) | (refine⟨z_,?_⟩;((conv=>whnf))) | (refine⟨by (omega),by (omega),?_⟩;((conv=>whnf)))))
 all_goals (refine zD Ac ?_)
 all_goals (clear hF;grind [Kv,Ae])
def M7 (n:Net) (i:Nat) (d:Domain) (k:Int):Bool :=
 Af k n.domains.length && k != i && Af (nth n.domains k).dev n.devices.length && (nth n.domains k).dev != d.dev && (nth n.domains k).vni == d.vni && d.vni != 0 && Kv n (nth n.domains k) && Kv n d && inB (nth n.domains k).peers i
theorem peerS (n:Net) (i:Nat) (d:Domain) (k:Int) (hn:n.Fin) (hd:Af d.dev n.devices.length=true):Sp 107 [Aj n,Aa i,An d,Aa k] (Ac (M7 n i d k)):=cT F107 Tryz.ntmps107 λ F hF=>by
 conv=>whnf
 (repeat' (first | (refine⟨λ h=>?_,λ h=>?_⟩<;>(repeat (first | simp only[Af]at h | simp only[zG]at h | simp only[zV]at h | simp only[yA]at h | simp only[zO]at h | simp only[yV]at h | simp only[bne_eq_false_iff_eq]at h | simp only[zB]at h | simp only[yT]at h | simp only[yK]at h | simp only[wC]at h))<;>((refine oO ?_);repeat((first|refine aF ?_|refine aT ?_);(refine oO ?_)))) | (refine Ap rfl (.cons .tmp .nil) ?_ rfl) | (refine⟨z_,?_⟩;((conv=>whnf))) | (refine⟨by (omega),by (omega),?_⟩;((conv=>whnf))) | (refine c0 (J3 6 An n.domains k) F65 ?_;((refine oO ?_))) | (refine c0 (H9 5 Aq n.devices (n.domains[k.toNat]'q_).dev) F56 ?_;((refine oO ?_))) | (refine c0 (A1l n (n.domains[k.toNat]'q_) (by simp only[Af,zB,zG];omega)) F172 ?_;((refine oO ?_))) | (refine c0 (A1l n d hd) F172 ?_;((refine oO ?_))) | (refine c0 (Dp (n.domains[k.toNat]'q_).peers i (hn.peers _ (zE _))) F21 ?_;((refine oO ?_)))))
 all_goals (refine zD Ac ?_;clear hF;grind [M7,Af,Ae])
def Lp (n:Net) (i:Nat) (d:Domain):Bool:=Ha (λ at_ k=>M7 n i d k && Bg (· == k) d.peers == at_) d.peers
theorem peers1 (n:Net) (i:Nat) (d:Domain) (at_:Nat) (k:Int) (hn:n.Fin) (hp:Ak d.peers) (hd:Af d.dev n.devices.length=true) :
  Sp 106 [Aa at_,Aa k,.ref 8 (Aj n) 0,.ref 1 (Aa i) 0,.ref 6 (An d) 0] (Ac (M7 n i d k && Bg (· == k) d.peers == at_)):=cT F106 Tryz.ntmps106 λ F hF=>by
 conv=>whnf
 (repeat' (first | (refine⟨λ h=>?_,λ h=>?_⟩<;>((refine oO ?_))) | (refine Ap rfl (.cons .tmp .nil) ?_ rfl) | (refine c0 (peerS n i d k hn hd) F107 ?_;((refine oO ?_))) | (refine c0 (Axx d.peers k hp) F64 ?_;((refine oO ?_)))))
 all_goals (refine zD Ac ?_;clear hF;grind)
theorem peersS (n:Net) (i:Nat) (d:Domain) (hn:n.Fin) (hp:Ak d.peers) (hd:Af d.dev n.devices.length=true):Sp 47 [Aj n,Aa i,An d] (Ac (Lp n i d)):=cT F47 Tryz.ntmps47 λ F hF=>by
 conv=>whnf
 refine Az 3 8 (Aj n) E E E ?_
 refine Az 4 1 (Aa i) E E E ?_
 refine Az 5 6 (An d) E E E ?_
 refine c0 (Ay3 d.peers (λ at_ k=>M7 n i d k && Bg (· == k) d.peers == at_) 106 [] [.ref 8 (Aj n) 0,.ref 1 (Aa i) 0,.ref 6 (An d) 0] E (λ a ha=>⟨⟨_,_,F106⟩,peers1 n i d a d.peers[a] hn hp hd⟩) hp) F105 ?_
 refine oO ?_
 exact dN
end Go.Sy.YtljngfegfclkpaaGreat
