/-
  Sy19 Sy22 Ty N1 N2 N3 N4 N5 N6 N7 N8 N9 N10 N11 V1 I5 Sy25 Sy26 Sy27 Sy28 Sh E1 E2 A2 E3 E4 Sy29 B0 D1 E36 E37 E5: parts of a proof, joined by program.
-/
import Derived.Test.YtcflgpijohhfbaaGreatXS2
import Derived.Test.YtcflgpijohhfbaaGreatProg
import Derived.Test.YtcflgpijohhfbaaGreatXS1
import Derived.ChangeKeysEq
import Derived.Below
import Derived.Lib.Join
import Derived.Lib.Strings
import Derived.Lib.Bytealg
set_option linter.all false
set_option linter.unusedVariables false
set_option linter.unusedSimpArgs false
set_option linter.deprecated false
namespace Go.Sy
inductive SrcT {α:Type} (s:SS) (sz:Nat) (e:α→SV):SV→List Nat→List α→Prop
 | sl {l:List α}:SrcT s sz e (.sl sz e l) [] l
 | row {k:Nat} {l:List α} (h:s.h k=.row sz e l):SrcT s sz e (.osl k) [k] l
 | lit {k:Nat} {l:List α} {svs:List SV} (h:s.h k=.lit sz svs) (hl:l.map e=svs):SrcT s sz e (.osl k) [k] l
 | nil:SrcT s sz e (.val (.slice none 0 0)) [] []
inductive BaseT {α:Type} (s:SS) (sz:Nat) (e:α→SV):SV→Option Nat→List α→Prop
 | nil:BaseT s sz e (.val (.slice none 0 0)) none []
 | row {k:Nat} {l:List α} (h:s.h k=.row sz e l):BaseT s sz e (.osl k) (some k) l
 | lit {k:Nat} {l:List α} {svs:List SV} (h:s.h k=.lit sz svs) (hl:l.map e=svs):BaseT s sz e (.osl k) (some k) l
theorem SrcT.src {α:Type} {s:SS} {sz:Nat} {e:α→SV} {x:SV} {ks:List Nat} {m:List α} (h:SrcT s sz e x ks m):∃ g,AppSrc s sz x ks m.length g∧∀ i x,rowF e m i x→g i x:=by
 cases h with
 | sl=>exact⟨_,.sl,fun _ _ h=>h⟩
 | row h=>exact⟨_,.row h,fun _ _ h=>h⟩
 | @lit k _ svs h hl=>exact⟨Aa0 svs,by have:=AppSrc.lit (sz:=sz) h;rwa [← hl,List.length_map,hl]at this,fun i x hx=>K8 hl i x hx⟩
 | nil=>exact⟨_,.nil,fun i x hx=>by obtain ⟨h,_⟩:=hx;simp at h⟩
theorem BaseT.base {α:Type} {s:SS} {sz:Nat} {e:α→SV} {x:SV} {k:Option Nat} {m:List α} (h:BaseT s sz e x k m):∃ g,AppBase s sz x k m.length g∧∀ i x,rowF e m i x→g i x:=by
 cases h with
 | row h=>exact⟨_,.row h,fun _ _ h=>h⟩
 | @lit k _ svs h hl=>exact⟨Aa0 svs,by have:=AppBase.lit (sz:=sz) h;rwa [← hl,List.length_map,hl]at this,fun i x hx=>K8 hl i x hx⟩
 | nil=>exact⟨_,.nil,fun i x hx=>by obtain ⟨h,_⟩:=hx;simp at h⟩
theorem Ag {P:Program} (Γ:Ty P) {o:Oper} {s:SS} (d:Nat) {α:Type} {e:α→SV} {l m:List α} {t:TypeId} {ti:TI} {et:TypeId} {sz eb:Nat} {ez:List Value} {x y:Operand} {k:Option Nat} {ks:List Nat}
  (h:o.op=.call ⟨.builtin .append,#[x,y],#[t,t]⟩) (hd:s.h d=.fresh) (ht:Γ.get t=some ti) (hk:ti.k=.slice et sz eb ez) (hez:ez.length=sz)
  (hb:BaseT s sz e (ev s x) k l) (hs:SrcT s sz e (ev s y) ks m) (hkk:∀ j,k=some j→j≠d) (hbytes:(l.length+m.length) * eb≤140737488355328) (h63:l.length+m.length≤9223372036854775807) :
  Good P o s ⟨.osl d,ks,Mi k d (.row sz e (l++m))⟩:=by
 obtain ⟨f,hb,hf⟩:=hb.base
 obtain ⟨g,hs,hg⟩:=hs.src
 exact W1 Γ h hd ht hk hez hb hs hkk hbytes h63 fun κ w hr=>Asm hr y_ (Ap8 hf hg)
theorem Uj {P:Program} (Γ:Ty P) {o:Oper} {s:SS} {src dst:TypeId} {si di ei:TI} {x:Operand} {et:TypeId} {eb:Nat} {ez:List Value} {ks:List Nat} {bs:List UInt8} (h:o.op=.convert src dst x)
  (hs:Γ.get src=some si) (hsk:si.k=.slice et 1 eb ez) (he:Γ.get et=some ei) (hek:ei.k=.int .u8) (hd:Γ.get dst=some di) (hdk:di.k=.string) (hx:SrcT s 1 Al (ev s x) ks bs) :
  Good P o s ⟨C7 ⟨bs.toArray⟩,ks,[]⟩:=by
 obtain ⟨g,hx,hg⟩:=hx.src
 exact Uq Γ bs h hs hsk he hek hd hdk hx E (fun i hi=>hg i _ ⟨hi,E⟩)
theorem Akx {C:Cx} {kk:List KI} {s:SS} (k d:Nat) (r:List Nat) {sz:Nat} {α:Type} {e:α→SV} {l:List α} (h:s.h k=.row sz e l) (hd:s.h d=.fresh) (hkd:k≠d) (hr:∀ i∈r,s.σ i=.osl k)
  (hg:G C kk ⟨freezeσ s.σ (.osl d) r,upd (upd s.h k .non) d (.row sz e l)⟩):G C kk s:=fun κ a w hs=>by
 have hob:=hs.obj k
 rw[h]at hob
 have hnew:κ d=.new:=by have:=hs.obj d;rwa [hd]at this
 have fin:∀ κ':Ka,Step (fun j=>j=k∨j=d) κ w κ' w→Inv κ' w→(∀ v,Rd κ w (.osl k) v→Rd κ' w (.osl d) v)→ObOK κ' w d (.row sz e l)→den C.P C.B kk .normal a w:=by
  intro κ' st inv hv ho
  refine hg κ' a w ⟨hs.defers,hs.size,inv,hs.ctx.step inv st,fun j=>?_,fun j=>?_⟩
  ·refine freezeσ_ok r _ j (Rd.step st _ _ (hs.slot j)) (fun hj=>hv _ ?_)
   have:=hs.slot j
   rwa [hr j hj]at this
  ·show ObOK _ w j (upd (upd s.h k .non) d (.row sz e l) j)
   by_cases hj:j=d
   ·subst hj;rw[Bi];exact ho
   ·rw[B6 _ _ hj]
    by_cases hj2:j=k
    ·subst hj2;rw[Bi];trivial
    ·rw[B6 _ _ hj2];exact ObOK.step st (fun e=>e.elim hj2 hj) _ (hs.obj j)
 rcases hob with ⟨h1,rfl⟩ | ⟨b,cap,cs,T,fr,e1,e2,e3,e4,e5,e6⟩
 ·have st:=Hu (Iu hs.inv (some k)) (by show C4 κ k .dead d=.new;rw[Bt _ _ (Ne.symm hkd)];exact hnew) (e:=.nil) (Grew.refl w) (fun b hb=>by cases hb)
  refine fin _ (((Hl (some k)).weaken (fun j hj=>.inl (Option.some.inj hj).symm)).trans (st.1.weaken (fun j hj=>.inr hj))) st.2 (fun v hv=>?_) (.inl ⟨Ar _ _ _,E⟩)
  simp only[Rd,h1]at hv
  simp[Rd,Ar,hv]
 ·obtain ⟨st,inv⟩:=K5 (n':=l.length) (w':=w) hs.inv e1 hnew rfl rfl rfl rfl (fun _ _=>rfl)
  refine fin _ st inv (fun v hv=>?_) (.inr ⟨b,cap,cs,T,fr,Ar _ _ _,e2,e3,e4,e5,fun i x hx=>?_⟩)
  ·simp only[Rd,e1]at hv
   simp[Rd,Ar,hv]
  ·obtain ⟨q1,u,q2,q3⟩:=e6 i x hx
   exact⟨q1,u,RdD.keep st.keeps _ _ q2,q3⟩
mutual
def frz (d:Nat) (x:SV):SV→SV
 | .osl k=>bif Nat.beq k d then x else .osl k
 | .agg l=>.agg (Zn d x l)
 | .tup l=>.tup (Zn d x l)
 | .ifc t y=>.ifc t (frz d x y)
 | .clo f g l=>.clo f (Zn d x g) (Zn d x l)
 | y=>y
def Zn (d:Nat) (x:SV):List SV→List SV
 | []=>[]
 | y::l=>frz d x y::Zn d x l
end
mutual
theorem Ad0 {κ κ':Ka} {w:World} {K:Nat→Prop} {d:Nat} {x:SV} (st:Step K κ w κ' w) (hx:∀ v,Rd κ w (.osl d) v→Rd κ' w x v):∀ (y:SV) (v:Value),Rd κ w y v→Rd κ' w (frz d x y) v
 | .osl k,v,h=>by
  unfold frz
  by_cases hk:k=d
  ·subst hk;rw[show Nat.beq k k=true from Nat.beq_refl k];exact hx v h
  ·rw[show Nat.beq k d=false from by cases hb:Nat.beq k d with | false=>rfl | true=>exact absurd (Nat.eq_of_beq_eq_true hb) hk];exact Rd.step st _ _ h
 | .agg l,v,h=>by
  simp only[Rd]at h
  unfold frz
  simp only[Rd]
  obtain ⟨cs,h1,h2,h3⟩:=h
  exact⟨cs,h1,h2,H5 st hx l cs h3⟩
 | .tup l,v,h=>by
  simp only[Rd]at h
  unfold frz
  simp only[Rd]
  obtain ⟨cs,h1,h3⟩:=h
  exact⟨cs,h1,H5 st hx l cs h3⟩
 | .ifc t y,v,h=>by
  simp only[Rd]at h
  unfold frz
  simp only[Rd]
  obtain ⟨u,h1,h3⟩:=h
  exact⟨u,h1,Ad0 st hx y u h3⟩
 | .clo f g l,v,h=>by
  simp only[Rd]at h
  unfold frz
  simp only[Rd]
  obtain ⟨fs,cs,h1,h2,h3⟩:=h
  exact⟨fs,cs,h1,H5 st hx g fs h2,H5 st hx l cs h3⟩
 | .top,v,h=>by unfold frz;exact Rd.step st _ _ h
 | .val u,v,h=>by unfold frz;exact Rd.step st _ _ h
 | .sl sz e l,v,h=>by unfold frz;exact Rd.step st _ _ h
 | .ref sz z o,v,h=>by unfold frz;exact Rd.step st _ _ h
 | .ptr k o,v,h=>by unfold frz;exact Rd.step st _ _ h
 | .rpt k sz i o,v,h=>by unfold frz;exact Rd.step st _ _ h
theorem H5 {κ κ':Ka} {w:World} {K:Nat→Prop} {d:Nat} {x:SV} (st:Step K κ w κ' w) (hx:∀ v,Rd κ w (.osl d) v→Rd κ' w x v):∀ (l:List SV) (vs:List Value),RdL κ w l vs→RdL κ' w (Zn d x l) vs
 | [],vs,h=>by
  unfold Zn
  simpa [RdL] using h
 | y::l,vs,h=>by
  simp only[RdL]at h
  unfold Zn
  simp only[RdL]
  obtain ⟨v,r,h1,h2,h3⟩:=h
  exact⟨v,r,h1,Ad0 st hx y v h2,H5 st hx l r h3⟩
end
def Aol (d:Nat) (x:SV):Ob→Ob
 | .box l=>.box (Zn d x l)
 | .rown sz e l i cl=>.rown sz e l i (Zn d x cl)
 | .tbox T l=>.tbox T (Zn d x l)
 | o=>o
theorem Ah {C:Cx} {k:List KI} {s:SS} (d:Nat) {sz:Nat} {α:Type} {e:α→SV} {l:List α} (h:s.h d=.row sz e l) (hg:G C k ⟨fun i=>frz d (.sl sz e l) (s.σ i),fun j=>bif Nat.beq j d then .non else Aol d (.sl sz e l) (s.h j)⟩):G C k s:=fun κ a w hs=>by
 have hob:=hs.obj d
 rw[h]at hob
 have st:=Hl (κ:=κ) (w:=w) (some d)
 have inv:=Iu hs.inv (some d)
 have hx:∀ v,Rd κ w (.osl d) v→Rd (C4 κ d .dead) w (.sl sz e l) v:=fun v hv=>by
  rcases hob with ⟨h1,rfl⟩ | h1
  ·simp only[Rd,h1]at hv
   simp only[Rd,RdD]
   exact .inl ⟨by simp,none,0,hv⟩
  ·refine h1.freeze hv st.keeps.out (fun b hb=>⟨hs.inv.bnd d b hb,?_⟩)
   rintro (⟨q,hq⟩ | hq)
   ·by_cases hqd:q=d
    ·subst hqd;rw[Ar]at hq;cases hq
    ·rw[Bt _ _ hqd]at hq
     exact hqd (hs.inv.inj q d b hq hb)
   ·exact hs.inv.apart d b hb hq
 refine hg (C4 κ d .dead) a w ⟨hs.defers,hs.size,inv,hs.ctx.step inv st,fun j=>Ad0 st hx _ _ (hs.slot j),fun j=>?_⟩
 show ObOK _ w j (bif Nat.beq j d then .non else Aol d (.sl sz e l) (s.h j))
 by_cases hj:j=d
 ·subst hj;rw[show Nat.beq j j=true from Nat.beq_refl j];trivial
 ·rw[show Nat.beq j d=false from by cases hb:Nat.beq j d with | false=>rfl | true=>exact absurd (Nat.eq_of_beq_eq_true hb) hj]
  have hb:=ObOK.step st (fun e=>hj (Option.some.inj e).symm) _ (hs.obj j)
  have h0:=hs.obj j
  show ObOK _ w j (Aol d (.sl sz e l) (s.h j))
  cases hh:s.h j with
  | box m =>
   rw[hh]at h0 hb
   obtain ⟨b,cs,T,fr,e1,e2,e3,e4,e5⟩:=h0
   exact⟨b,cs,T,fr,by show C4 κ d .dead j=_;rw[Bt _ _ hj];exact e1,e2,e3,e4,H5 st hx m cs e5⟩
  | tbox T m =>
   rw[hh]at h0 hb
   obtain ⟨b,cs,fr,e1,e2,e3,e4,e5⟩:=h0
   exact⟨b,cs,fr,by show C4 κ d .dead j=_;rw[Bt _ _ hj];exact e1,e2,e3,e4,H5 st hx m cs e5⟩
  | fresh=>rw[hh]at hb;exact hb
  | non=>rw[hh]at hb;exact hb
  | row sz' e' l'=>rw[hh]at hb;exact hb
  | lit sz' svs=>rw[hh]at hb;exact hb
  | glob sz' x' g'=>rw[hh]at hb;exact hb
  | pin b' n' cap' sz' e' l'=>rw[hh]at hb;exact hb
  | dat v' sz' e' l'=>rw[hh]at hb;exact hb
  | rown sz' e' l' i' cl' =>
   rw[hh]at h0
   obtain ⟨b2,cap2,cs2,T2,fr2,f1,f2,f3,f4,f5,f6,f7,us2,v1,v2,v3,v4⟩:=h0
   refine⟨b2,cap2,cs2,T2,fr2,by show C4 κ d .dead j=_;rw[Bt _ _ hj];exact f1,f2,f3,f4,f5,fun m y hm hy=>?_,f7,us2,v1,v2,H5 st hx cl' us2 v3,v4⟩
   obtain ⟨g0,u,g1,g2⟩:=f6 m y hm hy
   exact⟨g0,u,RdD.keep st.keeps _ _ g1,g2⟩
def Acu (C:Cx) (n:Nat) (I:Nat→Prop) (L:Nat→List (Nat × SV)) (O:Nat→Obs) (i:Nat) (a:Act) (w:World):Prop :=
 ∃ x':{j:Nat // j≤n∧I j},∃ κ,n-x'.1<n-i∧St C.F C.n (mkS (L x'.1) (O x'.1)) κ a w
theorem Be {C:Cx} {k:List KI} {s:SS} {body:Code} (n:Nat) (I:Nat→Prop) (L:Nat→List (Nat × SV)) (O:Nat→Obs) (ρ:List (Nat × Nat)) (h0:I 0) (hsub:Sub C s ρ (L 0) (O 0))
  (h:∀ i,i≤n→I i→G C (.code body::.inv (Acu C n I L O i)::k) (mkS (L i) (O i))):G C (.code (.loop body)::k) s :=
 O6 (α:={j:Nat // j≤n∧I j}) (fun x=>L x.1) (fun x=>O x.1) (fun x=>n-x.1) ⟨0,Nat.zero_le _,h0⟩ ρ hsub (fun x=>h x.1 x.2.1 x.2.2)
theorem Bb {C:Cx} {k:List KI} {s:SS} {n:Nat} {I:Nat→Prop} {L:Nat→List (Nat × SV)} {O:Nat→Obs} {i:Nat} (ρ:List (Nat × Nat)) (h0:I i) (hi:i+1≤n) (h1:I (i+1)) (hsub:Sub C s ρ (L (i+1)) (O (i+1))):G C (.inv (Acu C n I L O i)::k) s :=
 Si (α:={j:Nat // j≤n∧I j}) (L:=fun x=>L x.1) (O:=fun x=>O x.1) (μ:=fun x=>n-x.1) (x:=⟨i,by omega,h0⟩) ⟨i+1,hi,h1⟩ ρ (by simp only;omega) hsub
mutual
def frb (d sz:Nat) (x:SV):SV→SV
 | .ptr k o=>bif Nat.beq k d then .ref sz x o else .ptr k o
 | .agg l=>.agg (Ad1 d sz x l)
 | .tup l=>.tup (Ad1 d sz x l)
 | .ifc t y=>.ifc t (frb d sz x y)
 | .clo f g l=>.clo f (Ad1 d sz x g) (Ad1 d sz x l)
 | y=>y
def Ad1 (d sz:Nat) (x:SV):List SV→List SV
 | []=>[]
 | y::l=>frb d sz x y::Ad1 d sz x l
end
mutual
theorem Aj1 {κ κ':Ka} {w:World} {K:Nat→Prop} {d sz:Nat} {x:SV} (st:Step K κ w κ' w) (hx:∀ o v,Rd κ w (.ptr d o) v→Rd κ' w (.ref sz x o) v):∀ (y:SV) (v:Value),Rd κ w y v→Rd κ' w (frb d sz x y) v
 | .ptr k o,v,h=>by
  unfold frb
  by_cases hk:k=d
  ·subst hk;rw[show Nat.beq k k=true from Nat.beq_refl k];exact hx o v h
  ·rw[show Nat.beq k d=false from by cases hb:Nat.beq k d with | false=>rfl | true=>exact absurd (Nat.eq_of_beq_eq_true hb) hk];exact Rd.step st _ _ h
 | .agg l,v,h=>by
  simp only[Rd]at h
  unfold frb
  simp only[Rd]
  obtain ⟨cs,h1,h2,h3⟩:=h
  exact⟨cs,h1,h2,Qj st hx l cs h3⟩
 | .tup l,v,h=>by
  simp only[Rd]at h
  unfold frb
  simp only[Rd]
  obtain ⟨cs,h1,h3⟩:=h
  exact⟨cs,h1,Qj st hx l cs h3⟩
 | .ifc t y,v,h=>by
  simp only[Rd]at h
  unfold frb
  simp only[Rd]
  obtain ⟨u,h1,h3⟩:=h
  exact⟨u,h1,Aj1 st hx y u h3⟩
 | .clo f g l,v,h=>by
  simp only[Rd]at h
  unfold frb
  simp only[Rd]
  obtain ⟨fs,cs,h1,h2,h3⟩:=h
  exact⟨fs,cs,h1,Qj st hx g fs h2,Qj st hx l cs h3⟩
 | .top,v,h=>by unfold frb;exact Rd.step st _ _ h
 | .val u,v,h=>by unfold frb;exact Rd.step st _ _ h
 | .sl sz e l,v,h=>by unfold frb;exact Rd.step st _ _ h
 | .ref sz z o,v,h=>by unfold frb;exact Rd.step st _ _ h
 | .rpt k sz i o,v,h=>by unfold frb;exact Rd.step st _ _ h
 | .osl k,v,h=>by unfold frb;exact Rd.step st _ _ h
theorem Qj {κ κ':Ka} {w:World} {K:Nat→Prop} {d sz:Nat} {x:SV} (st:Step K κ w κ' w) (hx:∀ o v,Rd κ w (.ptr d o) v→Rd κ' w (.ref sz x o) v):∀ (l:List SV) (vs:List Value),RdL κ w l vs→RdL κ' w (Ad1 d sz x l) vs
 | [],vs,h=>by
  unfold Ad1
  simpa [RdL] using h
 | y::l,vs,h=>by
  simp only[RdL]at h
  unfold Ad1
  simp only[RdL]
  obtain ⟨v,r,h1,h2,h3⟩:=h
  exact⟨v,r,h1,Aj1 st hx y v h2,Qj st hx l r h3⟩
end
def frbO (d sz:Nat) (x:SV):Ob→Ob
 | .box l=>.box (Ad1 d sz x l)
 | o=>o
theorem Akn {κ κ':Ka} {w:World} {d sz:Nat} {l:List SV} {x:SV} (h:ObOK κ w d (.box l)) (hl:cellsOf x=l) (hb:x.boxed=true) (_hd:Lm l=true) (hsz:l.length=sz) (ho:∀ b,b<w.heap.size→¬ Own κ b→¬ Own κ' b)
  (hdead:∀ b,(κ d).block? = some b→b<w.heap.size∧¬ Own κ' b) (hxd:x.data=true) (o:Nat) (v:Value) (hv:Rd κ w (.ptr d o) v):Rd κ' w (.ref sz x o) v:=by
 obtain ⟨b,cs,T,fr,e1,e2,e3,e4,e5⟩:=h
 simp only[Rd,e1]at hv
 obtain ⟨h1,h2⟩:=hdead b (by rw[e1];rfl)
 rw[← hl]at e5
 obtain ⟨u,f1,f2⟩:=Rd.of_cells hb e4 e5
 simp only[Rd,RdD]
 refine⟨b,0,u,by rw[Nat.zero_add];exact hv,h2,h1,RdD.keep ⟨Nat.le_refl _,fun _ _ _=>rfl,ho⟩ _ _ (Rd.data _ _ hxd f1),?_,by rw[f2];exact e4,fun j hj=>?_⟩
 ·have:=e5.length
  rw[← hsz,← hl,← this,← f2]
  simp
 ·rw[Nat.zero_add,cell_of_row w b _ cs.toArray T fr e2,← f2]
theorem Aw {C:Cx} {k:List KI} {s:SS} (d sz:Nat) (x:SV) {l:List SV} (h:s.h d=.box l) (hl:cellsOf x=l) (hc:(x.boxed && x.data && Lm l && Nat.beq l.length sz)=true)
  (hg:G C k ⟨fun i=>frb d sz x (s.σ i),fun j=>bif Nat.beq j d then .non else frbO d sz x (s.h j)⟩):G C k s:=fun κ a w hs=>by
 simp only[Bool.and_eq_true]at hc
 obtain ⟨⟨⟨hb,hxd⟩,hd⟩,hsz⟩:=hc
 have hsz:=Nat.eq_of_beq_eq_true hsz
 have hob:=hs.obj d
 rw[h]at hob
 have st:=Hl (κ:=κ) (w:=w) (some d)
 have inv:=Iu hs.inv (some d)
 have hx:∀ o v,Rd κ w (.ptr d o) v→Rd (C4 κ d .dead) w (.ref sz x o) v:=fun o v hv =>
  Akn hob hl hb hd hsz st.keeps.out (fun b hb=>⟨hs.inv.bnd d b hb,by
   rintro (⟨q,hq⟩ | hq)
   ·by_cases hqd:q=d
    ·subst hqd;change (C4 κ q .dead q).block? = some b at hq;rw[Ar]at hq;cases hq
    ·change (C4 κ d .dead q).block? = some b at hq
     rw[Bt _ _ hqd]at hq
     exact hqd (hs.inv.inj q d b hq hb)
   ·exact hs.inv.apart d b hb hq⟩) hxd o v hv
 refine hg (C4 κ d .dead) a w ⟨hs.defers,hs.size,inv,hs.ctx.step inv st,fun j=>Aj1 st hx _ _ (hs.slot j),fun j=>?_⟩
 show ObOK _ w j (bif Nat.beq j d then .non else frbO d sz x (s.h j))
 by_cases hj:j=d
 ·subst hj;rw[show Nat.beq j j=true from Nat.beq_refl j];trivial
 ·rw[show Nat.beq j d=false from by cases hb:Nat.beq j d with | false=>rfl | true=>exact absurd (Nat.eq_of_beq_eq_true hb) hj]
  have hb:=ObOK.step st (fun e=>hj (Option.some.inj e).symm) _ (hs.obj j)
  have h0:=hs.obj j
  show ObOK _ w j (frbO d sz x (s.h j))
  cases hh:s.h j with
  | box m =>
   rw[hh]at h0 hb
   obtain ⟨b,cs,T,fr,e1,e2,e3,e4,e5⟩:=h0
   exact⟨b,cs,T,fr,by show C4 κ d .dead j=_;rw[Bt _ _ hj];exact e1,e2,e3,e4,Qj st hx m cs e5⟩
  | fresh=>rw[hh]at hb;exact hb
  | non=>rw[hh]at hb;exact hb
  | row sz' e' l'=>rw[hh]at hb;exact hb
  | lit sz' svs=>rw[hh]at hb;exact hb
  | glob sz' x' g'=>rw[hh]at hb;exact hb
  | pin b' n' cap' sz' e' l'=>rw[hh]at hb;exact hb
  | dat v' sz' e' l'=>rw[hh]at hb;exact hb
  | rown sz' e' l' i' cl'=>rw[hh]at hb;exact hb
  | tbox T' m'=>rw[hh]at hb;exact hb
theorem Ao {C:Cx} {k:List KI} {s:SS} (d sz:Nat) {α:Type} (e:α→SV) (h:s.σ d=.val (.slice none 0 0)) (hg:G C k ⟨upd s.σ d (.sl sz e []),s.h⟩):G C k s :=
 G_set d (fun κ w v hv=>by
  rw[h]at hv
  simp only[Rd]at hv
  simp only[Rd,RdD]
  exact .inl ⟨Y,none,0,hv⟩) hg
end Go.Sy
namespace Go.Sy.YtcflgpijohhfbaaGreat
open Go.Proofs
set_option maxRecDepth 100000
theorem ty1:A7 Tryz.prog 1=some ⟨.func,1,[.nilFunc]⟩:=by kernel_rfl
theorem ty2:A7 Tryz.prog 2=some ⟨.int .i64,1,[.int .i64 0]⟩:=by kernel_rfl
theorem ty3:A7 Tryz.prog 3=some ⟨.int .i64,1,[.int .i64 0]⟩:=by kernel_rfl
theorem ty4:A7 Tryz.prog 4=some ⟨.bool,1,[.bool false]⟩:=by kernel_rfl
theorem ty5:A7 Tryz.prog 5=some ⟨.int .u8,1,[.int .u8 0]⟩:=by kernel_rfl
theorem ty9:A7 Tryz.prog 9=some ⟨.string,1,[.string .empty]⟩:=by kernel_rfl
theorem ty20:A7 Tryz.prog 20=some ⟨.iface,1,[.nilIface]⟩:=by kernel_rfl
theorem ty22:A7 Tryz.prog 22=some ⟨.slice 62 17 240 [.int .i64 0,.int .i64 0,.string .empty,.string .empty,.string .empty,.string .empty,.string .empty,.int .u64 0,.int .u32 0,.int .i64 0,.int .i64 0,.int .i64 0,.int .i64 0,.slice none 0 0,.slice none 0 0,.slice none 0 0,.slice none 0 0],1,[.slice none 0 0]⟩:=by kernel_rfl
theorem ty25:A7 Tryz.prog 25=some ⟨.slice 45 5 48 [.int .i64 0,.int .i64 0,.string .empty,.int .u64 0,.int .u32 0],1,[.slice none 0 0]⟩:=by kernel_rfl
theorem ty26:A7 Tryz.prog 26=some ⟨.slice 48 7 80 [.int .i64 0,.int .i64 0,.int .i64 0,.int .i64 0,.int .i64 0,.string .empty,.slice none 0 0],1,[.slice none 0 0]⟩:=by kernel_rfl
theorem ty27:A7 Tryz.prog 27=some ⟨.slice 127 3 24 [.int .i64 0,.int .i64 0,.int .i64 0],1,[.slice none 0 0]⟩:=by kernel_rfl
theorem ty28:A7 Tryz.prog 28=some ⟨.slice 50 6 64 [.int .i64 0,.int .i64 0,.int .i64 0,.int .i64 0,.int .i64 0,.slice none 0 0],1,[.slice none 0 0]⟩:=by kernel_rfl
theorem ty29:A7 Tryz.prog 29=some ⟨.slice 131 4 32 [.int .i64 0,.int .i64 0,.int .i64 0,.int .u64 0],1,[.slice none 0 0]⟩:=by kernel_rfl
theorem ty30:A7 Tryz.prog 30=some ⟨.slice 135 4 48 [.int .i64 0,.int .i64 0,.int .i64 0,.slice none 0 0],1,[.slice none 0 0]⟩:=by kernel_rfl
theorem ty31:A7 Tryz.prog 31=some ⟨.slice 140 5 80 [.int .i64 0,.int .i64 0,.string .empty,.slice none 0 0,.slice none 0 0],1,[.slice none 0 0]⟩:=by kernel_rfl
theorem ty32:A7 Tryz.prog 32=some ⟨.slice 115 5 40 [.int .i64 0,.int .i64 0,.int .i64 0,.int .u32 0,.int .i64 0],1,[.slice none 0 0]⟩:=by kernel_rfl
theorem ty34:A7 Tryz.prog 34=some ⟨.struct [(0,1),(1,1),(2,1),(3,1),(4,1),(5,1),(6,1),(7,1)],8,[.slice none 0 0,.slice none 0 0,.slice none 0 0,.slice none 0 0,.slice none 0 0,.slice none 0 0,.slice none 0 0,.slice none 0 0]⟩:=by kernel_rfl
theorem ty35:A7 Tryz.prog 35=some ⟨.int .i64,1,[.int .i64 0]⟩:=by kernel_rfl
theorem ty38:A7 Tryz.prog 38=some ⟨.slice 91 4 32 [.int .i64 0,.int .i64 0,.int .i64 0,.int .u32 0],1,[.slice none 0 0]⟩:=by kernel_rfl
theorem ty42:A7 Tryz.prog 42=some ⟨.int .u64,1,[.int .u64 0]⟩:=by kernel_rfl
theorem ty43:A7 Tryz.prog 43=some ⟨.int .u32,1,[.int .u32 0]⟩:=by kernel_rfl
theorem ty45:A7 Tryz.prog 45=some ⟨.struct [(0,1),(1,1),(2,1),(3,1),(4,1)],5,[.int .i64 0,.int .i64 0,.string .empty,.int .u64 0,.int .u32 0]⟩:=by kernel_rfl
theorem ty46:A7 Tryz.prog 46=some ⟨.slice 3 1 8 [.int .i64 0],1,[.slice none 0 0]⟩:=by kernel_rfl
theorem ty48:A7 Tryz.prog 48=some ⟨.struct [(0,1),(1,1),(2,1),(3,1),(4,1),(5,1),(6,1)],7,[.int .i64 0,.int .i64 0,.int .i64 0,.int .i64 0,.int .i64 0,.string .empty,.slice none 0 0]⟩:=by kernel_rfl
theorem ty50:A7 Tryz.prog 50=some ⟨.struct [(0,1),(1,1),(2,1),(3,1),(4,1),(5,1)],6,[.int .i64 0,.int .i64 0,.int .i64 0,.int .i64 0,.int .i64 0,.slice none 0 0]⟩:=by kernel_rfl
theorem ty51:A7 Tryz.prog 51=some ⟨.slice 59 6 80 [.int .i64 0,.int .i64 0,.int .i64 0,.int .i64 0,.slice none 0 0,.slice none 0 0],1,[.slice none 0 0]⟩:=by kernel_rfl
theorem ty54:A7 Tryz.prog 54=some ⟨.slice 5 1 1 [.int .u8 0],1,[.slice none 0 0]⟩:=by kernel_rfl
theorem ty57:A7 Tryz.prog 57=some ⟨.slice 4 1 1 [.bool false],1,[.slice none 0 0]⟩:=by kernel_rfl
theorem ty59:A7 Tryz.prog 59=some ⟨.struct [(0,1),(1,1),(2,1),(3,1),(4,1),(5,1)],6,[.int .i64 0,.int .i64 0,.int .i64 0,.int .i64 0,.slice none 0 0,.slice none 0 0]⟩:=by kernel_rfl
theorem ty60:A7 Tryz.prog 60=some ⟨.slice 43 1 4 [.int .u32 0],1,[.slice none 0 0]⟩:=by kernel_rfl
theorem ty62:A7 Tryz.prog 62=some ⟨.struct [(0,1),(1,1),(2,1),(3,1),(4,1),(5,1),(6,1),(7,1),(8,1),(9,1),(10,1),(11,1),(12,1),(13,1),(14,1),(15,1),(16,1)],17,[.int .i64 0,.int .i64 0,.string .empty,.string .empty,.string .empty,.string .empty,.string .empty,.int .u64 0,.int .u32 0,.int .i64 0,.int .i64 0,.int .i64 0,.int .i64 0,.slice none 0 0,.slice none 0 0,.slice none 0 0,.slice none 0 0]⟩:=by kernel_rfl
theorem ty63:A7 Tryz.prog 63=some ⟨.ptr,1,[.pointer none]⟩:=by kernel_rfl
theorem ty68:A7 Tryz.prog 68=some ⟨.struct [(0,0),(0,1)],1,[.int .u32 0]⟩:=by kernel_rfl
theorem ty72:A7 Tryz.prog 72=some ⟨.struct [(0,0),(0,2)],2,[.int .i32 0,.int .u32 0]⟩:=by kernel_rfl
theorem ty74:A7 Tryz.prog 74=some ⟨.struct [(0,0),(0,1),(1,2)],3,[.int .u32 0,.int .i32 0,.int .u32 0]⟩:=by kernel_rfl
theorem ty76:A7 Tryz.prog 76=some ⟨.struct [(0,3),(3,1),(4,8),(12,1),(13,1)],14,[.int .u32 0,.int .i32 0,.int .u32 0,.slice none 0 0,.slice none 0 0,.slice none 0 0,.slice none 0 0,.slice none 0 0,.slice none 0 0,.slice none 0 0,.slice none 0 0,.slice none 0 0,.int .i64 0,.int .i64 0]⟩:=by kernel_rfl
theorem ty80:A7 Tryz.prog 80=some ⟨.ptr,1,[.pointer none]⟩:=by kernel_rfl
theorem ty81:A7 Tryz.prog 81=some ⟨.array 57 2 1,2,[.slice none 0 0,.slice none 0 0]⟩:=by kernel_rfl
theorem ty82:A7 Tryz.prog 82=some ⟨.slice 93 7 56 [.int .i64 0,.int .i64 0,.int .i64 0,.int .i64 0,.int .i64 0,.int .u32 0,.int .i64 0],1,[.slice none 0 0]⟩:=by kernel_rfl
theorem ty84:A7 Tryz.prog 84=some ⟨.struct [(0,8),(8,2),(10,1)],11,[.slice none 0 0,.slice none 0 0,.slice none 0 0,.slice none 0 0,.slice none 0 0,.slice none 0 0,.slice none 0 0,.slice none 0 0,.slice none 0 0,.slice none 0 0,.slice none 0 0]⟩:=by kernel_rfl
theorem ty89:A7 Tryz.prog 89=some ⟨.struct [(0,1),(1,1)],2,[.int .i64 0,.int .i64 0]⟩:=by kernel_rfl
theorem ty91:A7 Tryz.prog 91=some ⟨.struct [(0,1),(1,1),(2,1),(3,1)],4,[.int .i64 0,.int .i64 0,.int .i64 0,.int .u32 0]⟩:=by kernel_rfl
theorem ty93:A7 Tryz.prog 93=some ⟨.struct [(0,2),(2,4),(6,1)],7,[.int .i64 0,.int .i64 0,.int .i64 0,.int .i64 0,.int .i64 0,.int .u32 0,.int .i64 0]⟩:=by kernel_rfl
theorem ty95:A7 Tryz.prog 95=some ⟨.ptr,1,[.pointer none]⟩:=by kernel_rfl
theorem ty98:A7 Tryz.prog 98=some ⟨.slice 286 3 40 [.int .i64 0,.int .i64 0,.slice none 0 0],1,[.slice none 0 0]⟩:=by kernel_rfl
theorem ty101:A7 Tryz.prog 101=some ⟨.func,1,[.nilFunc]⟩:=by kernel_rfl
theorem ty102:A7 Tryz.prog 102=some ⟨.slice 173 7 72 [.int .i64 0,.int .i64 0,.int .i64 0,.int .u64 0,.int .u64 0,.int .i64 0,.slice none 0 0],1,[.slice none 0 0]⟩:=by kernel_rfl
theorem ty106:A7 Tryz.prog 106=some ⟨.struct [(0,1),(1,1),(2,1),(3,1)],4,[.int .u64 0,.int .u64 0,.int .i64 0,.slice none 0 0]⟩:=by kernel_rfl
theorem ty108:A7 Tryz.prog 108=some ⟨.func,1,[.nilFunc]⟩:=by kernel_rfl
theorem ty111:A7 Tryz.prog 111=some ⟨.struct [(0,1),(1,1),(2,1),(3,1),(4,1),(5,1),(6,1)],7,[.int .i64 0,.int .i64 0,.int .i64 0,.int .i64 0,.int .u32 0,.int .u32 0,.slice none 0 0]⟩:=by kernel_rfl
theorem ty113:A7 Tryz.prog 113=some ⟨.struct [(0,1),(1,1)],2,[.int .u32 0,.int .i64 0]⟩:=by kernel_rfl
theorem ty115:A7 Tryz.prog 115=some ⟨.struct [(0,1),(1,1),(2,1),(3,2)],5,[.int .i64 0,.int .i64 0,.int .i64 0,.int .u32 0,.int .i64 0]⟩:=by kernel_rfl
theorem ty120:A7 Tryz.prog 120=some ⟨.struct [(0,8)],8,[.slice none 0 0,.slice none 0 0,.slice none 0 0,.slice none 0 0,.slice none 0 0,.slice none 0 0,.slice none 0 0,.slice none 0 0]⟩:=by kernel_rfl
theorem ty122:A7 Tryz.prog 122=some ⟨.func,1,[.nilFunc]⟩:=by kernel_rfl
theorem ty124:A7 Tryz.prog 124=some ⟨.func,1,[.nilFunc]⟩:=by kernel_rfl
theorem ty127:A7 Tryz.prog 127=some ⟨.struct [(0,1),(1,1),(2,1)],3,[.int .i64 0,.int .i64 0,.int .i64 0]⟩:=by kernel_rfl
theorem ty128:A7 Tryz.prog 128=some ⟨.func,1,[.nilFunc]⟩:=by kernel_rfl
theorem ty131:A7 Tryz.prog 131=some ⟨.struct [(0,1),(1,1),(2,1),(3,1)],4,[.int .i64 0,.int .i64 0,.int .i64 0,.int .u64 0]⟩:=by kernel_rfl
theorem ty132:A7 Tryz.prog 132=some ⟨.func,1,[.nilFunc]⟩:=by kernel_rfl
theorem ty135:A7 Tryz.prog 135=some ⟨.struct [(0,1),(1,1),(2,1),(3,1)],4,[.int .i64 0,.int .i64 0,.int .i64 0,.slice none 0 0]⟩:=by kernel_rfl
theorem ty137:A7 Tryz.prog 137=some ⟨.func,1,[.nilFunc]⟩:=by kernel_rfl
theorem ty140:A7 Tryz.prog 140=some ⟨.struct [(0,1),(1,1),(2,1),(3,1),(4,1)],5,[.int .i64 0,.int .i64 0,.string .empty,.slice none 0 0,.slice none 0 0]⟩:=by kernel_rfl
theorem ty141:A7 Tryz.prog 141=some ⟨.func,1,[.nilFunc]⟩:=by kernel_rfl
theorem ty143:A7 Tryz.prog 143=some ⟨.func,1,[.nilFunc]⟩:=by kernel_rfl
theorem ty151:A7 Tryz.prog 151=some ⟨.slice 154 3 24 [.int .i64 0,.int .i64 0,.int .u32 0],1,[.slice none 0 0]⟩:=by kernel_rfl
theorem ty154:A7 Tryz.prog 154=some ⟨.struct [(0,1),(1,1),(2,1)],3,[.int .i64 0,.int .i64 0,.int .u32 0]⟩:=by kernel_rfl
theorem ty159:A7 Tryz.prog 159=some ⟨.ptr,1,[.pointer none]⟩:=by kernel_rfl
theorem ty161:A7 Tryz.prog 161=some ⟨.struct [(0,1),(1,3),(4,1)],5,[.slice none 0 0,.int .u32 0,.int .i32 0,.int .u32 0,.slice none 0 0]⟩:=by kernel_rfl
theorem ty162:A7 Tryz.prog 162=some ⟨.slice 227 1 24 [.slice none 0 0],1,[.slice none 0 0]⟩:=by kernel_rfl
theorem ty163:A7 Tryz.prog 163=some ⟨.slice 102 1 24 [.slice none 0 0],1,[.slice none 0 0]⟩:=by kernel_rfl
theorem ty166:A7 Tryz.prog 166=some ⟨.struct [(0,0),(0,0),(0,1)],1,[.int .i64 0]⟩:=by kernel_rfl
theorem ty167:A7 Tryz.prog 167=some ⟨.array 166 64 1,64,[.int .i64 0,.int .i64 0,.int .i64 0,.int .i64 0,.int .i64 0,.int .i64 0,.int .i64 0,.int .i64 0,.int .i64 0,.int .i64 0,.int .i64 0,.int .i64 0,.int .i64 0,.int .i64 0,.int .i64 0,.int .i64 0,.int .i64 0,.int .i64 0,.int .i64 0,.int .i64 0,.int .i64 0,.int .i64 0,.int .i64 0,.int .i64 0,.int .i64 0,.int .i64 0,.int .i64 0,.int .i64 0,.int .i64 0,.int .i64 0,.int .i64 0,.int .i64 0,.int .i64 0,.int .i64 0,.int .i64 0,.int .i64 0,.int .i64 0,.int .i64 0,.int .i64 0,.int .i64 0,.int .i64 0,.int .i64 0,.int .i64 0,.int .i64 0,.int .i64 0,.int .i64 0,.int .i64 0,.int .i64 0,.int .i64 0,.int .i64 0,.int .i64 0,.int .i64 0,.int .i64 0,.int .i64 0,.int .i64 0,.int .i64 0,.int .i64 0,.int .i64 0,.int .i64 0,.int .i64 0,.int .i64 0,.int .i64 0,.int .i64 0,.int .i64 0]⟩:=by kernel_rfl
theorem ty169:A7 Tryz.prog 169=some ⟨.struct [(0,8),(8,1),(9,1),(10,1),(11,1),(12,1),(13,64)],77,[.slice none 0 0,.slice none 0 0,.slice none 0 0,.slice none 0 0,.slice none 0 0,.slice none 0 0,.slice none 0 0,.slice none 0 0,.pointer none,.slice none 0 0,.slice none 0 0,.int .i64 0,.int .i64 0,.int .i64 0,.int .i64 0,.int .i64 0,.int .i64 0,.int .i64 0,.int .i64 0,.int .i64 0,.int .i64 0,.int .i64 0,.int .i64 0,.int .i64 0,.int .i64 0,.int .i64 0,.int .i64 0,.int .i64 0,.int .i64 0,.int .i64 0,.int .i64 0,.int .i64 0,.int .i64 0,.int .i64 0,.int .i64 0,.int .i64 0,.int .i64 0,.int .i64 0,.int .i64 0,.int .i64 0,.int .i64 0,.int .i64 0,.int .i64 0,.int .i64 0,.int .i64 0,.int .i64 0,.int .i64 0,.int .i64 0,.int .i64 0,.int .i64 0,.int .i64 0,.int .i64 0,.int .i64 0,.int .i64 0,.int .i64 0,.int .i64 0,.int .i64 0,.int .i64 0,.int .i64 0,.int .i64 0,.int .i64 0,.int .i64 0,.int .i64 0,.int .i64 0,.int .i64 0,.int .i64 0,.int .i64 0,.int .i64 0,.int .i64 0,.int .i64 0,.int .i64 0,.int .i64 0,.int .i64 0,.int .i64 0,.int .i64 0,.int .i64 0,.int .i64 0]⟩:=by kernel_rfl
theorem ty173:A7 Tryz.prog 173=some ⟨.struct [(0,1),(1,1),(2,1),(3,4)],7,[.int .i64 0,.int .i64 0,.int .i64 0,.int .u64 0,.int .u64 0,.int .i64 0,.slice none 0 0]⟩:=by kernel_rfl
theorem ty177:A7 Tryz.prog 177=some ⟨.func,1,[.nilFunc]⟩:=by kernel_rfl
theorem ty183:A7 Tryz.prog 183=some ⟨.func,1,[.nilFunc]⟩:=by kernel_rfl
theorem ty185:A7 Tryz.prog 185=some ⟨.int .u64,1,[.int .u64 0]⟩:=by kernel_rfl
theorem ty188:A7 Tryz.prog 188=some ⟨.ptr,1,[.pointer none]⟩:=by kernel_rfl
theorem ty195:A7 Tryz.prog 195=some ⟨.func,1,[.nilFunc]⟩:=by kernel_rfl
theorem ty203:A7 Tryz.prog 203=some ⟨.func,1,[.nilFunc]⟩:=by kernel_rfl
theorem ty209:A7 Tryz.prog 209=some ⟨.ptr,1,[.pointer none]⟩:=by kernel_rfl
theorem ty227:A7 Tryz.prog 227=some ⟨.slice 292 3 24 [.int .u64 0,.int .i64 0,.int .i64 0],1,[.slice none 0 0]⟩:=by kernel_rfl
theorem ty228:A7 Tryz.prog 228=some ⟨.slice 234 9 104 [.int .i64 0,.int .i64 0,.int .i64 0,.slice none 0 0,.int .u64 0,.int .u64 0,.int .i64 0,.slice none 0 0,.int .i64 0],1,[.slice none 0 0]⟩:=by kernel_rfl
theorem ty234:A7 Tryz.prog 234=some ⟨.struct [(0,1),(1,1),(2,1),(3,1),(4,4),(8,1)],9,[.int .i64 0,.int .i64 0,.int .i64 0,.slice none 0 0,.int .u64 0,.int .u64 0,.int .i64 0,.slice none 0 0,.int .i64 0]⟩:=by kernel_rfl
theorem ty243:A7 Tryz.prog 243=some ⟨.ptr,1,[.pointer none]⟩:=by kernel_rfl
theorem ty245:A7 Tryz.prog 245=some ⟨.ptr,1,[.pointer none]⟩:=by kernel_rfl
theorem ty249:A7 Tryz.prog 249=some ⟨.slice 3 1 8 [.int .i64 0],1,[.slice none 0 0]⟩:=by kernel_rfl
theorem ty259:A7 Tryz.prog 259=some ⟨.func,1,[.nilFunc]⟩:=by kernel_rfl
theorem ty267:A7 Tryz.prog 267=some ⟨.struct [(0,8),(8,1),(9,1),(10,1),(11,1)],12,[.slice none 0 0,.slice none 0 0,.slice none 0 0,.slice none 0 0,.slice none 0 0,.slice none 0 0,.slice none 0 0,.slice none 0 0,.slice none 0 0,.slice none 0 0,.slice none 0 0,.slice none 0 0]⟩:=by kernel_rfl
theorem ty268:A7 Tryz.prog 268=some ⟨.func,1,[.nilFunc]⟩:=by kernel_rfl
theorem ty286:A7 Tryz.prog 286=some ⟨.struct [(0,1),(1,1),(2,1)],3,[.int .i64 0,.int .i64 0,.slice none 0 0]⟩:=by kernel_rfl
theorem ty292:A7 Tryz.prog 292=some ⟨.struct [(0,1),(1,1),(2,1)],3,[.int .u64 0,.int .i64 0,.int .i64 0]⟩:=by kernel_rfl
theorem ty294:A7 Tryz.prog 294=some ⟨.func,1,[.nilFunc]⟩:=by kernel_rfl
theorem ty299:A7 Tryz.prog 299=some ⟨.ptr,1,[.pointer none]⟩:=by kernel_rfl
theorem ty304:A7 Tryz.prog 304=some ⟨.struct [(0,8)],8,[.slice none 0 0,.slice none 0 0,.slice none 0 0,.slice none 0 0,.slice none 0 0,.slice none 0 0,.slice none 0 0,.slice none 0 0]⟩:=by kernel_rfl
theorem ty305:A7 Tryz.prog 305=some ⟨.func,1,[.nilFunc]⟩:=by kernel_rfl
theorem ty312:A7 Tryz.prog 312=some ⟨.array 3 2 1,2,[.int .i64 0,.int .i64 0]⟩:=by kernel_rfl
theorem ty319:A7 Tryz.prog 319=some ⟨.func,1,[.nilFunc]⟩:=by kernel_rfl
theorem ty325:A7 Tryz.prog 325=some ⟨.func,1,[.nilFunc]⟩:=by kernel_rfl
theorem ty329:A7 Tryz.prog 329=some ⟨.ptr,1,[.pointer none]⟩:=by kernel_rfl
theorem ty331:A7 Tryz.prog 331=some ⟨.slice 334 3 24 [.int .i64 0,.int .i64 0,.int .i64 0],1,[.slice none 0 0]⟩:=by kernel_rfl
theorem ty334:A7 Tryz.prog 334=some ⟨.struct [(0,1),(1,1),(2,1)],3,[.int .i64 0,.int .i64 0,.int .i64 0]⟩:=by kernel_rfl
theorem ty338:A7 Tryz.prog 338=some ⟨.slice 340 5 40 [.int .i64 0,.int .i64 0,.int .i64 0,.int .i64 0,.int .i64 0],1,[.slice none 0 0]⟩:=by kernel_rfl
theorem ty340:A7 Tryz.prog 340=some ⟨.struct [(0,1),(1,1),(2,1),(3,1),(4,1)],5,[.int .i64 0,.int .i64 0,.int .i64 0,.int .i64 0,.int .i64 0]⟩:=by kernel_rfl
theorem ty344:A7 Tryz.prog 344=some ⟨.ptr,1,[.pointer none]⟩:=by kernel_rfl
theorem ty349:A7 Tryz.prog 349=some ⟨.struct [(0,8),(8,1),(9,1),(10,1),(11,1)],12,[.slice none 0 0,.slice none 0 0,.slice none 0 0,.slice none 0 0,.slice none 0 0,.slice none 0 0,.slice none 0 0,.slice none 0 0,.slice none 0 0,.int .i64 0,.int .i64 0,.slice none 0 0]⟩:=by kernel_rfl
theorem ty357:A7 Tryz.prog 357=some ⟨.struct [(0,8)],8,[.slice none 0 0,.slice none 0 0,.slice none 0 0,.slice none 0 0,.slice none 0 0,.slice none 0 0,.slice none 0 0,.slice none 0 0]⟩:=by kernel_rfl
theorem ty361:A7 Tryz.prog 361=some ⟨.ptr,1,[.pointer none]⟩:=by kernel_rfl
theorem ty363:A7 Tryz.prog 363=some ⟨.ptr,1,[.pointer none]⟩:=by kernel_rfl
theorem ty384:A7 Tryz.prog 384=some ⟨.func,1,[.nilFunc]⟩:=by kernel_rfl
theorem ty387:A7 Tryz.prog 387=some ⟨.func,1,[.nilFunc]⟩:=by kernel_rfl
theorem ty394:A7 Tryz.prog 394=some ⟨.iface,1,[.nilIface]⟩:=by kernel_rfl
theorem ty410:A7 Tryz.prog 410=some ⟨.ptr,1,[.pointer none]⟩:=by kernel_rfl
theorem ty412:A7 Tryz.prog 412=some ⟨.struct [(0,7),(7,1)],8,[.int .i64 0,.int .i64 0,.int .i64 0,.int .i64 0,.int .u32 0,.int .u32 0,.slice none 0 0,.int .i64 0]⟩:=by kernel_rfl
theorem ty414:A7 Tryz.prog 414=some ⟨.struct [(0,8),(8,1)],9,[.int .i64 0,.int .i64 0,.int .i64 0,.int .i64 0,.int .u32 0,.int .u32 0,.slice none 0 0,.int .i64 0,.int .i64 0]⟩:=by kernel_rfl
theorem ty428:A7 Tryz.prog 428=some ⟨.array 3 4 1,4,[.int .i64 0,.int .i64 0,.int .i64 0,.int .i64 0]⟩:=by kernel_rfl
theorem tq45:Lk Tryz.prog 45=some [.int .i64,.int .i64,.string,.int .u64,.int .u32]:=by kernel_rfl
theorem tq89:Lk Tryz.prog 89=some [.int .i64,.int .i64]:=by kernel_rfl
theorem tq91:Lk Tryz.prog 91=some [.int .i64,.int .i64,.int .i64,.int .u32]:=by kernel_rfl
theorem tq113:Lk Tryz.prog 113=some [.int .u32,.int .i64]:=by kernel_rfl
theorem tq127:Lk Tryz.prog 127=some [.int .i64,.int .i64,.int .i64]:=by kernel_rfl
theorem tq131:Lk Tryz.prog 131=some [.int .i64,.int .i64,.int .i64,.int .u64]:=by kernel_rfl
theorem tq154:Lk Tryz.prog 154=some [.int .i64,.int .i64,.int .u32]:=by kernel_rfl
theorem tq292:Lk Tryz.prog 292=some [.int .u64,.int .i64,.int .i64]:=by kernel_rfl
theorem tq334:Lk Tryz.prog 334=some [.int .i64,.int .i64,.int .i64]:=by kernel_rfl
theorem tq340:Lk Tryz.prog 340=some [.int .i64,.int .i64,.int .i64,.int .i64,.int .i64]:=by kernel_rfl
def tab:Tr TI:=(.nd 132 (⟨.func,1,[.nilFunc]⟩) (.nd 60 (⟨.slice 43 1 4 [.int .u32 0],1,[.slice none 0 0]⟩) (.nd 31 (⟨.slice 140 5 80 [.int .i64 0,.int .i64 0,.string .empty,.slice none 0 0,.slice none 0 0],1,[.slice none 0 0]⟩) (.nd 22 (⟨.slice 62 17 240 [.int .i64 0,.int .i64 0,.string .empty,.string .empty,.string .empty,.string .empty,.string .empty,.int .u64 0,.int .u32 0,.int .i64 0,.int .i64 0,.int .i64 0,.int .i64 0,.slice none 0 0,.slice none 0 0,.slice none 0 0,.slice none 0 0],1,[.slice none 0 0]⟩) (.nd 4 (⟨.bool,1,[.bool false]⟩) (.nd 2 (⟨.int .i64,1,[.int .i64 0]⟩) (.nd 1 (⟨.func,1,[.nilFunc]⟩) .lf .lf) (.nd 3 (⟨.int .i64,1,[.int .i64 0]⟩) .lf .lf)) (.nd 9 (⟨.string,1,[.string .empty]⟩) (.nd 5 (⟨.int .u8,1,[.int .u8 0]⟩) .lf .lf) (.nd 20 (⟨.iface,1,[.nilIface]⟩) .lf .lf))) (.nd 28 (⟨.slice 50 6 64 [.int .i64 0,.int .i64 0,.int .i64 0,.int .i64 0,.int .i64 0,.slice none 0 0],1,[.slice none 0 0]⟩) (.nd 26 (⟨.slice 48 7 80 [.int .i64 0,.int .i64 0,.int .i64 0,.int .i64 0,.int .i64 0,.string .empty,.slice none 0 0],1,[.slice none 0 0]⟩) (.nd 25 (⟨.slice 45 5 48 [.int .i64 0,.int .i64 0,.string .empty,.int .u64 0,.int .u32 0],1,[.slice none 0 0]⟩) .lf .lf) (.nd 27 (⟨.slice 127 3 24 [.int .i64 0,.int .i64 0,.int .i64 0],1,[.slice none 0 0]⟩) .lf .lf)) (.nd 30 (⟨.slice 135 4 48 [.int .i64 0,.int .i64 0,.int .i64 0,.slice none 0 0],1,[.slice none 0 0]⟩) (.nd 29 (⟨.slice 131 4 32 [.int .i64 0,.int .i64 0,.int .i64 0,.int .u64 0],1,[.slice none 0 0]⟩) .lf .lf) .lf))) (.nd 46 (⟨.slice 3 1 8 [.int .i64 0],1,[.slice none 0 0]⟩) (.nd 38 (⟨.slice 91 4 32 [.int .i64 0,.int .i64 0,.int .i64 0,.int .u32 0],1,[.slice none 0 0]⟩) (.nd 34 (⟨.struct [(0,1),(1,1),(2,1),(3,1),(4,1),(5,1),(6,1),(7,1)],8,[.slice none 0 0,.slice none 0 0,.slice none 0 0,.slice none 0 0,.slice none 0 0,.slice none 0 0,.slice none 0 0,.slice none 0 0]⟩) (.nd 32 (⟨.slice 115 5 40 [.int .i64 0,.int .i64 0,.int .i64 0,.int .u32 0,.int .i64 0],1,[.slice none 0 0]⟩) .lf .lf) (.nd 35 (⟨.int .i64,1,[.int .i64 0]⟩) .lf .lf)) (.nd 43 (⟨.int .u32,1,[.int .u32 0]⟩) (.nd 42 (⟨.int .u64,1,[.int .u64 0]⟩) .lf .lf) (.nd 45 (⟨.struct [(0,1),(1,1),(2,1),(3,1),(4,1)],5,[.int .i64 0,.int .i64 0,.string .empty,.int .u64 0,.int .u32 0]⟩) .lf .lf))) (.nd 54 (⟨.slice 5 1 1 [.int .u8 0],1,[.slice none 0 0]⟩) (.nd 50 (⟨.struct [(0,1),(1,1),(2,1),(3,1),(4,1),(5,1)],6,[.int .i64 0,.int .i64 0,.int .i64 0,.int .i64 0,.int .i64 0,.slice none 0 0]⟩) (.nd 48 (⟨.struct [(0,1),(1,1),(2,1),(3,1),(4,1),(5,1),(6,1)],7,[.int .i64 0,.int .i64 0,.int .i64 0,.int .i64 0,.int .i64 0,.string .empty,.slice none 0 0]⟩) .lf .lf) (.nd 51 (⟨.slice 59 6 80 [.int .i64 0,.int .i64 0,.int .i64 0,.int .i64 0,.slice none 0 0,.slice none 0 0],1,[.slice none 0 0]⟩) .lf .lf)) (.nd 59 (⟨.struct [(0,1),(1,1),(2,1),(3,1),(4,1),(5,1)],6,[.int .i64 0,.int .i64 0,.int .i64 0,.int .i64 0,.slice none 0 0,.slice none 0 0]⟩) (.nd 57 (⟨.slice 4 1 1 [.bool false],1,[.slice none 0 0]⟩) .lf .lf) .lf)))) (.nd 98 (⟨.slice 286 3 40 [.int .i64 0,.int .i64 0,.slice none 0 0],1,[.slice none 0 0]⟩) (.nd 81 (⟨.array 57 2 1,2,[.slice none 0 0,.slice none 0 0]⟩) (.nd 72 (⟨.struct [(0,0),(0,2)],2,[.int .i32 0,.int .u32 0]⟩) (.nd 63 (⟨.ptr,1,[.pointer none]⟩) (.nd 62 (⟨.struct [(0,1),(1,1),(2,1),(3,1),(4,1),(5,1),(6,1),(7,1),(8,1),(9,1),(10,1),(11,1),(12,1),(13,1),(14,1),(15,1),(16,1)],17,[.int .i64 0,.int .i64 0,.string .empty,.string .empty,.string .empty,.string .empty,.string .empty,.int .u64 0,.int .u32 0,.int .i64 0,.int .i64 0,.int .i64 0,.int .i64 0,.slice none 0 0,.slice none 0 0,.slice none 0 0,.slice none 0 0]⟩) .lf .lf) (.nd 68 (⟨.struct [(0,0),(0,1)],1,[.int .u32 0]⟩) .lf .lf)) (.nd 76 (⟨.struct [(0,3),(3,1),(4,8),(12,1),(13,1)],14,[.int .u32 0,.int .i32 0,.int .u32 0,.slice none 0 0,.slice none 0 0,.slice none 0 0,.slice none 0 0,.slice none 0 0,.slice none 0 0,.slice none 0 0,.slice none 0 0,.slice none 0 0,.int .i64 0,.int .i64 0]⟩) (.nd 74 (⟨.struct [(0,0),(0,1),(1,2)],3,[.int .u32 0,.int .i32 0,.int .u32 0]⟩) .lf .lf) (.nd 80 (⟨.ptr,1,[.pointer none]⟩) .lf .lf))) (.nd 91 (⟨.struct [(0,1),(1,1),(2,1),(3,1)],4,[.int .i64 0,.int .i64 0,.int .i64 0,.int .u32 0]⟩) (.nd 84 (⟨.struct [(0,8),(8,2),(10,1)],11,[.slice none 0 0,.slice none 0 0,.slice none 0 0,.slice none 0 0,.slice none 0 0,.slice none 0 0,.slice none 0 0,.slice none 0 0,.slice none 0 0,.slice none 0 0,.slice none 0 0]⟩) (.nd 82 (⟨.slice 93 7 56 [.int .i64 0,.int .i64 0,.int .i64 0,.int .i64 0,.int .i64 0,.int .u32 0,.int .i64 0],1,[.slice none 0 0]⟩) .lf .lf) (.nd 89 (⟨.struct [(0,1),(1,1)],2,[.int .i64 0,.int .i64 0]⟩) .lf .lf)) (.nd 95 (⟨.ptr,1,[.pointer none]⟩) (.nd 93 (⟨.struct [(0,2),(2,4),(6,1)],7,[.int .i64 0,.int .i64 0,.int .i64 0,.int .i64 0,.int .i64 0,.int .u32 0,.int .i64 0]⟩) .lf .lf) .lf))) (.nd 115 (⟨.struct [(0,1),(1,1),(2,1),(3,2)],5,[.int .i64 0,.int .i64 0,.int .i64 0,.int .u32 0,.int .i64 0]⟩) (.nd 108 (⟨.func,1,[.nilFunc]⟩) (.nd 102 (⟨.slice 173 7 72 [.int .i64 0,.int .i64 0,.int .i64 0,.int .u64 0,.int .u64 0,.int .i64 0,.slice none 0 0],1,[.slice none 0 0]⟩) (.nd 101 (⟨.func,1,[.nilFunc]⟩) .lf .lf) (.nd 106 (⟨.struct [(0,1),(1,1),(2,1),(3,1)],4,[.int .u64 0,.int .u64 0,.int .i64 0,.slice none 0 0]⟩) .lf .lf)) (.nd 113 (⟨.struct [(0,1),(1,1)],2,[.int .u32 0,.int .i64 0]⟩) (.nd 111 (⟨.struct [(0,1),(1,1),(2,1),(3,1),(4,1),(5,1),(6,1)],7,[.int .i64 0,.int .i64 0,.int .i64 0,.int .i64 0,.int .u32 0,.int .u32 0,.slice none 0 0]⟩) .lf .lf) .lf)) (.nd 127 (⟨.struct [(0,1),(1,1),(2,1)],3,[.int .i64 0,.int .i64 0,.int .i64 0]⟩) (.nd 122 (⟨.func,1,[.nilFunc]⟩) (.nd 120 (⟨.struct [(0,8)],8,[.slice none 0 0,.slice none 0 0,.slice none 0 0,.slice none 0 0,.slice none 0 0,.slice none 0 0,.slice none 0 0,.slice none 0 0]⟩) .lf .lf) (.nd 124 (⟨.func,1,[.nilFunc]⟩) .lf .lf)) (.nd 131 (⟨.struct [(0,1),(1,1),(2,1),(3,1)],4,[.int .i64 0,.int .i64 0,.int .i64 0,.int .u64 0]⟩) (.nd 128 (⟨.func,1,[.nilFunc]⟩) .lf .lf) .lf))))) (.nd 259 (⟨.func,1,[.nilFunc]⟩) (.nd 173 (⟨.struct [(0,1),(1,1),(2,1),(3,4)],7,[.int .i64 0,.int .i64 0,.int .i64 0,.int .u64 0,.int .u64 0,.int .i64 0,.slice none 0 0]⟩) (.nd 159 (⟨.ptr,1,[.pointer none]⟩) (.nd 141 (⟨.func,1,[.nilFunc]⟩) (.nd 137 (⟨.func,1,[.nilFunc]⟩) (.nd 135 (⟨.struct [(0,1),(1,1),(2,1),(3,1)],4,[.int .i64 0,.int .i64 0,.int .i64 0,.slice none 0 0]⟩) .lf .lf) (.nd 140 (⟨.struct [(0,1),(1,1),(2,1),(3,1),(4,1)],5,[.int .i64 0,.int .i64 0,.string .empty,.slice none 0 0,.slice none 0 0]⟩) .lf .lf)) (.nd 151 (⟨.slice 154 3 24 [.int .i64 0,.int .i64 0,.int .u32 0],1,[.slice none 0 0]⟩) (.nd 143 (⟨.func,1,[.nilFunc]⟩) .lf .lf) (.nd 154 (⟨.struct [(0,1),(1,1),(2,1)],3,[.int .i64 0,.int .i64 0,.int .u32 0]⟩) .lf .lf))) (.nd 166 (⟨.struct [(0,0),(0,0),(0,1)],1,[.int .i64 0]⟩) (.nd 162 (⟨.slice 227 1 24 [.slice none 0 0],1,[.slice none 0 0]⟩) (.nd 161 (⟨.struct [(0,1),(1,3),(4,1)],5,[.slice none 0 0,.int .u32 0,.int .i32 0,.int .u32 0,.slice none 0 0]⟩) .lf .lf) (.nd 163 (⟨.slice 102 1 24 [.slice none 0 0],1,[.slice none 0 0]⟩) .lf .lf)) (.nd 169 (⟨.struct [(0,8),(8,1),(9,1),(10,1),(11,1),(12,1),(13,64)],77,[.slice none 0 0,.slice none 0 0,.slice none 0 0,.slice none 0 0,.slice none 0 0,.slice none 0 0,.slice none 0 0,.slice none 0 0,.pointer none,.slice none 0 0,.slice none 0 0,.int .i64 0,.int .i64 0,.int .i64 0,.int .i64 0,.int .i64 0,.int .i64 0,.int .i64 0,.int .i64 0,.int .i64 0,.int .i64 0,.int .i64 0,.int .i64 0,.int .i64 0,.int .i64 0,.int .i64 0,.int .i64 0,.int .i64 0,.int .i64 0,.int .i64 0,.int .i64 0,.int .i64 0,.int .i64 0,.int .i64 0,.int .i64 0,.int .i64 0,.int .i64 0,.int .i64 0,.int .i64 0,.int .i64 0,.int .i64 0,.int .i64 0,.int .i64 0,.int .i64 0,.int .i64 0,.int .i64 0,.int .i64 0,.int .i64 0,.int .i64 0,.int .i64 0,.int .i64 0,.int .i64 0,.int .i64 0,.int .i64 0,.int .i64 0,.int .i64 0,.int .i64 0,.int .i64 0,.int .i64 0,.int .i64 0,.int .i64 0,.int .i64 0,.int .i64 0,.int .i64 0,.int .i64 0,.int .i64 0,.int .i64 0,.int .i64 0,.int .i64 0,.int .i64 0,.int .i64 0,.int .i64 0,.int .i64 0,.int .i64 0,.int .i64 0,.int .i64 0,.int .i64 0]⟩) (.nd 167 (⟨.array 166 64 1,64,[.int .i64 0,.int .i64 0,.int .i64 0,.int .i64 0,.int .i64 0,.int .i64 0,.int .i64 0,.int .i64 0,.int .i64 0,.int .i64 0,.int .i64 0,.int .i64 0,.int .i64 0,.int .i64 0,.int .i64 0,.int .i64 0,.int .i64 0,.int .i64 0,.int .i64 0,.int .i64 0,.int .i64 0,.int .i64 0,.int .i64 0,.int .i64 0,.int .i64 0,.int .i64 0,.int .i64 0,.int .i64 0,.int .i64 0,.int .i64 0,.int .i64 0,.int .i64 0,.int .i64 0,.int .i64 0,.int .i64 0,.int .i64 0,.int .i64 0,.int .i64 0,.int .i64 0,.int .i64 0,.int .i64 0,.int .i64 0,.int .i64 0,.int .i64 0,.int .i64 0,.int .i64 0,.int .i64 0,.int .i64 0,.int .i64 0,.int .i64 0,.int .i64 0,.int .i64 0,.int .i64 0,.int .i64 0,.int .i64 0,.int .i64 0,.int .i64 0,.int .i64 0,.int .i64 0,.int .i64 0,.int .i64 0,.int .i64 0,.int .i64 0,.int .i64 0]⟩) .lf .lf) .lf))) (.nd 209 (⟨.ptr,1,[.pointer none]⟩) (.nd 188 (⟨.ptr,1,[.pointer none]⟩) (.nd 183 (⟨.func,1,[.nilFunc]⟩) (.nd 177 (⟨.func,1,[.nilFunc]⟩) .lf .lf) (.nd 185 (⟨.int .u64,1,[.int .u64 0]⟩) .lf .lf)) (.nd 203 (⟨.func,1,[.nilFunc]⟩) (.nd 195 (⟨.func,1,[.nilFunc]⟩) .lf .lf) .lf)) (.nd 243 (⟨.ptr,1,[.pointer none]⟩) (.nd 228 (⟨.slice 234 9 104 [.int .i64 0,.int .i64 0,.int .i64 0,.slice none 0 0,.int .u64 0,.int .u64 0,.int .i64 0,.slice none 0 0,.int .i64 0],1,[.slice none 0 0]⟩) (.nd 227 (⟨.slice 292 3 24 [.int .u64 0,.int .i64 0,.int .i64 0],1,[.slice none 0 0]⟩) .lf .lf) (.nd 234 (⟨.struct [(0,1),(1,1),(2,1),(3,1),(4,4),(8,1)],9,[.int .i64 0,.int .i64 0,.int .i64 0,.slice none 0 0,.int .u64 0,.int .u64 0,.int .i64 0,.slice none 0 0,.int .i64 0]⟩) .lf .lf)) (.nd 249 (⟨.slice 3 1 8 [.int .i64 0],1,[.slice none 0 0]⟩) (.nd 245 (⟨.ptr,1,[.pointer none]⟩) .lf .lf) .lf)))) (.nd 338 (⟨.slice 340 5 40 [.int .i64 0,.int .i64 0,.int .i64 0,.int .i64 0,.int .i64 0],1,[.slice none 0 0]⟩) (.nd 305 (⟨.func,1,[.nilFunc]⟩) (.nd 292 (⟨.struct [(0,1),(1,1),(2,1)],3,[.int .u64 0,.int .i64 0,.int .i64 0]⟩) (.nd 268 (⟨.func,1,[.nilFunc]⟩) (.nd 267 (⟨.struct [(0,8),(8,1),(9,1),(10,1),(11,1)],12,[.slice none 0 0,.slice none 0 0,.slice none 0 0,.slice none 0 0,.slice none 0 0,.slice none 0 0,.slice none 0 0,.slice none 0 0,.slice none 0 0,.slice none 0 0,.slice none 0 0,.slice none 0 0]⟩) .lf .lf) (.nd 286 (⟨.struct [(0,1),(1,1),(2,1)],3,[.int .i64 0,.int .i64 0,.slice none 0 0]⟩) .lf .lf)) (.nd 299 (⟨.ptr,1,[.pointer none]⟩) (.nd 294 (⟨.func,1,[.nilFunc]⟩) .lf .lf) (.nd 304 (⟨.struct [(0,8)],8,[.slice none 0 0,.slice none 0 0,.slice none 0 0,.slice none 0 0,.slice none 0 0,.slice none 0 0,.slice none 0 0,.slice none 0 0]⟩) .lf .lf))) (.nd 329 (⟨.ptr,1,[.pointer none]⟩) (.nd 319 (⟨.func,1,[.nilFunc]⟩) (.nd 312 (⟨.array 3 2 1,2,[.int .i64 0,.int .i64 0]⟩) .lf .lf) (.nd 325 (⟨.func,1,[.nilFunc]⟩) .lf .lf)) (.nd 334 (⟨.struct [(0,1),(1,1),(2,1)],3,[.int .i64 0,.int .i64 0,.int .i64 0]⟩) (.nd 331 (⟨.slice 334 3 24 [.int .i64 0,.int .i64 0,.int .i64 0],1,[.slice none 0 0]⟩) .lf .lf) .lf))) (.nd 384 (⟨.func,1,[.nilFunc]⟩) (.nd 357 (⟨.struct [(0,8)],8,[.slice none 0 0,.slice none 0 0,.slice none 0 0,.slice none 0 0,.slice none 0 0,.slice none 0 0,.slice none 0 0,.slice none 0 0]⟩) (.nd 344 (⟨.ptr,1,[.pointer none]⟩) (.nd 340 (⟨.struct [(0,1),(1,1),(2,1),(3,1),(4,1)],5,[.int .i64 0,.int .i64 0,.int .i64 0,.int .i64 0,.int .i64 0]⟩) .lf .lf) (.nd 349 (⟨.struct [(0,8),(8,1),(9,1),(10,1),(11,1)],12,[.slice none 0 0,.slice none 0 0,.slice none 0 0,.slice none 0 0,.slice none 0 0,.slice none 0 0,.slice none 0 0,.slice none 0 0,.slice none 0 0,.int .i64 0,.int .i64 0,.slice none 0 0]⟩) .lf .lf)) (.nd 363 (⟨.ptr,1,[.pointer none]⟩) (.nd 361 (⟨.ptr,1,[.pointer none]⟩) .lf .lf) .lf)) (.nd 412 (⟨.struct [(0,7),(7,1)],8,[.int .i64 0,.int .i64 0,.int .i64 0,.int .i64 0,.int .u32 0,.int .u32 0,.slice none 0 0,.int .i64 0]⟩) (.nd 394 (⟨.iface,1,[.nilIface]⟩) (.nd 387 (⟨.func,1,[.nilFunc]⟩) .lf .lf) (.nd 410 (⟨.ptr,1,[.pointer none]⟩) .lf .lf)) (.nd 428 (⟨.array 3 4 1,4,[.int .i64 0,.int .i64 0,.int .i64 0,.int .i64 0]⟩) (.nd 414 (⟨.struct [(0,8),(8,1)],9,[.int .i64 0,.int .i64 0,.int .i64 0,.int .i64 0,.int .u32 0,.int .u32 0,.slice none 0 0,.int .i64 0,.int .i64 0]⟩) .lf .lf) .lf))))))
def etab:Tr (List EK):=(.nd 131 ([.int .i64,.int .i64,.int .i64,.int .u64]) (.nd 91 ([.int .i64,.int .i64,.int .i64,.int .u32]) (.nd 89 ([.int .i64,.int .i64]) (.nd 45 ([.int .i64,.int .i64,.string,.int .u64,.int .u32]) .lf .lf) .lf) (.nd 127 ([.int .i64,.int .i64,.int .i64]) (.nd 113 ([.int .u32,.int .i64]) .lf .lf) .lf)) (.nd 334 ([.int .i64,.int .i64,.int .i64]) (.nd 292 ([.int .u64,.int .i64,.int .i64]) (.nd 154 ([.int .i64,.int .i64,.int .u32]) .lf .lf) .lf) (.nd 340 ([.int .i64,.int .i64,.int .i64,.int .i64,.int .i64]) .lf .lf)))
theorem tab_ok:tab.all (fun t i=>A7 Tryz.prog t=some i):=⟨ty132,⟨ty60,⟨ty31,⟨ty22,⟨ty4,⟨ty2,⟨ty1,trivial,trivial⟩,⟨ty3,trivial,trivial⟩⟩,⟨ty9,⟨ty5,trivial,trivial⟩,⟨ty20,trivial,trivial⟩⟩⟩,⟨ty28,⟨ty26,⟨ty25,trivial,trivial⟩,⟨ty27,trivial,trivial⟩⟩,⟨ty30,⟨ty29,trivial,trivial⟩,trivial⟩⟩⟩,⟨ty46,⟨ty38,⟨ty34,⟨ty32,trivial,trivial⟩,⟨ty35,trivial,trivial⟩⟩,⟨ty43,⟨ty42,trivial,trivial⟩,⟨ty45,trivial,trivial⟩⟩⟩,⟨ty54,⟨ty50,⟨ty48,trivial,trivial⟩,⟨ty51,trivial,trivial⟩⟩,⟨ty59,⟨ty57,trivial,trivial⟩,trivial⟩⟩⟩⟩,⟨ty98,⟨ty81,⟨ty72,⟨ty63,⟨ty62,trivial,trivial⟩,⟨ty68,trivial,trivial⟩⟩,⟨ty76,⟨ty74,trivial,trivial⟩,⟨ty80,trivial,trivial⟩⟩⟩,⟨ty91,⟨ty84,⟨ty82,trivial,trivial⟩,⟨ty89,trivial,trivial⟩⟩,⟨ty95,⟨ty93,trivial,trivial⟩,trivial⟩⟩⟩,⟨ty115,⟨ty108,⟨ty102,⟨ty101,trivial,trivial⟩,⟨ty106,trivial,trivial⟩⟩,⟨ty113,⟨ty111,trivial,trivial⟩,trivial⟩⟩,⟨ty127,⟨ty122,⟨ty120,trivial,trivial⟩,⟨ty124,trivial,trivial⟩⟩,⟨ty131,⟨ty128,trivial,trivial⟩,trivial⟩⟩⟩⟩⟩,⟨ty259,⟨ty173,⟨ty159,⟨ty141,⟨ty137,⟨ty135,trivial,trivial⟩,⟨ty140,trivial,trivial⟩⟩,⟨ty151,⟨ty143,trivial,trivial⟩,⟨ty154,trivial,trivial⟩⟩⟩,⟨ty166,⟨ty162,⟨ty161,trivial,trivial⟩,⟨ty163,trivial,trivial⟩⟩,⟨ty169,⟨ty167,trivial,trivial⟩,trivial⟩⟩⟩,⟨ty209,⟨ty188,⟨ty183,⟨ty177,trivial,trivial⟩,⟨ty185,trivial,trivial⟩⟩,⟨ty203,⟨ty195,trivial,trivial⟩,trivial⟩⟩,⟨ty243,⟨ty228,⟨ty227,trivial,trivial⟩,⟨ty234,trivial,trivial⟩⟩,⟨ty249,⟨ty245,trivial,trivial⟩,trivial⟩⟩⟩⟩,⟨ty338,⟨ty305,⟨ty292,⟨ty268,⟨ty267,trivial,trivial⟩,⟨ty286,trivial,trivial⟩⟩,⟨ty299,⟨ty294,trivial,trivial⟩,⟨ty304,trivial,trivial⟩⟩⟩,⟨ty329,⟨ty319,⟨ty312,trivial,trivial⟩,⟨ty325,trivial,trivial⟩⟩,⟨ty334,⟨ty331,trivial,trivial⟩,trivial⟩⟩⟩,⟨ty384,⟨ty357,⟨ty344,⟨ty340,trivial,trivial⟩,⟨ty349,trivial,trivial⟩⟩,⟨ty363,⟨ty361,trivial,trivial⟩,trivial⟩⟩,⟨ty412,⟨ty394,⟨ty387,trivial,trivial⟩,⟨ty410,trivial,trivial⟩⟩,⟨ty428,⟨ty414,trivial,trivial⟩,trivial⟩⟩⟩⟩⟩⟩
theorem Auf:etab.all (fun t i=>Lk Tryz.prog t=some i):=⟨tq131,⟨tq91,⟨tq89,⟨tq45,trivial,trivial⟩,trivial⟩,⟨tq127,⟨tq113,trivial,trivial⟩,trivial⟩⟩,⟨tq334,⟨tq292,⟨tq154,trivial,trivial⟩,trivial⟩,⟨tq340,trivial,trivial⟩⟩⟩
def Γ:TyE Tryz.prog:=⟨⟨fun t=>tab.look t,fun _ _ h=>Atc (Tr.look_ok tab_ok h)⟩,fun t=>etab.look t,fun _ _ h=>Ar2 (Tr.look_ok Auf h)⟩
theorem hm:Tryz.prog.follows .mixedOrders=true:=by kernel_rfl
abbrev fT (i:Nat) (fn:Func):Prop:=Fun Tryz.prog i fn (Ako fn)
theorem fN {P : Program} {f : FuncId} {fn : Func} (h : P.funcs[f]? = some fn) (hb : fn.body = some (Ako fn) := by exact rfl) (hn : (fn.name == "runtime.NumGoroutine") = false := by kernel_rfl) : Fun P f fn (Ako fn) := ⟨h, hb, hn⟩
theorem cT {f:FuncId} {fn:Func} {c:Code} {A:List SV} {H:Obs} {R:SV} {H':Obs} (hF:Fun Tryz.prog f fn c) {n:Nat} (hn':fn.ntmps=n)
  (h:∀ (F:Fr) (hF:∀ k,F.k0 k≠.new→k∈H.keys),K1 ⟨Tryz.prog,Γ.toTy,F,n,Xt Tryz.prog fn F R H',H.keys,hF⟩ Γ 100 [.code c] ⟨argσ A,mkh H⟩) (hn:Alt A n=true:=by exact rfl):Sy.Spec Tryz.prog f A H R H':=U0 Γ hm 100 hF hn' hn h
theorem F3:fT 3 Tryz.f3:=fN Tryz.func3
theorem F4:fT 4 Tryz.f4:=fN Tryz.func4
theorem F5:fT 5 Tryz.f5:=fN Tryz.func5
theorem F6:fT 6 Tryz.f6:=fN Tryz.func6
theorem F7:fT 7 Tryz.f7:=fN Tryz.func7
theorem F8:fT 8 Tryz.f8:=fN Tryz.func8
theorem F9:fT 9 Tryz.f9:=fN Tryz.func9
theorem F10:fT 10 Tryz.f10:=fN Tryz.func10
theorem F11:fT 11 Tryz.f11:=fN Tryz.func11
theorem F12:fT 12 Tryz.f12:=fN Tryz.func12
theorem F13:fT 13 Tryz.f13:=fN Tryz.func13
theorem F14:fT 14 Tryz.f14:=fN Tryz.func14
theorem F15:fT 15 Tryz.f15:=fN Tryz.func15
theorem F16:fT 16 Tryz.f16:=fN Tryz.func16
theorem F17:fT 17 Tryz.f17:=fN Tryz.func17
theorem F18:fT 18 Tryz.f18:=fN Tryz.func18
theorem F19:fT 19 Tryz.f19:=fN Tryz.func19
theorem F20:fT 20 Tryz.f20:=fN Tryz.func20
theorem F21:fT 21 Tryz.f21:=fN Tryz.func21
theorem F22:fT 22 Tryz.f22:=fN Tryz.func22
theorem F23:fT 23 Tryz.f23:=fN Tryz.func23
theorem F24:fT 24 Tryz.f24:=fN Tryz.func24
theorem F25:fT 25 Tryz.f25:=fN Tryz.func25
theorem F26:fT 26 Tryz.f26:=fN Tryz.func26
theorem F27:fT 27 Tryz.f27:=fN Tryz.func27
theorem F28:fT 28 Tryz.f28:=fN Tryz.func28
theorem F29:fT 29 Tryz.f29:=fN Tryz.func29
theorem F30:fT 30 Tryz.f30:=fN Tryz.func30
theorem F31:fT 31 Tryz.f31:=fN Tryz.func31
theorem F32:fT 32 Tryz.f32:=fN Tryz.func32
theorem F33:fT 33 Tryz.f33:=fN Tryz.func33
theorem F34:fT 34 Tryz.f34:=fN Tryz.func34
theorem F35:fT 35 Tryz.f35:=fN Tryz.func35
theorem F36:fT 36 Tryz.f36:=fN Tryz.func36
theorem F37:fT 37 Tryz.f37:=fN Tryz.func37
theorem F38:fT 38 Tryz.f38:=fN Tryz.func38
theorem F39:fT 39 Tryz.f39:=fN Tryz.func39
theorem F40:fT 40 Tryz.f40:=fN Tryz.func40
theorem F41:fT 41 Tryz.f41:=fN Tryz.func41
theorem F42:fT 42 Tryz.f42:=fN Tryz.func42
theorem F43:fT 43 Tryz.f43:=fN Tryz.func43
theorem F44:fT 44 Tryz.f44:=fN Tryz.func44
theorem F45:fT 45 Tryz.f45:=fN Tryz.func45
theorem F46:fT 46 Tryz.f46:=fN Tryz.func46
theorem F47:fT 47 Tryz.f47:=fN Tryz.func47
theorem F48:fT 48 Tryz.f48:=fN Tryz.func48
theorem F49:fT 49 Tryz.f49:=fN Tryz.func49
theorem F50:fT 50 Tryz.f50:=fN Tryz.func50
theorem F51:fT 51 Tryz.f51:=fN Tryz.func51
theorem F52:fT 52 Tryz.f52:=fN Tryz.func52
theorem F53:fT 53 Tryz.f53:=fN Tryz.func53
theorem F54:fT 54 Tryz.f54:=fN Tryz.func54
theorem F55:fT 55 Tryz.f55:=fN Tryz.func55
theorem F56:fT 56 Tryz.f56:=fN Tryz.func56
theorem F57:fT 57 Tryz.f57:=fN Tryz.func57
theorem F58:fT 58 Tryz.f58:=fN Tryz.func58
theorem F59:fT 59 Tryz.f59:=fN Tryz.func59
theorem F60:fT 60 Tryz.f60:=fN Tryz.func60
theorem F61:fT 61 Tryz.f61:=fN Tryz.func61
theorem F62:fT 62 Tryz.f62:=fN Tryz.func62
theorem F63:fT 63 Tryz.f63:=fN Tryz.func63
theorem F64:fT 64 Tryz.f64:=fN Tryz.func64
theorem F65:fT 65 Tryz.f65:=fN Tryz.func65
theorem F66:fT 66 Tryz.f66:=fN Tryz.func66
theorem F67:fT 67 Tryz.f67:=fN Tryz.func67
theorem F68:fT 68 Tryz.f68:=fN Tryz.func68
theorem F69:fT 69 Tryz.f69:=fN Tryz.func69
theorem F70:fT 70 Tryz.f70:=fN Tryz.func70
theorem F71:fT 71 Tryz.f71:=fN Tryz.func71
theorem F72:fT 72 Tryz.f72:=fN Tryz.func72
theorem F73:fT 73 Tryz.f73:=fN Tryz.func73
theorem F74:fT 74 Tryz.f74:=fN Tryz.func74
theorem F75:fT 75 Tryz.f75:=fN Tryz.func75
theorem F76:fT 76 Tryz.f76:=fN Tryz.func76
theorem F77:fT 77 Tryz.f77:=fN Tryz.func77
theorem F78:fT 78 Tryz.f78:=fN Tryz.func78
theorem F79:fT 79 Tryz.f79:=fN Tryz.func79
theorem F80:fT 80 Tryz.f80:=fN Tryz.func80
theorem F81:fT 81 Tryz.f81:=fN Tryz.func81
theorem F82:fT 82 Tryz.f82:=fN Tryz.func82
theorem F83:fT 83 Tryz.f83:=fN Tryz.func83
theorem F84:fT 84 Tryz.f84:=fN Tryz.func84
theorem F85:fT 85 Tryz.f85:=fN Tryz.func85
theorem F86:fT 86 Tryz.f86:=fN Tryz.func86
theorem F87:fT 87 Tryz.f87:=fN Tryz.func87
theorem F88:fT 88 Tryz.f88:=fN Tryz.func88
theorem F89:fT 89 Tryz.f89:=fN Tryz.func89
theorem F90:fT 90 Tryz.f90:=fN Tryz.func90
theorem F91:fT 91 Tryz.f91:=fN Tryz.func91
theorem F92:fT 92 Tryz.f92:=fN Tryz.func92
theorem F93:fT 93 Tryz.f93:=fN Tryz.func93
theorem F94:fT 94 Tryz.f94:=fN Tryz.func94
theorem F95:fT 95 Tryz.f95:=fN Tryz.func95
theorem F96:fT 96 Tryz.f96:=fN Tryz.func96
theorem F97:fT 97 Tryz.f97:=fN Tryz.func97
theorem F98:fT 98 Tryz.f98:=fN Tryz.func98
theorem F99:fT 99 Tryz.f99:=fN Tryz.func99
theorem F100:fT 100 Tryz.f100:=fN Tryz.func100
theorem F101:fT 101 Tryz.f101:=fN Tryz.func101
theorem F102:fT 102 Tryz.f102:=fN Tryz.func102
theorem F103:fT 103 Tryz.f103:=fN Tryz.func103
theorem F104:fT 104 Tryz.f104:=fN Tryz.func104
theorem F105:fT 105 Tryz.f105:=fN Tryz.func105
theorem F106:fT 106 Tryz.f106:=fN Tryz.func106
theorem F107:fT 107 Tryz.f107:=fN Tryz.func107
theorem F108:fT 108 Tryz.f108:=fN Tryz.func108
theorem F109:fT 109 Tryz.f109:=fN Tryz.func109
theorem F110:fT 110 Tryz.f110:=fN Tryz.func110
theorem F111:fT 111 Tryz.f111:=fN Tryz.func111
theorem F112:fT 112 Tryz.f112:=fN Tryz.func112
theorem F113:fT 113 Tryz.f113:=fN Tryz.func113
theorem F114:fT 114 Tryz.f114:=fN Tryz.func114
theorem F115:fT 115 Tryz.f115:=fN Tryz.func115
theorem F116:fT 116 Tryz.f116:=fN Tryz.func116
theorem F117:fT 117 Tryz.f117:=fN Tryz.func117
theorem F122:fT 122 Tryz.f122:=fN Tryz.func122
theorem F123:fT 123 Tryz.f123:=fN Tryz.func123
theorem F124:fT 124 Tryz.f124:=fN Tryz.func124
theorem F125:fT 125 Tryz.f125:=fN Tryz.func125
theorem F126:fT 126 Tryz.f126:=fN Tryz.func126
theorem F127:fT 127 Tryz.f127:=fN Tryz.func127
theorem F128:fT 128 Tryz.f128:=fN Tryz.func128
theorem F129:fT 129 Tryz.f129:=fN Tryz.func129
theorem F130:fT 130 Tryz.f130:=fN Tryz.func130
theorem F131:fT 131 Tryz.f131:=fN Tryz.func131
theorem F132:fT 132 Tryz.f132:=fN Tryz.func132
theorem F133:fT 133 Tryz.f133:=fN Tryz.func133
theorem F134:fT 134 Tryz.f134:=fN Tryz.func134
theorem F135:fT 135 Tryz.f135:=fN Tryz.func135
theorem F136:fT 136 Tryz.f136:=fN Tryz.func136
theorem F137:fT 137 Tryz.f137:=fN Tryz.func137
theorem F138:fT 138 Tryz.f138:=fN Tryz.func138
theorem F139:fT 139 Tryz.f139:=fN Tryz.func139
theorem F140:fT 140 Tryz.f140:=fN Tryz.func140
theorem F141:fT 141 Tryz.f141:=fN Tryz.func141
theorem F142:fT 142 Tryz.f142:=fN Tryz.func142
theorem F143:fT 143 Tryz.f143:=fN Tryz.func143
theorem F144:fT 144 Tryz.f144:=fN Tryz.func144
theorem F145:fT 145 Tryz.f145:=fN Tryz.func145
theorem F146:fT 146 Tryz.f146:=fN Tryz.func146
theorem F147:fT 147 Tryz.f147:=fN Tryz.func147
theorem F148:fT 148 Tryz.f148:=fN Tryz.func148
theorem F150:fT 150 Tryz.f150:=fN Tryz.func150
theorem F151:fT 151 Tryz.f151:=fN Tryz.func151
theorem F152:fT 152 Tryz.f152:=fN Tryz.func152
theorem F153:fT 153 Tryz.f153:=fN Tryz.func153
theorem F154:fT 154 Tryz.f154:=fN Tryz.func154
theorem F155:fT 155 Tryz.f155:=fN Tryz.func155
theorem F156:fT 156 Tryz.f156:=fN Tryz.func156
theorem F157:fT 157 Tryz.f157:=fN Tryz.func157
theorem F158:fT 158 Tryz.f158:=fN Tryz.func158
theorem F159:fT 159 Tryz.f159:=fN Tryz.func159
theorem F160:fT 160 Tryz.f160:=fN Tryz.func160
theorem F161:fT 161 Tryz.f161:=fN Tryz.func161
theorem F162:fT 162 Tryz.f162:=fN Tryz.func162
theorem F163:fT 163 Tryz.f163:=fN Tryz.func163
theorem F164:fT 164 Tryz.f164:=fN Tryz.func164
theorem F165:fT 165 Tryz.f165:=fN Tryz.func165
theorem F166:fT 166 Tryz.f166:=fN Tryz.func166
theorem F167:fT 167 Tryz.f167:=fN Tryz.func167
theorem F168:fT 168 Tryz.f168:=fN Tryz.func168
theorem F169:fT 169 Tryz.f169:=fN Tryz.func169
theorem F170:fT 170 Tryz.f170:=fN Tryz.func170
theorem F171:fT 171 Tryz.f171:=fN Tryz.func171
theorem F172:fT 172 Tryz.f172:=fN Tryz.func172
theorem F173:fT 173 Tryz.f173:=fN Tryz.func173
theorem F174:fT 174 Tryz.f174:=fN Tryz.func174
theorem F175:fT 175 Tryz.f175:=fN Tryz.func175
theorem F176:fT 176 Tryz.f176:=fN Tryz.func176
theorem F177:fT 177 Tryz.f177:=fN Tryz.func177
theorem F178:fT 178 Tryz.f178:=fN Tryz.func178
theorem F179:fT 179 Tryz.f179:=fN Tryz.func179
theorem F184:fT 184 Tryz.f184:=fN Tryz.func184
theorem F185:fT 185 Tryz.f185:=fN Tryz.func185
theorem F186:fT 186 Tryz.f186:=fN Tryz.func186
theorem F187:fT 187 Tryz.f187:=fN Tryz.func187
theorem F188:fT 188 Tryz.f188:=fN Tryz.func188
theorem F189:fT 189 Tryz.f189:=fN Tryz.func189
theorem F190:fT 190 Tryz.f190:=fN Tryz.func190
theorem F191:fT 191 Tryz.f191:=fN Tryz.func191
theorem F192:fT 192 Tryz.f192:=fN Tryz.func192
theorem F193:fT 193 Tryz.f193:=fN Tryz.func193
theorem F194:fT 194 Tryz.f194:=fN Tryz.func194
theorem F195:fT 195 Tryz.f195:=fN Tryz.func195
theorem F196:fT 196 Tryz.f196:=fN Tryz.func196
theorem F197:fT 197 Tryz.f197:=fN Tryz.func197
theorem F198:fT 198 Tryz.f198:=fN Tryz.func198
theorem F199:fT 199 Tryz.f199:=fN Tryz.func199
theorem F200:fT 200 Tryz.f200:=fN Tryz.func200
theorem F201:fT 201 Tryz.f201:=fN Tryz.func201
theorem F202:fT 202 Tryz.f202:=fN Tryz.func202
theorem F203:fT 203 Tryz.f203:=fN Tryz.func203
theorem F204:fT 204 Tryz.f204:=fN Tryz.func204
theorem F205:fT 205 Tryz.f205:=fN Tryz.func205
theorem F206:fT 206 Tryz.f206:=fN Tryz.func206
theorem F207:fT 207 Tryz.f207:=fN Tryz.func207
theorem F208:fT 208 Tryz.f208:=fN Tryz.func208
theorem F209:fT 209 Tryz.f209:=fN Tryz.func209
theorem F210:fT 210 Tryz.f210:=fN Tryz.func210
theorem F211:fT 211 Tryz.f211:=fN Tryz.func211
theorem F212:fT 212 Tryz.f212:=fN Tryz.func212
theorem F213:fT 213 Tryz.f213:=fN Tryz.func213
theorem F214:fT 214 Tryz.f214:=fN Tryz.func214
theorem F215:fT 215 Tryz.f215:=fN Tryz.func215
theorem F216:fT 216 Tryz.f216:=fN Tryz.func216
theorem F217:fT 217 Tryz.f217:=fN Tryz.func217
theorem F218:fT 218 Tryz.f218:=fN Tryz.func218
theorem F219:fT 219 Tryz.f219:=fN Tryz.func219
theorem F220:fT 220 Tryz.f220:=fN Tryz.func220
theorem F221:fT 221 Tryz.f221:=fN Tryz.func221
theorem F222:fT 222 Tryz.f222:=fN Tryz.func222
theorem F223:fT 223 Tryz.f223:=fN Tryz.func223
theorem F224:fT 224 Tryz.f224:=fN Tryz.func224
theorem F225:fT 225 Tryz.f225:=fN Tryz.func225
theorem F226:fT 226 Tryz.f226:=fN Tryz.func226
theorem F227:fT 227 Tryz.f227:=fN Tryz.func227
theorem F228:fT 228 Tryz.f228:=fN Tryz.func228
theorem F229:fT 229 Tryz.f229:=fN Tryz.func229
theorem F230:fT 230 Tryz.f230:=fN Tryz.func230
theorem F231:fT 231 Tryz.f231:=fN Tryz.func231
theorem F232:fT 232 Tryz.f232:=fN Tryz.func232
theorem F233:fT 233 Tryz.f233:=fN Tryz.func233
theorem F234:fT 234 Tryz.f234:=fN Tryz.func234
theorem F235:fT 235 Tryz.f235:=fN Tryz.func235
theorem F236:fT 236 Tryz.f236:=fN Tryz.func236
theorem F238:fT 238 Tryz.f238:=fN Tryz.func238
theorem F239:fT 239 Tryz.f239:=fN Tryz.func239
theorem F240:fT 240 Tryz.f240:=fN Tryz.func240
theorem F241:fT 241 Tryz.f241:=fN Tryz.func241
theorem F250:fT 250 Tryz.f250:=fN Tryz.func250
theorem F251:fT 251 Tryz.f251:=fN Tryz.func251
theorem F252:fT 252 Tryz.f252:=fN Tryz.func252
theorem F253:fT 253 Tryz.f253:=fN Tryz.func253
theorem F254:fT 254 Tryz.f254:=fN Tryz.func254
theorem F255:fT 255 Tryz.f255:=fN Tryz.func255
theorem F256:fT 256 Tryz.f256:=fN Tryz.func256
theorem F257:fT 257 Tryz.f257:=fN Tryz.func257
theorem F258:fT 258 Tryz.f258:=fN Tryz.func258
theorem F259:fT 259 Tryz.f259:=fN Tryz.func259
theorem F260:fT 260 Tryz.f260:=fN Tryz.func260
theorem F261:fT 261 Tryz.f261:=fN Tryz.func261
theorem F262:fT 262 Tryz.f262:=fN Tryz.func262
theorem F263:fT 263 Tryz.f263:=fN Tryz.func263
theorem F264:fT 264 Tryz.f264:=fN Tryz.func264
theorem F265:fT 265 Tryz.f265:=fN Tryz.func265
theorem F266:fT 266 Tryz.f266:=fN Tryz.func266
theorem F267:fT 267 Tryz.f267:=fN Tryz.func267
theorem F268:fT 268 Tryz.f268:=fN Tryz.func268
theorem F269:fT 269 Tryz.f269:=fN Tryz.func269
theorem F270:fT 270 Tryz.f270:=fN Tryz.func270
theorem F271:fT 271 Tryz.f271:=fN Tryz.func271
theorem F272:fT 272 Tryz.f272:=fN Tryz.func272
theorem F273:fT 273 Tryz.f273:=fN Tryz.func273
theorem F274:fT 274 Tryz.f274:=fN Tryz.func274
theorem F275:fT 275 Tryz.f275:=fN Tryz.func275
theorem F276:fT 276 Tryz.f276:=fN Tryz.func276
theorem F277:fT 277 Tryz.f277:=fN Tryz.func277
theorem F278:fT 278 Tryz.f278:=fN Tryz.func278
theorem F279:fT 279 Tryz.f279:=fN Tryz.func279
theorem F280:fT 280 Tryz.f280:=fN Tryz.func280
theorem F281:fT 281 Tryz.f281:=fN Tryz.func281
theorem F282:fT 282 Tryz.f282:=fN Tryz.func282
theorem F283:fT 283 Tryz.f283:=fN Tryz.func283
theorem F284:fT 284 Tryz.f284:=fN Tryz.func284
theorem F285:fT 285 Tryz.f285:=fN Tryz.func285
theorem F286:fT 286 Tryz.f286:=fN Tryz.func286
theorem F287:fT 287 Tryz.f287:=fN Tryz.func287
theorem F288:fT 288 Tryz.f288:=fN Tryz.func288
theorem F289:fT 289 Tryz.f289:=fN Tryz.func289
theorem F290:fT 290 Tryz.f290:=fN Tryz.func290
theorem F291:fT 291 Tryz.f291:=fN Tryz.func291
theorem F292:fT 292 Tryz.f292:=fN Tryz.func292
theorem F293:fT 293 Tryz.f293:=fN Tryz.func293
theorem F294:fT 294 Tryz.f294:=fN Tryz.func294
theorem F295:fT 295 Tryz.f295:=fN Tryz.func295
theorem F296:fT 296 Tryz.f296:=fN Tryz.func296
theorem F304:fT 304 Tryz.f304:=fN Tryz.func304
theorem F305:fT 305 Tryz.f305:=fN Tryz.func305
theorem F306:fT 306 Tryz.f306:=fN Tryz.func306
theorem F307:fT 307 Tryz.f307:=fN Tryz.func307
theorem F308:fT 308 Tryz.f308:=fN Tryz.func308
theorem F309:fT 309 Tryz.f309:=fN Tryz.func309
theorem F310:fT 310 Tryz.f310:=fN Tryz.func310
theorem F311:fT 311 Tryz.f311:=fN Tryz.func311
theorem F312:fT 312 Tryz.f312:=fN Tryz.func312
theorem F313:fT 313 Tryz.f313:=fN Tryz.func313
theorem F314:fT 314 Tryz.f314:=fN Tryz.func314
theorem F316:fT 316 Tryz.f316:=fN Tryz.func316
theorem F317:fT 317 Tryz.f317:=fN Tryz.func317
theorem F318:fT 318 Tryz.f318:=fN Tryz.func318
theorem F319:fT 319 Tryz.f319:=fN Tryz.func319
theorem F320:fT 320 Tryz.f320:=fN Tryz.func320
theorem F321:fT 321 Tryz.f321:=fN Tryz.func321
theorem F343:fT 343 Tryz.f343:=fN Tryz.func343
theorem F344:fT 344 Tryz.f344:=fN Tryz.func344
theorem F345:fT 345 Tryz.f345:=fN Tryz.func345
theorem F346:fT 346 Tryz.f346:=fN Tryz.func346
theorem rg {F:Fr} {n:Nat} {B:Exit→Act→World→Prop} {bn:List Nat} {hbn:∀ k,F.k0 k≠.new→k∈bn} {k:List KI} {s:SS} (h:K1 ⟨Tryz.prog,Γ.toTy,F,n,B,bn,hbn⟩ Γ 400 k s):G ⟨Tryz.prog,Γ.toTy,F,n,B,bn,hbn⟩ k s:=rG Γ hm h
theorem rd {F:Fr} {n:Nat} {B:Exit→Act→World→Prop} {bn:List Nat} {hbn:∀ k,F.k0 k≠.new→k∈bn} {k:List KI} {s:SS} {all:Array Oper} {done:List Stp} {rest:List Oper} (hs:all.toList=done.map (·.o)++rest) (h:Uv ⟨Tryz.prog,Γ.toTy,F,n,B,bn,hbn⟩ Γ 400 k all done rest s):DR ⟨Tryz.prog,Γ.toTy,F,n,B,bn,hbn⟩ k all done rest s:=rD Γ hm hs h
structure Bq (Q:Prop):Prop where out:Q
theorem oO {P Q:Prop} (h:Q) (e:Bq Q→P:=by intro hb;refine rg ?_;(conv=>whnf);exact hb.out):P:=e ⟨h⟩
theorem oF {P Q:Prop} (h:Q) (e:Bq Q→P:=by intro hb;refine rg ?_;(conv=>whnf);refine aF ?_;refine rg ?_;(conv=>whnf);exact hb.out):P:=e ⟨h⟩
theorem oT {P Q:Prop} (h:Q) (e:Bq Q→P:=by intro hb;refine rg ?_;(conv=>whnf);refine aT ?_;refine rg ?_;(conv=>whnf);exact hb.out):P:=e ⟨h⟩
theorem bF {P Q:Prop} (h:Q) (e:Bq Q→P:=by intro hb;refine aF ?_;refine rg ?_;(conv=>whnf);exact hb.out):P:=e ⟨h⟩
theorem bT {P Q:Prop} (h:Q) (e:Bq Q→P:=by intro hb;refine aT ?_;refine rg ?_;(conv=>whnf);exact hb.out):P:=e ⟨h⟩
theorem oD {P Q:Prop} (h:Q) (e:Bq Q→P:=by intro hb;refine rd z_ ?_;(conv=>whnf);exact hb.out):P:=e ⟨h⟩
theorem dN {P:Prop} (h:P:=by
 apply Ap
 ·exact E
 ·(repeat (first | exact ResVs.nil | (apply ResVs.cons;(first | exact .tmp | exact .cell rfl rfl rfl rfl))))
 ·exact E
 ·exact E):P:=h
theorem iL {a:Int} {K:Prop} (h:K) (e:I64 a:=by unfold I64;omega):I64 a∧K:=⟨e,h⟩
theorem iW {a:Int} {K Q:Prop} (h:Q) (e:I64 a:=by unfold I64;omega) (e2:Bq Q→K:=by intro hb;(conv=>whnf);exact hb.out):I64 a∧K:=⟨e,e2 ⟨h⟩⟩
theorem kW {α:Sort _} {a b:α} {K Q:Prop} (h:Q) (e:a=b:=by kernel_rfl) (e2:Bq Q→K:=by intro hb;(conv=>whnf);exact hb.out):a=b∧K:=⟨e,e2 ⟨h⟩⟩
theorem c0 {C:Cx} {k:List KI} {s:SS} {all:Array Oper} {o:Oper} {rest:List Oper} {f:FuncId} {fn:Func} {c:Code} {xs:List Operand} {ts:Array TypeId} {A:List SV} {R:SV} (hs:Sy.Spec C.P f A [] R []) (hf:Fun C.P f fn c) (hg:G C (.ops all rest::k) (s.upd o.dst ⟨R,[],[]⟩)) (h:o.op=.call ⟨.value (.func f),xs.toArray,ts⟩:=by exact rfl)
  (hA:A=xs.map (ev s):=by exact rfl) (hok:(By [] A && R.inn [])=true:=by exact rfl) (hd:Oy C.n o=true:=by exact rfl) (hw:Dt C.n all o s=some true:=by exact rfl):G C (.ops all (o::rest)::k) s:=Kl hs hf h hA hok hd hw hg
theorem cD {C:Cx} {k:List KI} {s:SS} {all:Array Oper} {done:List Stp} {o:Oper} {rest:List Oper} {f:FuncId} {fn:Func} {c:Code} {xs:List Operand} {ts:Array TypeId} {A:List SV} {R:SV} (hs:Sy.Spec C.P f A [] R []) (hf:Fun C.P f fn c) (hg:DR C k all (done++[⟨done.length,o,⟨R,[],[]⟩,true⟩]) rest (s.upd o.dst ⟨R,[],[]⟩)) (h:o.op=.call ⟨.value (.func f),xs.toArray,ts⟩:=by exact rfl)
  (hA:A=xs.map (ev s):=by exact rfl) (hok:(By [] A && R.inn [])=true:=by exact rfl) (hi:all[done.length]? = some o:=by kernel_rfl) (hw:Dt C.n all o s=some true:=by exact rfl):DR C k all done (o::rest) s:=Asg hs hf h hA hok hi hw hg
theorem fU {P Q:Prop} (h:Q) (e:Bq Q→P:=by intro hb;((first|refine rG Γ hm ?_|refine rD Γ hm z_ ?_);(conv=>whnf);repeat((first|refine aF ?_|refine aT ?_);(first|refine rG Γ hm ?_|refine rD Γ hm z_ ?_);conv=>whnf));exact hb.out):P:=e ⟨h⟩
theorem fW {P Q:Prop} (h:Q) (e:Bq Q→P:=by intro hb;((conv=>whnf);repeat((first|refine aF ?_|refine aT ?_);(first|refine rG Γ hm ?_|refine rD Γ hm z_ ?_);conv=>whnf));exact hb.out):P:=e ⟨h⟩
theorem vL {s:SS} {V:List Nat} {l m:List SV} (h:VwL s V l m:=by repeat (first | exact VwL.nil | refine VwL.cons (Vw.refl _) ?_ | refine VwL.cons Vw.nil ?_)):VwL s V l m:=h
theorem qA {p q:Prop} [Decidable p] (h:decide p=true) (e:p→q:=by intro _h;omega):q:=e (of_decide_eq_true h)
theorem qB {p q:Prop} [Decidable p] (h:decide p=false) (e:¬ p→q:=by intro _h;omega):q:=e (of_decide_eq_false h)
end Go.Sy.YtcflgpijohhfbaaGreat
namespace Go.Sy.YtcflgpijohhfbaaGreat
open Go.Proofs
structure Device where
 (row prio:Int) (name:ByteArray) (mac vtep:Int)
structure Port where
 (row dev native cost link:Int) (name:ByteArray) (tagged:List Int)
structure Link where
 (row a b:Int)
structure Domain where
 (dev vlan vni irb row:Int) (peers:List Int)
structure Static where
 (row domain port mac:Int)
structure Flood where
 (row dev vni:Int) (addrs:List Int)
structure Vrf where
 (row dev:Int) (name:ByteArray) (imports exports:List Int)
structure Irb where
 (row domain vrf addr bits:Int)
structure Net where
 (devices:List Device) (ports:List Port) (links:List Link) (domains:List Domain) (statics:List Static) (floods:List Flood) (vrfs:List Vrf) (irbs:List Irb)
def Aq (d:Device):SV:=.agg [Aa d.row,Aa d.prio,C7 d.name,A9 d.mac,A4 d.vtep]
def Au (p:Port):SV:=.agg [Aa p.row,Aa p.dev,Aa p.native,Aa p.cost,Aa p.link,C7 p.name,.sl 1 Aa p.tagged]
def Bl (l:Link):SV:=.agg [Aa l.row,Aa l.a,Aa l.b]
def An (d:Domain):SV:=.agg [Aa d.dev,Aa d.vlan,Aa d.vni,Aa d.irb,Aa d.row,.sl 1 Aa d.peers]
def As (s:Static):SV:=.agg [Aa s.row,Aa s.domain,Aa s.port,A9 s.mac]
def A0 (f:Flood):SV:=.agg [Aa f.row,Aa f.dev,Aa f.vni,.sl 1 A4 f.addrs]
def Bv (v:Vrf):SV:=.agg [Aa v.row,Aa v.dev,C7 v.name,.sl 1 Aa v.imports,.sl 1 Aa v.exports]
def Br (i:Irb):SV:=.agg [Aa i.row,Aa i.domain,Aa i.vrf,A4 i.addr,Aa i.bits]
def Cn (n:Net):List SV:=[.sl 5 Aq n.devices,.sl 7 Au n.ports,.sl 3 Bl n.links,.sl 6 An n.domains,.sl 4 As n.statics,.sl 4 A0 n.floods,.sl 5 Bv n.vrfs,.sl 5 Br n.irbs]
def Aj (n:Net):SV:=.agg [.sl 5 Aq n.devices,.sl 7 Au n.ports,.sl 3 Bl n.links,.sl 6 An n.domains,.sl 4 As n.statics,.sl 4 A0 n.floods,.sl 5 Bv n.vrfs,.sl 5 Br n.irbs]
instance:Inhabited Device:=⟨⟨0,0,.empty,0,0⟩⟩
instance:Inhabited Port:=⟨⟨0,0,0,0,0,.empty,[]⟩⟩
instance:Inhabited Link:=⟨⟨0,0,0⟩⟩
instance:Inhabited Domain:=⟨⟨0,0,0,0,0,[]⟩⟩
instance:Inhabited Static:=⟨⟨0,0,0,0⟩⟩
instance:Inhabited Flood:=⟨⟨0,0,0,[]⟩⟩
instance:Inhabited Vrf:=⟨⟨0,0,.empty,[],[]⟩⟩
instance:Inhabited Irb:=⟨⟨0,0,0,0,0⟩⟩
def Ai (i:Int) (n:Nat):Bool:=decide (0≤i) && decide (i<n)
def inB (l:List Int) (x:Int):Bool:=l.any (· == x)
def nth {α:Type} [Inhabited α] (l:List α) (i:Int):α:=(l[i.toNat]?).getD default
theorem Ae {α:Type} [Inhabited α] {l:List α} {i:Int} (h:i.toNat<l.length):nth l i=l[i.toNat]:=by
 simp[nth,h]
def B9 {α:Type} (p:α→Bool) (l:List α):Int:=match l.findIdx? p with | some i=>(i:Int) | none=>-1
theorem Cm {α:Type} {p:α→Bool} {l:List α} {j:Nat} (h:j<l.length) (h1:∀ i (hi:i<l.length),i<j→p l[i]=false) (h2:p l[j]=true):B9 p l=j:=by
 have:l.findIdx? p=some j:=by
  rw[List.findIdx?_eq_some_iff_getElem]
  exact⟨h,h2,fun i hi=>by simp[h1 i q_ hi]⟩
 simp[B9,this]
theorem Cy {α:Type} {p:α→Bool} {l:List α} (h1:∀ i (hi:i<l.length),p l[i]=false):B9 p l=-1:=by
 have:l.findIdx? p=none:=by
  rw[List.findIdx?_eq_none_iff]
  intro x hx
  obtain ⟨i,hi,rfl⟩:=List.mem_iff_getElem.1 hx
  exact h1 i hi
 simp[B9,this]
theorem Em {α:Type} (p:α→Bool) (l:List α):B9 p l<l.length:=by
 unfold B9
 split
 ·rename_i i h
  rw[List.findIdx?_eq_some_iff_getElem]at h
  obtain ⟨h,_⟩:=h
  omega
 ·omega
theorem J3 {α:Type} (p:α→Bool) (l:List α):decide (0≤B9 p l)=l.any p:=by
 unfold B9
 split
 ·rename_i i h
  rw[List.findIdx?_eq_some_iff_getElem]at h
  obtain ⟨h,h2,_⟩:=h
  have:l.any p=true:=List.any_eq_true.2 ⟨_,List.getElem_mem h,h2⟩
  rw[this]
  simp
 ·rename_i h
  rw[List.findIdx?_eq_none_iff]at h
  have:l.any p=false:=by
   rw[List.any_eq_false]
   intro x hx
   simp[h x hx]
  rw[this]
  simp
def Er {α:Type} (p:Nat→α→Bool) (l:List α):Bool:=l.zipIdx.all fun q=>p q.2 q.1
theorem allB_iff {α:Type} {p:Nat→α→Bool} {l:List α}:Er p l=true↔∀ i (h:i<l.length),p i l[i]=true:=by
 simp only[Er,List.all_eq_true]
 constructor
 ·intro h i hi
  exact h (l[i],i) (by rw[List.mk_mem_zipIdx_iff_getElem?];simp[hi])
 ·rintro h ⟨x,i⟩ hx
  rw[List.mk_mem_zipIdx_iff_getElem?]at hx
  obtain ⟨hi,rfl⟩:=List.getElem?_eq_some_iff.1 hx
  exact h i hi
theorem Ao5 {α:Type} {p:Nat→α→Bool} {l:List α} (h:∀ i (h:i<l.length),p i l[i]=true):Er p l=true:=allB_iff.2 h
theorem Ch {α:Type} {p:Nat→α→Bool} {l:List α} {i:Nat} (h:i<l.length) (h1:p i l[i]=false):Er p l=false:=by
 cases hh:Er p l with
 | false=>rfl
 | true=>have:=allB_iff.1 hh i h;rw[h1]at this;cases this
def Hk {α:Type} (p:Nat→α→Bool) (l:List α) (j:Nat):Prop:=∀ i (h:i<l.length),i<j→p i l[i]=true
theorem Bk {α:Type} (p:Nat→α→Bool) (l:List α):Hk p l 0:=fun i h hj=>absurd hj q_
theorem Bf {α:Type} {p:Nat→α→Bool} {l:List α} {j:Nat} (hI:Hk p l j) (hj:j<l.length) (h:p j l[j]=true):Hk p l (j+1):=by
 intro i hi hij
 rcases Nat.lt_or_ge i j with h1 | h1
 ·exact hI i hi h1
 ·have:i=j:=by omega
  subst this
  exact h
theorem Dy {α:Type} {p:Nat→α→Bool} {l:List α} {j:Nat} (hI:Hk p l j) (hj:l.length≤j):Er p l=true:=Ao5 fun i hi=>hI i hi q_
def Ak {α:Type} (l:List α):Prop:=l.length<2147483648
end Go.Sy.YtcflgpijohhfbaaGreat
namespace Go.Sy.YtcflgpijohhfbaaGreat
open Go.Proofs
attribute [local irreducible] Go.Sy.G Go.Sy.DR
set_option maxRecDepth 20000
set_option maxHeartbeats 4000000
theorem E7 {α:Type} (sz:Nat) (e:α→SV) (l:List α) (i:Int):Sy.Spec Tryz.prog 43 [.sl sz e l,Aa i] [] (Ab (Ai i l.length)) []:=cT F43 Tryz.ntmps43 fun F hF=>by
 conv=>whnf
 (repeat' (first | (refine⟨fun h=>?_,fun h=>?_⟩<;>(repeat (first | simp only[decide_eq_true_eq]at h | simp only[decide_eq_false_iff_not]at h))<;>((refine oO ?_))) | (refine Ap rfl (.cons .tmp .nil) ?_ rfl)))
 all_goals (refine congrArg Ab ?_)
 all_goals grind [Ai]
theorem Ai5 {α:Type} (sz:Nat) (e:α→SV) (l:List α) (i:Int):Sy.Spec Tryz.prog 78 [.sl sz e l,Aa i] [] (Ab (Ai i l.length)) []:=cT F78 Tryz.ntmps78 fun F hF=>by
 conv=>whnf
 (repeat' (first | (refine⟨fun h=>?_,fun h=>?_⟩<;>(repeat (first | simp only[decide_eq_true_eq]at h | simp only[decide_eq_false_iff_not]at h))<;>((refine oO ?_))) | (refine Ap rfl (.cons .tmp .nil) ?_ rfl)))
 all_goals (refine congrArg Ab ?_)
 all_goals grind [Ai]
theorem Af0 {α:Type} (sz:Nat) (e:α→SV) (l:List α) (i:Int):Sy.Spec Tryz.prog 83 [.sl sz e l,Aa i] [] (Ab (Ai i l.length)) []:=cT F83 Tryz.ntmps83 fun F hF=>by
 conv=>whnf
 (repeat' (first | (refine⟨fun h=>?_,fun h=>?_⟩<;>(repeat (first | simp only[decide_eq_true_eq]at h | simp only[decide_eq_false_iff_not]at h))<;>((refine oO ?_))) | (refine Ap rfl (.cons .tmp .nil) ?_ rfl)))
 all_goals (refine congrArg Ab ?_)
 all_goals grind [Ai]
theorem M9 {α:Type} (sz:Nat) (e:α→SV) (l:List α) (i:Int):Sy.Spec Tryz.prog 84 [.sl sz e l,Aa i] [] (Ab (Ai i l.length)) []:=cT F84 Tryz.ntmps84 fun F hF=>by
 conv=>whnf
 (repeat' (first | (refine⟨fun h=>?_,fun h=>?_⟩<;>(repeat (first | simp only[decide_eq_true_eq]at h | simp only[decide_eq_false_iff_not]at h))<;>((refine oO ?_))) | (refine Ap rfl (.cons .tmp .nil) ?_ rfl)))
 all_goals (refine congrArg Ab ?_)
 all_goals grind [Ai]
theorem Il {α:Type} (sz:Nat) (e:α→SV) (l:List α) (i:Int):Sy.Spec Tryz.prog 52 [.sl sz e l,Aa i] [] (Ab (Ai i l.length)) []:=cT F52 Tryz.ntmps52 fun F hF=>by
 conv=>whnf
 (repeat' (first | (refine⟨fun h=>?_,fun h=>?_⟩<;>(repeat (first | simp only[decide_eq_true_eq]at h | simp only[decide_eq_false_iff_not]at h))<;>((refine oO ?_))) | (refine Ap rfl (.cons .tmp .nil) ?_ rfl)))
 all_goals (refine congrArg Ab ?_)
 all_goals grind [Ai]
theorem Ai4 {α:Type} (sz:Nat) (e:α→SV) (l:List α) (i:Int):Sy.Spec Tryz.prog 86 [.sl sz e l,Aa i] [] (Ab (Ai i l.length)) []:=cT F86 Tryz.ntmps86 fun F hF=>by
 conv=>whnf
 (repeat' (first | (refine⟨fun h=>?_,fun h=>?_⟩<;>(repeat (first | simp only[decide_eq_true_eq]at h | simp only[decide_eq_false_iff_not]at h))<;>((refine oO ?_))) | (refine Ap rfl (.cons .tmp .nil) ?_ rfl)))
 all_goals (refine congrArg Ab ?_)
 all_goals grind [Ai]
theorem Ark (l:List Int) (x:Int) (hl:Ak l):Sy.Spec Tryz.prog 51 [.sl 1 Aa l,Aa x] [] (Aa (B9 (· == x) l)) []:=cT F51 Tryz.ntmps51 fun F hF=>by
 unfold Ak at hl
 conv=>whnf
 refine Be l.length (fun j=>∀ i (h:i<l.length),i<j→(l[i] == x)=false) (fun j=>[(0,.sl 1 Aa l),(1,Aa x),(7,Aa l.length),(8,Aa j)]) (fun _=>[]) [] (fun i h hj=>absurd hj q_) ⟨⟨E,E,E,E,E,E,E,E,Y⟩,Y,E,E⟩ ?_
 intro j hj hI
 refine oO ?_
 (repeat' (first | (refine⟨fun h=>?_,fun h=>?_⟩<;>(repeat (first | simp only[decide_eq_true_eq]at h | simp only[decide_eq_false_iff_not]at h | simp only[beq_iff_eq]at h | simp only[beq_eq_false_iff_ne]at h))<;>((refine oO ?_))) | (refine Ap rfl (.cons .tmp .nil) ?_ rfl) | (refine⟨z_,?_⟩;((conv=>whnf))) | (refine⟨by (omega),by (omega),?_⟩;((conv=>whnf))) | (refine⟨by (unfold I64;omega),?_⟩;((conv=>whnf))) | refine Bb [] hI q_ ?_ ⟨⟨rfl,rfl,rfl,rfl,rfl,rfl,rfl,rfl,trivial⟩,trivial,rfl,rfl⟩))
 all_goals try (refine congrArg Aa ?_)
 ·exact Cm q_ hI (by simpa using h.symm)
 ·intro i hi hij
  rcases Nat.lt_or_ge i j with h1 | h1
  ·exact hI i hi h1
  ·have:i=j:=by omega
   subst this
   simpa using Ne.symm h
 ·exact Cy (fun i hi=>hI i hi q_)
theorem C0 (l:List Int) (x:Int) (hl:Ak l):Sy.Spec Tryz.prog 14 [.sl 1 Aa l,Aa x] [] (Ab (inB l x)) []:=cT F14 Tryz.ntmps14 fun F hF=>by
 conv=>whnf
 (repeat' (first | (refine Ap rfl (.cons .tmp .nil) ?_ rfl) | (refine c0 (Ark _ _ hl) F51 ?_;((refine oO ?_)))))
 exact congrArg Ab (J3 _ _).symm
def Ci (p:Port) (v:Int):Bool:=v != 0 && (v == p.native || inB p.tagged v)
theorem T8 (p:Port) (v:Int) (hl:Ak p.tagged):Sy.Spec Tryz.prog 53 [Au p,Aa v] [] (Ab (Ci p v)) []:=cT F53 Tryz.ntmps53 fun F hF=>by
 conv=>whnf
 (repeat' (first | (refine⟨fun h=>?_,fun h=>?_⟩<;>(repeat (first | simp only[beq_iff_eq]at h | simp only[beq_eq_false_iff_ne]at h | simp only[bne_iff_ne]at h | simp only[bne_eq_false_iff_eq]at h))<;>((refine oO ?_))) | (refine Ap rfl (.cons .tmp .nil) ?_ rfl) | (refine c0 (C0 _ _ hl) F14 ?_;((refine oO ?_)))))
 all_goals (refine congrArg Ab ?_)
 all_goals grind [Ci]
def Yk (l:List Int) (least most:Int) (i:Nat) (x:Int):Bool:=decide (least≤x) && decide (x≤most) && (i == 0 || decide (nth l ((i:Int)-1)<x))
def Jc (l:List Int) (least most:Int):Bool:=decide (0<l.length) && decide (l.length≤16) && Er (Yk l least most) l
theorem Yz (l:List Int) (least most:Int) (hl:Ak l):Sy.Spec Tryz.prog 85 [.sl 1 Aa l,Aa least,Aa most] [] (Ab (Jc l least most)) []:=cT F85 Tryz.ntmps85 fun F hF=>by
 unfold Ak at hl
 conv=>whnf
 refine Be l.length (fun j=>Hk (Yk l least most) l j) (fun j=>[(0,.sl 1 Aa l),(1,Aa least),(2,Aa most),(9,.sl 1 Aa l),(10,Aa l.length),(11,Aa j)]) (fun _=>[]) [] (Bk _ _) ⟨⟨E,E,E,E,E,E,E,E,E,E,E,E,Y⟩,Y,E,E⟩ ?_
 intro j hj hI
 refine oO ?_
 (repeat' (first | (refine⟨fun h=>?_,fun h=>?_⟩<;>(repeat (first | simp only[decide_eq_true_eq]at h | simp only[decide_eq_false_iff_not]at h))<;>((refine oO ?_);repeat((first|refine aF ?_|refine aT ?_);(refine oO ?_)))) | (refine Ap rfl (.cons .tmp .nil) ?_ rfl) | (refine⟨z_,?_⟩;((conv=>whnf))) | (refine⟨by (first | (unfold I64;omega) | omega),by (omega),?_⟩;((conv=>whnf))) | (refine⟨by (unfold I64;omega),?_⟩;((conv=>whnf))) | refine Bb [] hI q_ ?_ ⟨⟨rfl,rfl,rfl,rfl,rfl,rfl,rfl,rfl,rfl,rfl,rfl,rfl,trivial⟩,trivial,rfl,rfl⟩))
 all_goals try (refine congrArg Ab ?_)
 all_goals try simp only[Int.toNat_natCast,Int.pred_toNat]at *
 ·rw[Jc,Ch (i:=j) q_ (by simp[Yk];omega)];simp
 ·rw[Jc,Ch (i:=j) q_ (by simp[Yk];omega)];simp
 ·rw[Jc,Ch (i:=j) q_ (by simp only[Yk,Ae (show ((j:Int)-1).toNat<l.length by omega),Int.pred_toNat,Int.toNat_natCast];simp;omega)];simp
 ·exact Bf hI q_ (by simp only[Yk,Ae (show ((j:Int)-1).toNat<l.length by omega),Int.pred_toNat,Int.toNat_natCast];simp;omega)
 ·exact Bf hI q_ (by simp[Yk];omega)
 ·rw[Jc,Dy hI q_,Bool.eq_iff_iff];simp;omega
 ·rw[Jc];simp;omega
theorem Adb (l:List Int) (most:Int) (hl:Ak l):Sy.Spec Tryz.prog 46 [.sl 1 Aa l,Aa most] [] (Ab (decide (l.length=0) || Jc l 1 most)) []:=cT F46 Tryz.ntmps46 fun F hF=>by
 conv=>whnf
 (repeat' (first | (refine⟨fun h=>?_,fun h=>?_⟩<;>(repeat (first | simp only[beq_iff_eq]at h | simp only[beq_eq_false_iff_ne]at h))<;>((refine oO ?_))) | (refine Ap rfl (.cons .tmp .nil) ?_ rfl) | (refine c0 (Yz l 1 most hl) F85 ?_;((refine oO ?_)))))
 all_goals (refine congrArg Ab ?_)
 all_goals grind
theorem Om {K:List Nat}:∀ (a b:List SV),By K (a++b)=(By K a && By K b)
 | [],b=>by simp[By]
 | x::a,b=>by simp[By,Om a b,Bool.and_assoc]
theorem Cj {f:FuncId} {first cap xs:List SV} (hc:(SV.clo (.func f) first cap).inn []=true) (hx:By [] xs=true):By [] (first++xs++cap)=true:=by
 simp only[SV.inn,Bool.and_eq_true]at hc
 rw[Om,Om,hc.1,hc.2,hx]
 rfl
theorem Dn (l:List Domain) (p:Domain→Bool) (f:FuncId) (first cap:List SV) (hc:(SV.clo (.func f) first cap).inn []=true) (hf:∀ x∈l,Ek Tryz.prog f (first++[An x]++cap) (Ab (p x))) (hl:Ak l) :
  Sy.Spec Tryz.prog 139 [.sl 6 An l,.clo (.func f) first cap] [] (Aa (B9 p l)) []:=cT F139 Tryz.ntmps139 fun F hF=>by
 unfold Ak at hl
 have hin:∀ x:Domain,By [] (first++[An x]++cap)=true:=fun x=>Cj hc rfl
 conv=>whnf
 refine Be l.length (fun j=>Hk (fun _ x=>!(p x)) l j) (fun j=>[(0,.sl 6 An l),(1,.clo (.func f) first cap),(7,Aa l.length),(8,Aa j)]) (fun _=>[]) [] (Bk _ _) ⟨⟨E,E,A5 _,hc,E,E,E,E,Y⟩,Y,E,E⟩ ?_
 intro j hj hI
 refine oO ?_
 refine⟨fun h=>?_,fun h=>?_⟩
 ·have h:=of_decide_eq_true h
  have hj2:j<l.length:=by omega
  refine oO ?_
  refine⟨E,by omega,by omega,?_⟩
  conv=>whnf
  refine Dq (hf l[j] (List.getElem_mem hj2)) E E E (by simp only[hin];rfl) E E ?_
  refine oO ?_
  refine⟨fun h2=>?_,fun h2=>?_⟩
  ·refine oO ?_
   refine Ap E (.cons .tmp .nil) (congrArg Aa ?_) E
   exact Cm hj2 (fun i hi hij=>by simpa using hI i hi hij) h2
  ·refine oO ?_
   refine iW ?_
   exact Bb [] hI hj2 (Bf hI hj2 (by simp[h2])) ⟨⟨E,E,A5 _,hc,E,E,E,E,Y⟩,Y,E,E⟩
 ·have h:=of_decide_eq_false h
  refine oO ?_
  refine Ap E (.cons .tmp .nil) (congrArg Aa ?_) E
  exact Cy (fun i hi=>by simpa using hI i hi q_)
theorem Mq (l:List Port) (p:Port→Bool) (f:FuncId) (first cap:List SV) (hc:(SV.clo (.func f) first cap).inn []=true) (hf:∀ x∈l,Ek Tryz.prog f (first++[Au x]++cap) (Ab (p x))) (hl:Ak l) :
  Sy.Spec Tryz.prog 270 [.sl 7 Au l,.clo (.func f) first cap] [] (Aa (B9 p l)) []:=cT F270 Tryz.ntmps270 fun F hF=>by
 unfold Ak at hl
 have hin:∀ x:Port,By [] (first++[Au x]++cap)=true:=fun x=>Cj hc rfl
 conv=>whnf
 refine Be l.length (fun j=>Hk (fun _ x=>!(p x)) l j) (fun j=>[(0,.sl 7 Au l),(1,.clo (.func f) first cap),(7,Aa l.length),(8,Aa j)]) (fun _=>[]) [] (Bk _ _) ⟨⟨E,E,A5 _,hc,E,E,E,E,Y⟩,Y,E,E⟩ ?_
 intro j hj hI
 refine oO ?_
 refine⟨fun h=>?_,fun h=>?_⟩
 ·have h:=of_decide_eq_true h
  have hj2:j<l.length:=by omega
  refine oO ?_
  refine⟨E,by omega,by omega,?_⟩
  conv=>whnf
  refine Dq (hf l[j] (List.getElem_mem hj2)) E E E (by simp only[hin];rfl) E E ?_
  refine oO ?_
  refine⟨fun h2=>?_,fun h2=>?_⟩
  ·refine oO ?_
   refine Ap E (.cons .tmp .nil) (congrArg Aa ?_) E
   exact Cm hj2 (fun i hi hij=>by simpa using hI i hi hij) h2
  ·refine oO ?_
   refine iW ?_
   exact Bb [] hI hj2 (Bf hI hj2 (by simp[h2])) ⟨⟨E,E,A5 _,hc,E,E,E,E,Y⟩,Y,E,E⟩
 ·have h:=of_decide_eq_false h
  refine oO ?_
  refine Ap E (.cons .tmp .nil) (congrArg Aa ?_) E
  exact Cy (fun i hi=>by simpa using hI i hi q_)
theorem Ao3 (l:List Port) (p:Nat→Port→Bool) (f:FuncId) (first cap:List SV) (hc:(SV.clo (.func f) first cap).inn []=true) (hf:∀ i (h:i<l.length),Ek Tryz.prog f (first++[Aa i,Au l[i]]++cap) (Ab (p i l[i]))) (hl:Ak l) :
  Sy.Spec Tryz.prog 35 [.sl 7 Au l,.clo (.func f) first cap] [] (Ab (Er p l)) []:=cT F35 Tryz.ntmps35 fun F hF=>by
 unfold Ak at hl
 have hin:∀ (i:Nat) (x:Port),By [] (first++[Aa i,Au x]++cap)=true:=fun i x=>Cj hc rfl
 conv=>whnf
 refine Be l.length (fun j=>Hk p l j) (fun j=>[(0,.sl 7 Au l),(1,.clo (.func f) first cap),(7,.sl 7 Au l),(8,Aa l.length),(9,Aa j)]) (fun _=>[]) [] (Bk _ _) ⟨⟨E,E,A5 _,hc,E,E,E,E,E,E,Y⟩,Y,E,E⟩ ?_
 intro j hj hI
 refine oO ?_
 refine⟨fun h=>?_,fun h=>?_⟩
 ·have h:=of_decide_eq_true h
  have hj2:j<l.length:=by omega
  refine oO ?_
  refine⟨E,by omega,by omega,?_⟩
  conv=>whnf
  refine Dq (hf j hj2) E E E (by simp only[hin];rfl) E E ?_
  refine oO ?_
  refine⟨fun h2=>?_,fun h2=>?_⟩
  ·refine oO ?_
   refine Ap E (.cons .tmp .nil) (congrArg Ab ?_) E
   exact Ch hj2 (by simpa using h2)
  ·refine oO ?_
   refine iW ?_
   exact Bb [] hI hj2 (Bf hI hj2 (by simpa using h2)) ⟨⟨E,E,A5 _,hc,E,E,E,E,E,E,Y⟩,Y,E,E⟩
 ·have h:=of_decide_eq_false h
  refine oO ?_
  refine Ap E (.cons .tmp .nil) (congrArg Ab ?_) E
  exact Dy hI q_
theorem Ao4 (l:List Link) (p:Nat→Link→Bool) (f:FuncId) (first cap:List SV) (hc:(SV.clo (.func f) first cap).inn []=true) (hf:∀ i (h:i<l.length),Ek Tryz.prog f (first++[Aa i,Bl l[i]]++cap) (Ab (p i l[i]))) (hl:Ak l) :
  Sy.Spec Tryz.prog 37 [.sl 3 Bl l,.clo (.func f) first cap] [] (Ab (Er p l)) []:=cT F37 Tryz.ntmps37 fun F hF=>by
 unfold Ak at hl
 have hin:∀ (i:Nat) (x:Link),By [] (first++[Aa i,Bl x]++cap)=true:=fun i x=>Cj hc rfl
 conv=>whnf
 refine Be l.length (fun j=>Hk p l j) (fun j=>[(0,.sl 3 Bl l),(1,.clo (.func f) first cap),(7,.sl 3 Bl l),(8,Aa l.length),(9,Aa j)]) (fun _=>[]) [] (Bk _ _) ⟨⟨E,E,A5 _,hc,E,E,E,E,E,E,Y⟩,Y,E,E⟩ ?_
 intro j hj hI
 refine oO ?_
 refine⟨fun h=>?_,fun h=>?_⟩
 ·have h:=of_decide_eq_true h
  have hj2:j<l.length:=by omega
  refine oO ?_
  refine⟨E,by omega,by omega,?_⟩
  conv=>whnf
  refine Dq (hf j hj2) E E E (by simp only[hin];rfl) E E ?_
  refine oO ?_
  refine⟨fun h2=>?_,fun h2=>?_⟩
  ·refine oO ?_
   refine Ap E (.cons .tmp .nil) (congrArg Ab ?_) E
   exact Ch hj2 (by simpa using h2)
  ·refine oO ?_
   refine iW ?_
   exact Bb [] hI hj2 (Bf hI hj2 (by simpa using h2)) ⟨⟨E,E,A5 _,hc,E,E,E,E,E,E,Y⟩,Y,E,E⟩
 ·have h:=of_decide_eq_false h
  refine oO ?_
  refine Ap E (.cons .tmp .nil) (congrArg Ab ?_) E
  exact Dy hI q_
theorem Xa (l:List Domain) (p:Nat→Domain→Bool) (f:FuncId) (first cap:List SV) (hc:(SV.clo (.func f) first cap).inn []=true) (hf:∀ i (h:i<l.length),Ek Tryz.prog f (first++[Aa i,An l[i]]++cap) (Ab (p i l[i]))) (hl:Ak l) :
  Sy.Spec Tryz.prog 32 [.sl 6 An l,.clo (.func f) first cap] [] (Ab (Er p l)) []:=cT F32 Tryz.ntmps32 fun F hF=>by
 unfold Ak at hl
 have hin:∀ (i:Nat) (x:Domain),By [] (first++[Aa i,An x]++cap)=true:=fun i x=>Cj hc rfl
 conv=>whnf
 refine Be l.length (fun j=>Hk p l j) (fun j=>[(0,.sl 6 An l),(1,.clo (.func f) first cap),(7,.sl 6 An l),(8,Aa l.length),(9,Aa j)]) (fun _=>[]) [] (Bk _ _) ⟨⟨E,E,A5 _,hc,E,E,E,E,E,E,Y⟩,Y,E,E⟩ ?_
 intro j hj hI
 refine oO ?_
 refine⟨fun h=>?_,fun h=>?_⟩
 ·have h:=of_decide_eq_true h
  have hj2:j<l.length:=by omega
  refine oO ?_
  refine⟨E,by omega,by omega,?_⟩
  conv=>whnf
  refine Dq (hf j hj2) E E E (by simp only[hin];rfl) E E ?_
  refine oO ?_
  refine⟨fun h2=>?_,fun h2=>?_⟩
  ·refine oO ?_
   refine Ap E (.cons .tmp .nil) (congrArg Ab ?_) E
   exact Ch hj2 (by simpa using h2)
  ·refine oO ?_
   refine iW ?_
   exact Bb [] hI hj2 (Bf hI hj2 (by simpa using h2)) ⟨⟨E,E,A5 _,hc,E,E,E,E,E,E,Y⟩,Y,E,E⟩
 ·have h:=of_decide_eq_false h
  refine oO ?_
  refine Ap E (.cons .tmp .nil) (congrArg Ab ?_) E
  exact Dy hI q_
theorem Ahv (l:List Static) (p:Nat→Static→Bool) (f:FuncId) (first cap:List SV) (hc:(SV.clo (.func f) first cap).inn []=true) (hf:∀ i (h:i<l.length),Ek Tryz.prog f (first++[Aa i,As l[i]]++cap) (Ab (p i l[i]))) (hl:Ak l) :
  Sy.Spec Tryz.prog 39 [.sl 4 As l,.clo (.func f) first cap] [] (Ab (Er p l)) []:=cT F39 Tryz.ntmps39 fun F hF=>by
 unfold Ak at hl
 have hin:∀ (i:Nat) (x:Static),By [] (first++[Aa i,As x]++cap)=true:=fun i x=>Cj hc rfl
 conv=>whnf
 refine Be l.length (fun j=>Hk p l j) (fun j=>[(0,.sl 4 As l),(1,.clo (.func f) first cap),(7,.sl 4 As l),(8,Aa l.length),(9,Aa j)]) (fun _=>[]) [] (Bk _ _) ⟨⟨E,E,A5 _,hc,E,E,E,E,E,E,Y⟩,Y,E,E⟩ ?_
 intro j hj hI
 refine oO ?_
 refine⟨fun h=>?_,fun h=>?_⟩
 ·have h:=of_decide_eq_true h
  have hj2:j<l.length:=by omega
  refine oO ?_
  refine⟨E,by omega,by omega,?_⟩
  conv=>whnf
  refine Dq (hf j hj2) E E E (by simp only[hin];rfl) E E ?_
  refine oO ?_
  refine⟨fun h2=>?_,fun h2=>?_⟩
  ·refine oO ?_
   refine Ap E (.cons .tmp .nil) (congrArg Ab ?_) E
   exact Ch hj2 (by simpa using h2)
  ·refine oO ?_
   refine iW ?_
   exact Bb [] hI hj2 (Bf hI hj2 (by simpa using h2)) ⟨⟨E,E,A5 _,hc,E,E,E,E,E,E,Y⟩,Y,E,E⟩
 ·have h:=of_decide_eq_false h
  refine oO ?_
  refine Ap E (.cons .tmp .nil) (congrArg Ab ?_) E
  exact Dy hI q_
theorem Akt (l:List Flood) (p:Nat→Flood→Bool) (f:FuncId) (first cap:List SV) (hc:(SV.clo (.func f) first cap).inn []=true) (hf:∀ i (h:i<l.length),Ek Tryz.prog f (first++[Aa i,A0 l[i]]++cap) (Ab (p i l[i]))) (hl:Ak l) :
  Sy.Spec Tryz.prog 41 [.sl 4 A0 l,.clo (.func f) first cap] [] (Ab (Er p l)) []:=cT F41 Tryz.ntmps41 fun F hF=>by
 unfold Ak at hl
 have hin:∀ (i:Nat) (x:Flood),By [] (first++[Aa i,A0 x]++cap)=true:=fun i x=>Cj hc rfl
 conv=>whnf
 refine Be l.length (fun j=>Hk p l j) (fun j=>[(0,.sl 4 A0 l),(1,.clo (.func f) first cap),(7,.sl 4 A0 l),(8,Aa l.length),(9,Aa j)]) (fun _=>[]) [] (Bk _ _) ⟨⟨E,E,A5 _,hc,E,E,E,E,E,E,Y⟩,Y,E,E⟩ ?_
 intro j hj hI
 refine oO ?_
 refine⟨fun h=>?_,fun h=>?_⟩
 ·have h:=of_decide_eq_true h
  have hj2:j<l.length:=by omega
  refine oO ?_
  refine⟨E,by omega,by omega,?_⟩
  conv=>whnf
  refine Dq (hf j hj2) E E E (by simp only[hin];rfl) E E ?_
  refine oO ?_
  refine⟨fun h2=>?_,fun h2=>?_⟩
  ·refine oO ?_
   refine Ap E (.cons .tmp .nil) (congrArg Ab ?_) E
   exact Ch hj2 (by simpa using h2)
  ·refine oO ?_
   refine iW ?_
   exact Bb [] hI hj2 (Bf hI hj2 (by simpa using h2)) ⟨⟨E,E,A5 _,hc,E,E,E,E,E,E,Y⟩,Y,E,E⟩
 ·have h:=of_decide_eq_false h
  refine oO ?_
  refine Ap E (.cons .tmp .nil) (congrArg Ab ?_) E
  exact Dy hI q_
theorem Asp (l:List Vrf) (p:Nat→Vrf→Bool) (f:FuncId) (first cap:List SV) (hc:(SV.clo (.func f) first cap).inn []=true) (hf:∀ i (h:i<l.length),Ek Tryz.prog f (first++[Aa i,Bv l[i]]++cap) (Ab (p i l[i]))) (hl:Ak l) :
  Sy.Spec Tryz.prog 44 [.sl 5 Bv l,.clo (.func f) first cap] [] (Ab (Er p l)) []:=cT F44 Tryz.ntmps44 fun F hF=>by
 unfold Ak at hl
 have hin:∀ (i:Nat) (x:Vrf),By [] (first++[Aa i,Bv x]++cap)=true:=fun i x=>Cj hc rfl
 conv=>whnf
 refine Be l.length (fun j=>Hk p l j) (fun j=>[(0,.sl 5 Bv l),(1,.clo (.func f) first cap),(7,.sl 5 Bv l),(8,Aa l.length),(9,Aa j)]) (fun _=>[]) [] (Bk _ _) ⟨⟨E,E,A5 _,hc,E,E,E,E,E,E,Y⟩,Y,E,E⟩ ?_
 intro j hj hI
 refine oO ?_
 refine⟨fun h=>?_,fun h=>?_⟩
 ·have h:=of_decide_eq_true h
  have hj2:j<l.length:=by omega
  refine oO ?_
  refine⟨E,by omega,by omega,?_⟩
  conv=>whnf
  refine Dq (hf j hj2) E E E (by simp only[hin];rfl) E E ?_
  refine oO ?_
  refine⟨fun h2=>?_,fun h2=>?_⟩
  ·refine oO ?_
   refine Ap E (.cons .tmp .nil) (congrArg Ab ?_) E
   exact Ch hj2 (by simpa using h2)
  ·refine oO ?_
   refine iW ?_
   exact Bb [] hI hj2 (Bf hI hj2 (by simpa using h2)) ⟨⟨E,E,A5 _,hc,E,E,E,E,E,E,Y⟩,Y,E,E⟩
 ·have h:=of_decide_eq_false h
  refine oO ?_
  refine Ap E (.cons .tmp .nil) (congrArg Ab ?_) E
  exact Dy hI q_
theorem Asq (l:List Irb) (p:Nat→Irb→Bool) (f:FuncId) (first cap:List SV) (hc:(SV.clo (.func f) first cap).inn []=true) (hf:∀ i (h:i<l.length),Ek Tryz.prog f (first++[Aa i,Br l[i]]++cap) (Ab (p i l[i]))) (hl:Ak l) :
  Sy.Spec Tryz.prog 47 [.sl 5 Br l,.clo (.func f) first cap] [] (Ab (Er p l)) []:=cT F47 Tryz.ntmps47 fun F hF=>by
 unfold Ak at hl
 have hin:∀ (i:Nat) (x:Irb),By [] (first++[Aa i,Br x]++cap)=true:=fun i x=>Cj hc rfl
 conv=>whnf
 refine Be l.length (fun j=>Hk p l j) (fun j=>[(0,.sl 5 Br l),(1,.clo (.func f) first cap),(7,.sl 5 Br l),(8,Aa l.length),(9,Aa j)]) (fun _=>[]) [] (Bk _ _) ⟨⟨E,E,A5 _,hc,E,E,E,E,E,E,Y⟩,Y,E,E⟩ ?_
 intro j hj hI
 refine oO ?_
 refine⟨fun h=>?_,fun h=>?_⟩
 ·have h:=of_decide_eq_true h
  have hj2:j<l.length:=by omega
  refine oO ?_
  refine⟨E,by omega,by omega,?_⟩
  conv=>whnf
  refine Dq (hf j hj2) E E E (by simp only[hin];rfl) E E ?_
  refine oO ?_
  refine⟨fun h2=>?_,fun h2=>?_⟩
  ·refine oO ?_
   refine Ap E (.cons .tmp .nil) (congrArg Ab ?_) E
   exact Ch hj2 (by simpa using h2)
  ·refine oO ?_
   refine iW ?_
   exact Bb [] hI hj2 (Bf hI hj2 (by simpa using h2)) ⟨⟨E,E,A5 _,hc,E,E,E,E,E,E,Y⟩,Y,E,E⟩
 ·have h:=of_decide_eq_false h
  refine oO ?_
  refine Ap E (.cons .tmp .nil) (congrArg Ab ?_) E
  exact Dy hI q_
theorem Aso (l:List Int) (p:Nat→Int→Bool) (f:FuncId) (first cap:List SV) (hc:(SV.clo (.func f) first cap).inn []=true) (hf:∀ i (h:i<l.length),Ek Tryz.prog f (first++[Aa i,Aa l[i]]++cap) (Ab (p i l[i]))) (hl:Ak l) :
  Sy.Spec Tryz.prog 80 [.sl 1 Aa l,.clo (.func f) first cap] [] (Ab (Er p l)) []:=cT F80 Tryz.ntmps80 fun F hF=>by
 unfold Ak at hl
 have hin:∀ (i:Nat) (x:Int),By [] (first++[Aa i,Aa x]++cap)=true:=fun i x=>Cj hc rfl
 conv=>whnf
 refine Be l.length (fun j=>Hk p l j) (fun j=>[(0,.sl 1 Aa l),(1,.clo (.func f) first cap),(7,.sl 1 Aa l),(8,Aa l.length),(9,Aa j)]) (fun _=>[]) [] (Bk _ _) ⟨⟨E,E,A5 _,hc,E,E,E,E,E,E,Y⟩,Y,E,E⟩ ?_
 intro j hj hI
 refine oO ?_
 refine⟨fun h=>?_,fun h=>?_⟩
 ·have h:=of_decide_eq_true h
  have hj2:j<l.length:=by omega
  refine oO ?_
  refine⟨E,by omega,by omega,?_⟩
  conv=>whnf
  refine Dq (hf j hj2) E E E (by simp only[hin];rfl) E E ?_
  refine oO ?_
  refine⟨fun h2=>?_,fun h2=>?_⟩
  ·refine oO ?_
   refine Ap E (.cons .tmp .nil) (congrArg Ab ?_) E
   exact Ch hj2 (by simpa using h2)
  ·refine oO ?_
   refine iW ?_
   exact Bb [] hI hj2 (Bf hI hj2 (by simpa using h2)) ⟨⟨E,E,A5 _,hc,E,E,E,E,E,E,Y⟩,Y,E,E⟩
 ·have h:=of_decide_eq_false h
  refine oO ?_
  refine Ap E (.cons .tmp .nil) (congrArg Ab ?_) E
  exact Dy hI q_
structure Net.Fin (n:Net):Prop where
 devices:Ak n.devices
 ports:Ak n.ports
 links:Ak n.links
 domains:Ak n.domains
 statics:Ak n.statics
 floods:Ak n.floods
 vrfs:Ak n.vrfs
 irbs:Ak n.irbs
 tagged:∀ p∈n.ports,Ak p.tagged
 peers:∀ d∈n.domains,Ak d.peers
 addrs:∀ f∈n.floods,Ak f.addrs
 imports:∀ v∈n.vrfs,Ak v.imports
 exports:∀ v∈n.vrfs,Ak v.exports
def Ej (n:Net) (dev vlan:Int):Int:=B9 (fun d=>d.dev == dev && d.vlan == vlan) n.domains
theorem Aui (dev vlan:Int) (d:Domain):Sy.Spec Tryz.prog 140 [An d,.ref 1 (Aa dev) 0,.ref 1 (Aa vlan) 0] [] (Ab (d.dev == dev && d.vlan == vlan)) []:=cT F140 Tryz.ntmps140 fun F hF=>by
 conv=>whnf
 (repeat' (first | (refine⟨fun h=>?_,fun h=>?_⟩<;>(repeat (first | simp only[beq_iff_eq]at h | simp only[beq_eq_false_iff_ne]at h))<;>((refine oO ?_))) | (refine Ap rfl (.cons .tmp .nil) ?_ rfl)))
 all_goals (refine congrArg Ab ?_)
 all_goals simp_all
theorem L6 (n:Net) (dev vlan:Int) (hl:Ak n.domains):Sy.Spec Tryz.prog 79 [Aj n,Aa dev,Aa vlan] [] (Aa (Ej n dev vlan)) []:=cT F79 Tryz.ntmps79 fun F hF=>by
 conv=>whnf
 refine Aw 4 1 (Aa dev) E E E ?_
 refine Aw 5 1 (Aa vlan) E E E ?_
 refine c0 (Dn n.domains (fun d=>d.dev == dev && d.vlan == vlan) 140 [] [.ref 1 (Aa dev) 0,.ref 1 (Aa vlan) 0] E (fun d _=>⟨⟨_,_,F140⟩,Aui dev vlan d⟩) hl) F139 ?_
 refine oO ?_
 exact dN
def Aj7 (n:Net):Bool:=decide (n.devices.length≤8) && decide (n.ports.length≤40) && decide (n.links.length≤20) && decide (n.domains.length≤48) && decide (n.statics.length≤64) && decide (n.floods.length≤48) && decide (n.vrfs.length≤16) && decide (n.irbs.length≤48)
theorem fewS (n:Net):Sy.Spec Tryz.prog 31 [Aj n] [] (Ab (Aj7 n)) []:=cT F31 Tryz.ntmps31 fun F hF=>by
 conv=>whnf
 (repeat' (first | (refine⟨fun h=>?_,fun h=>?_⟩<;>(repeat (first | simp only[decide_eq_true_eq]at h | simp only[decide_eq_false_iff_not]at h))<;>((refine oO ?_);repeat((refine aF ?_);(refine oO ?_)))) | (refine Ap rfl (.cons .tmp .nil) ?_ rfl)))
 all_goals (refine congrArg Ab ?_)
 all_goals (unfold Aj7;rw[Bool.eq_iff_iff];simp;omega)
def Km (n:Net) (i:Nat) (d:Domain):Bool :=
 Ai d.dev n.devices.length && decide (1≤d.vlan) && decide (d.vlan≤4094) && decide (0≤d.vni) && decide (d.vni≤16777215) && (d.irb == -1 || Ai d.irb n.irbs.length && (nth n.irbs d.irb).domain == i) && Ej n d.dev d.vlan == i
theorem bareS (n:Net) (i:Nat) (d:Domain) (hl:Ak n.domains):Sy.Spec Tryz.prog 33 [Aj n,Aa i,An d] [] (Ab (Km n i d)) []:=cT F33 Tryz.ntmps33 fun F hF=>by
 conv=>whnf
 (repeat' (first | (refine⟨fun h=>?_,fun h=>?_⟩<;>(repeat (first | simp only[Ai]at h | simp only[decide_eq_true_eq]at h | simp only[decide_eq_false_iff_not]at h | simp only[beq_iff_eq]at h | simp only[beq_eq_false_iff_ne]at h | simp only[Bool.and_eq_true]at h | simp only[Bool.and_eq_false_iff]at h))<;>((refine oO ?_);repeat((first|refine aF ?_|refine aT ?_);(refine oO ?_)))) | (refine Ap rfl (.cons .tmp .nil) ?_ rfl) | (refine⟨z_,?_⟩;((conv=>whnf))) | (refine⟨by (omega),by (omega),?_⟩;((conv=>whnf))) | (refine c0 (E7 5 Aq n.devices d.dev) F43 ?_;((refine oO ?_))) | (refine c0 (Ai5 5 Br n.irbs d.irb) F78 ?_;((refine oO ?_))) | (refine c0 (L6 n d.dev d.vlan hl) F79 ?_;((refine oO ?_)))))
 all_goals (refine congrArg Ab ?_)
 all_goals (clear hF;grind [Km,Ai,Ae])
def Akz (n:Net) (d:Domain):Bool:=(nth n.devices d.dev).vtep != 0
theorem Au2 (n:Net) (d:Domain) (hd:Ai d.dev n.devices.length=true):Sy.Spec Tryz.prog 141 [Aj n,An d] [] (Ab (Akz n d)) []:=cT F141 Tryz.ntmps141 fun F hF=>by
 simp only[Ai,Bool.and_eq_true,decide_eq_true_eq]at hd
 conv=>whnf
 (repeat' (first | (refine Ap rfl (.cons .tmp .nil) ?_ rfl) | (refine⟨z_,?_⟩;((conv=>whnf))) | (refine⟨by (omega),by (omega),?_⟩;((conv=>whnf)))))
 all_goals (refine congrArg Ab ?_)
 all_goals (clear hF;grind [Akz,Ae])
def Wo (n:Net) (i:Nat) (d:Domain) (k:Int):Bool :=
 Ai k n.domains.length && k != i && Ai (nth n.domains k).dev n.devices.length && (nth n.domains k).dev != d.dev && (nth n.domains k).vni == d.vni && d.vni != 0 && Akz n (nth n.domains k) && Akz n d && inB (nth n.domains k).peers i
theorem peerS (n:Net) (i:Nat) (d:Domain) (k:Int) (hn:n.Fin) (hd:Ai d.dev n.devices.length=true):Sy.Spec Tryz.prog 82 [Aj n,Aa i,An d,Aa k] [] (Ab (Wo n i d k)) []:=cT F82 Tryz.ntmps82 fun F hF=>by
 conv=>whnf
 (repeat' (first | (refine⟨fun h=>?_,fun h=>?_⟩<;>(repeat (first | simp only[Ai]at h | simp only[decide_eq_true_eq]at h | simp only[decide_eq_false_iff_not]at h | simp only[beq_iff_eq]at h | simp only[beq_eq_false_iff_ne]at h | simp only[bne_iff_ne]at h | simp only[bne_eq_false_iff_eq]at h | simp only[Bool.and_eq_true]at h | simp only[Bool.and_eq_false_iff]at h | simp only[Bool.not_eq_true']at h | simp only[Bool.not_eq_false']at h))<;>((refine oO ?_);repeat((first|refine aF ?_|refine aT ?_);(refine oO ?_)))) | (refine Ap rfl (.cons .tmp .nil) ?_ rfl) | (refine⟨z_,?_⟩;((conv=>whnf))) | (refine⟨by (omega),by (omega),?_⟩;((conv=>whnf))) | (refine c0 (Il 6 An n.domains k) F52 ?_;((refine oO ?_))) | (refine c0 (E7 5 Aq n.devices (n.domains[k.toNat]'q_).dev) F43 ?_;((refine oO ?_))) | (refine c0 (Au2 n (n.domains[k.toNat]'q_) (by simp only[Ai,Bool.and_eq_true,decide_eq_true_eq];omega)) F141 ?_;((refine oO ?_))) | (refine c0 (Au2 n d hd) F141 ?_;((refine oO ?_))) | (refine c0 (C0 (n.domains[k.toNat]'q_).peers i (hn.peers _ (List.getElem_mem _))) F14 ?_;((refine oO ?_)))))
 all_goals (refine congrArg Ab ?_;clear hF;grind [Wo,Ai,Ae])
def Ai6 (n:Net) (i:Nat) (d:Domain):Bool:=Er (fun at_ k=>Wo n i d k && B9 (· == k) d.peers == at_) d.peers
theorem peers1 (n:Net) (i:Nat) (d:Domain) (at_:Nat) (k:Int) (hn:n.Fin) (hp:Ak d.peers) (hd:Ai d.dev n.devices.length=true) :
  Sy.Spec Tryz.prog 81 [Aa at_,Aa k,.ref 8 (Aj n) 0,.ref 1 (Aa i) 0,.ref 6 (An d) 0] [] (Ab (Wo n i d k && B9 (· == k) d.peers == at_)) []:=cT F81 Tryz.ntmps81 fun F hF=>by
 conv=>whnf
 (repeat' (first | (refine⟨fun h=>?_,fun h=>?_⟩<;>((refine oO ?_))) | (refine Ap rfl (.cons .tmp .nil) ?_ rfl) | (refine c0 (peerS n i d k hn hd) F82 ?_;((refine oO ?_))) | (refine c0 (Ark d.peers k hp) F51 ?_;((refine oO ?_)))))
 all_goals (refine congrArg Ab ?_;clear hF;grind)
theorem peersS (n:Net) (i:Nat) (d:Domain) (hn:n.Fin) (hp:Ak d.peers) (hd:Ai d.dev n.devices.length=true):Sy.Spec Tryz.prog 34 [Aj n,Aa i,An d] [] (Ab (Ai6 n i d)) []:=cT F34 Tryz.ntmps34 fun F hF=>by
 conv=>whnf
 refine Aw 3 8 (Aj n) E E E ?_
 refine Aw 4 1 (Aa i) E E E ?_
 refine Aw 5 6 (An d) E E E ?_
 refine c0 (Aso d.peers (fun at_ k=>Wo n i d k && B9 (· == k) d.peers == at_) 81 [] [.ref 8 (Aj n) 0,.ref 1 (Aa i) 0,.ref 6 (An d) 0] E (fun a ha=>⟨⟨_,_,F81⟩,peers1 n i d a d.peers[a] hn hp hd⟩) hp) F80 ?_
 refine oO ?_
 exact dN
def Di (n:Net) (dev vlan:Int):Bool:=decide (0≤Ej n dev vlan)
def I7 (n:Net) (i:Nat) (p:Port):Bool :=
 Ai p.dev n.devices.length && decide (0≤p.native) && decide (p.native≤4094) && (decide (p.tagged.length=0) || Jc p.tagged 1 4094) && !inB p.tagged p.native && !(p.native == 0 && decide (p.tagged.length=0)) &&
  Er (fun _ v=>Di n p.dev v) p.tagged && !(decide (0<p.native) && !Di n p.dev p.native) &&
  (p.link == -1 || Ai p.link n.links.length && ((nth n.links p.link).a == i || (nth n.links p.link).b == i))
theorem Ajo (n:Net) (i:Nat) (p:Port) (hn:n.Fin) (hp:Ak p.tagged):Sy.Spec Tryz.prog 36 [Aj n,Aa i,Au p] [] (Ab (I7 n i p)) []:=cT F36 Tryz.ntmps36 fun F hF=>by
 conv=>whnf
 (repeat' (first | (refine⟨fun h=>?_,fun h=>?_⟩<;>(repeat (first | simp only[Ai]at h | simp only[decide_eq_true_eq]at h | simp only[decide_eq_false_iff_not]at h | simp only[beq_iff_eq]at h | simp only[beq_eq_false_iff_ne]at h | simp only[Bool.and_eq_true]at h | simp only[Bool.or_eq_true]at h | simp only[Bool.and_eq_false_iff]at h | simp only[Bool.or_eq_false_iff]at h | simp only[Bool.not_eq_true']at h | simp only[Bool.not_eq_false']at h))<;>((refine oO ?_);repeat((first|refine aF ?_|refine aT ?_);(refine oO ?_)))) | (refine Ap rfl (.cons .tmp .nil) ?_ rfl) | (refine c0 (E7 5 Aq n.devices p.dev) F43 ?_;((refine oO ?_))) | (refine c0 (Adb p.tagged 4094 hp) F46 ?_;((refine oO ?_))) | (refine c0 (C0 p.tagged p.native hp) F14 ?_;((refine oO ?_)))))
 all_goals first | (refine congrArg Ab ?_;clear hF;grind [I7,Ai]) | skip
 all_goals (
  refine Aw 3 8 (Aj n) E E E ?_
  refine Aw 5 7 (Au p) E E E ?_
  refine Be p.tagged.length (fun j=>Hk (fun _ v=>Di n p.dev v) p.tagged j) (fun j=>[(1,Aa i),(3,.ref 8 (Aj n) 0),(5,.ref 7 (Au p) 0),(51,.sl 1 Aa p.tagged),(52,Aa p.tagged.length),(53,Aa j)]) (fun _=>[]) [] (Bk _ _) ⟨⟨E,E,E,E,E,E,E,E,E,E,E,E,Y⟩,Y,E,E⟩ ?_
  intro j hj hI
  have hsh:=hp
  unfold Ak at hsh
  (refine fU ?_))
 all_goals (
  (repeat' (first | (refine⟨fun h=>?_,fun h=>?_⟩<;>(repeat (first | simp only[Ai]at h | simp only[decide_eq_true_eq]at h | simp only[decide_eq_false_iff_not]at h | simp only[beq_iff_eq]at h | simp only[beq_eq_false_iff_ne]at h | simp only[Bool.and_eq_true]at h | simp only[Bool.and_eq_false_iff]at h))<;>((refine oO ?_);repeat((refine aF ?_);(refine oO ?_)))) | (refine Ap rfl (.cons .tmp .nil) ?_ rfl) | (refine⟨z_,?_⟩;((conv=>whnf))) | (refine⟨by (omega),by (omega),?_⟩;((conv=>whnf))) | (refine⟨by (unfold I64;omega),?_⟩;((conv=>whnf))) | (refine c0 (L6 n p.dev (p.tagged[j]'q_) hn.domains) F79 ?_;((refine oO ?_))) | (refine c0 (L6 n p.dev p.native hn.domains) F79 ?_;((refine oO ?_))) | (refine c0 (Af0 3 Bl n.links p.link) F83 ?_;((refine oO ?_))) | refine Bb [] hI q_ ?_ ⟨⟨rfl,rfl,rfl,rfl,rfl,rfl,rfl,rfl,rfl,rfl,rfl,rfl,trivial⟩,trivial,rfl,rfl⟩)))
 all_goals first
  | exact Bf hI q_ (by simp only[Di,decide_eq_true_eq];omega)
  | (refine congrArg Ab ?_
     have h0:Er (fun _ v=>Di n p.dev v) p.tagged=false:=Ch (i:=j) q_ (by simp only[Di,decide_eq_false_iff_not];omega)
     clear hF hI;grind [I7])
  | (refine congrArg Ab ?_
     have h0:Er (fun _ v=>Di n p.dev v) p.tagged=true:=Dy hI q_
     clear hF hI;grind [I7,Ai,Di,Ae])
def Og (n:Net) (i:Nat) (l:Link):Bool :=
 Ai l.a n.ports.length && Ai l.b n.ports.length && (nth n.ports l.a).dev != (nth n.ports l.b).dev && (nth n.ports l.a).link == i && (nth n.ports l.b).link == i
theorem Ajp (n:Net) (i:Nat) (l:Link):Sy.Spec Tryz.prog 38 [Aj n,Aa i,Bl l] [] (Ab (Og n i l)) []:=cT F38 Tryz.ntmps38 fun F hF=>by
 conv=>whnf
 (repeat' (first | (refine⟨fun h=>?_,fun h=>?_⟩<;>(repeat (first | simp only[Ai]at h | simp only[decide_eq_true_eq]at h | simp only[decide_eq_false_iff_not]at h | simp only[beq_iff_eq]at h | simp only[beq_eq_false_iff_ne]at h | simp only[bne_iff_ne]at h | simp only[bne_eq_false_iff_eq]at h | simp only[Bool.and_eq_true]at h | simp only[Bool.and_eq_false_iff]at h | simp only[Bool.not_eq_true']at h | simp only[Bool.not_eq_false']at h))<;>((refine oO ?_);repeat((first|refine aF ?_|refine aT ?_);(refine oO ?_)))) | (refine Ap rfl (.cons .tmp .nil) ?_ rfl) | (refine⟨z_,?_⟩;((conv=>whnf))) | (refine⟨by (omega),by (omega),?_⟩;((conv=>whnf))) | (refine c0 (M9 7 Au n.ports l.a) F84 ?_;((refine oO ?_))) | (refine c0 (M9 7 Au n.ports l.b) F84 ?_;((refine oO ?_)))))
 all_goals (refine congrArg Ab ?_;clear hF;grind [Og,Ai,Ae])
def O9 (n:Net) (s:Static):Bool :=
 Ai s.domain n.domains.length && Ai s.port n.ports.length && (nth n.ports s.port).dev == (nth n.domains s.domain).dev && Ci (nth n.ports s.port) (nth n.domains s.domain).vlan
theorem Adw (n:Net) (i:Nat) (s:Static) (hn:n.Fin):Sy.Spec Tryz.prog 40 [Aj n,Aa i,As s] [] (Ab (O9 n s)) []:=cT F40 Tryz.ntmps40 fun F hF=>by
 conv=>whnf
 (repeat' (first | (refine⟨fun h=>?_,fun h=>?_⟩<;>(repeat (first | simp only[Ai]at h | simp only[decide_eq_true_eq]at h | simp only[decide_eq_false_iff_not]at h | simp only[beq_iff_eq]at h | simp only[beq_eq_false_iff_ne]at h | simp only[Bool.and_eq_true]at h | simp only[Bool.and_eq_false_iff]at h | simp only[Bool.not_eq_true']at h | simp only[Bool.not_eq_false']at h))<;>((refine oO ?_);repeat((refine aT ?_);(refine oO ?_)))) | (refine Ap rfl (.cons .tmp .nil) ?_ rfl) | (refine⟨z_,?_⟩;((conv=>whnf))) | (refine⟨by (omega),by (omega),?_⟩;((conv=>whnf))) | (refine c0 (Il 6 An n.domains s.domain) F52 ?_;((refine oO ?_))) | (refine c0 (M9 7 Au n.ports s.port) F84 ?_;((refine oO ?_))) | (refine c0 (T8 (n.ports[s.port.toNat]'q_) (n.domains[s.domain.toNat]'q_).vlan (hn.tagged _ (List.getElem_mem _))) F53 ?_;((refine oO ?_)))))
 all_goals (refine congrArg Ab ?_;clear hF;grind [O9,Ai,Ae])
def Ajq (n:Net) (i:Nat) (x:Irb):Bool :=
 Ai x.domain n.domains.length && Ai x.vrf n.vrfs.length && (nth n.domains x.domain).dev == (nth n.vrfs x.vrf).dev && (nth n.domains x.domain).irb == i && decide (1≤x.bits) && decide (x.bits≤30)
theorem Aoc (n:Net) (i:Nat) (x:Irb):Sy.Spec Tryz.prog 48 [Aj n,Aa i,Br x] [] (Ab (Ajq n i x)) []:=cT F48 Tryz.ntmps48 fun F hF=>by
 conv=>whnf
 (repeat' (first | (refine⟨fun h=>?_,fun h=>?_⟩<;>(repeat (first | simp only[Ai]at h | simp only[decide_eq_true_eq]at h | simp only[decide_eq_false_iff_not]at h | simp only[beq_iff_eq]at h | simp only[beq_eq_false_iff_ne]at h | simp only[Bool.and_eq_true]at h | simp only[Bool.and_eq_false_iff]at h))<;>((refine rd z_ ?_);(conv=>whnf);repeat((refine aF ?_);(refine rd z_ ?_);(conv=>whnf)))) | (refine Ap rfl (.cons .tmp .nil) ?_ rfl) | (refine⟨z_,?_⟩;((conv=>whnf))) | (refine⟨by (omega),by (omega),?_⟩;((conv=>whnf))) | (refine cD (Il 6 An n.domains x.domain) F52 ?_;((refine rd z_ ?_);(conv=>whnf))) | (refine cD (Ai4 5 Bv n.vrfs x.vrf) F86 ?_;((refine rd z_ ?_);(conv=>whnf)))))
 all_goals (refine congrArg Ab ?_;clear hF;grind [Ajq,Ai,Ae])
def S1 (n:Net) (f:Flood):Bool:=Ai f.dev n.devices.length && decide (f.addrs.length≤16)
theorem right1 (n:Net) (i:Nat) (f:Flood):Sy.Spec Tryz.prog 42 [Aa i,A0 f,.ref 8 (Aj n) 0] [] (Ab (S1 n f)) []:=cT F42 Tryz.ntmps42 fun F hF=>by
 conv=>whnf
 (repeat' (first | (refine⟨fun h=>?_,fun h=>?_⟩<;>(repeat (first | simp only[Ai]at h | simp only[decide_eq_true_eq]at h | simp only[decide_eq_false_iff_not]at h | simp only[Bool.and_eq_true]at h | simp only[Bool.and_eq_false_iff]at h))<;>((refine oO ?_))) | (refine Ap rfl (.cons .tmp .nil) ?_ rfl) | (refine c0 (E7 5 Aq n.devices f.dev) F43 ?_;((refine oO ?_)))))
 all_goals (refine congrArg Ab ?_;clear hF;grind [S1,Ai])
def Afl (l:List Int) (most:Int):Bool:=decide (l.length=0) || Jc l 1 most
def As6 (n:Net) (v:Vrf):Bool:=Ai v.dev n.devices.length && Afl v.imports 65535 && Afl v.exports 65535
theorem right2 (n:Net) (i:Nat) (v:Vrf) (h1:Ak v.imports) (h2:Ak v.exports):Sy.Spec Tryz.prog 45 [Aa i,Bv v,.ref 8 (Aj n) 0] [] (Ab (As6 n v)) []:=cT F45 Tryz.ntmps45 fun F hF=>by
 conv=>whnf
 (repeat' (first | (refine⟨fun h=>?_,fun h=>?_⟩<;>(repeat (first | simp only[Ai]at h | simp only[decide_eq_true_eq]at h | simp only[decide_eq_false_iff_not]at h | simp only[Bool.and_eq_true]at h | simp only[Bool.or_eq_true]at h | simp only[Bool.and_eq_false_iff]at h | simp only[Bool.or_eq_false_iff]at h))<;>((refine oO ?_);repeat((refine aF ?_);(refine oO ?_)))) | (refine Ap rfl (.cons .tmp .nil) ?_ rfl) | (refine c0 (E7 5 Aq n.devices v.dev) F43 ?_;((refine oO ?_))) | (refine c0 (Adb v.imports 65535 h1) F46 ?_;((refine oO ?_))) | (refine c0 (Adb v.exports 65535 h2) F46 ?_;((refine oO ?_)))))
 all_goals (refine congrArg Ab ?_;clear hF;grind [As6,Afl,Ai])
def Ac (n:Net):Bool :=
 Aj7 n && Er (Km n) n.domains && Er (Ai6 n) n.domains && Er (I7 n) n.ports && Er (Og n) n.links && Er (fun _=>O9 n) n.statics && Er (fun _=>S1 n) n.floods && Er (fun _=>As6 n) n.vrfs && Er (Ajq n) n.irbs
theorem Ahr {n:Net} (h:Er (Km n) n.domains=true) {i:Nat} (hi:i<n.domains.length):Ai n.domains[i].dev n.devices.length=true:=by
 have:=allB_iff.1 h i hi
 simp only[Km,Bool.and_eq_true]at this
 exact this.1.1.1.1.1.1
theorem At (n:Net) (hn:n.Fin):Sy.Spec Tryz.prog 12 [Aj n] [] (Ab (Ac n)) []:=cT F12 Tryz.ntmps12 fun F hF=>by
 conv=>whnf
 refine Aw 1 8 (Aj n) E E E ?_
 (repeat' (first | (refine⟨fun h=>?_,fun h=>?_⟩<;>((refine oO ?_);repeat((refine aF ?_);(refine oO ?_)))) | (refine Ap rfl (.cons .tmp .nil) ?_ rfl) | (refine c0 (fewS n) F31 ?_;((refine oO ?_))) | (refine c0 (Xa n.domains (Km n) 33 [Aj n] [] rfl (fun i h=>⟨⟨_,_,F33⟩,bareS n i n.domains[i] hn.domains⟩) hn.domains) F32 ?_;((refine oO ?_))) | (refine Kl (Xa n.domains (Ai6 n) 34 [Aj n] [] rfl (fun i h=>⟨⟨_,_,F34⟩,peersS n i n.domains[i] hn (hn.peers _ (List.getElem_mem _)) (Ahr ‹_› h)⟩) hn.domains) F32 rfl rfl rfl rfl rfl ?_;((refine oO ?_))) | (refine Kl (Ao3 n.ports (I7 n) 36 [Aj n] [] rfl (fun i h=>⟨⟨_,_,F36⟩,Ajo n i n.ports[i] hn (hn.tagged _ (List.getElem_mem _))⟩) hn.ports) F35 rfl rfl rfl rfl rfl ?_;((refine oO ?_))) | (refine c0 (Ao4 n.links (Og n) 38 [Aj n] [] rfl (fun i h=>⟨⟨_,_,F38⟩,Ajp n i n.links[i]⟩) hn.links) F37 ?_;((refine oO ?_))) | (refine c0 (Ahv n.statics (fun _=>O9 n) 40 [Aj n] [] rfl (fun i h=>⟨⟨_,_,F40⟩,Adw n i n.statics[i] hn⟩) hn.statics) F39 ?_;((refine oO ?_))) | (refine c0 (Akt n.floods (fun _=>S1 n) 42 [] [.ref 8 (Aj n) 0] rfl (fun i h=>⟨⟨_,_,F42⟩,right1 n i n.floods[i]⟩) hn.floods) F41 ?_;((refine oO ?_))) | (refine Kl (Asp n.vrfs (fun _=>As6 n) 45 [] [.ref 8 (Aj n) 0] rfl (fun i h=>⟨⟨_,_,F45⟩,right2 n i n.vrfs[i] (hn.imports _ (List.getElem_mem _)) (hn.exports _ (List.getElem_mem _))⟩) hn.vrfs) F44 rfl rfl rfl rfl rfl ?_;((refine oO ?_))) | (refine c0 (Asq n.irbs (Ajq n) 48 [Aj n] [] rfl (fun i h=>⟨⟨_,_,F48⟩,Aoc n i n.irbs[i]⟩) hn.irbs) F47 ?_;((refine oO ?_)))))
 all_goals (refine congrArg Ab ?_)
 all_goals (clear hF;simp_all[Ac])
theorem Aa3 {P:Program} (Γ:Ty P) {o:Oper} {s:SS} {t:TypeId} {ti:TI} {et:TypeId} {sz eb lo hi:Nat} {ez:List Value} {x:Operand} {lx hx:Option Operand} {α:Type} {e:α→SV} {l:List α} (r:List α)
  (h:o.op=.slice t x lx hx none) (ht:Γ.get t=some ti) (hk:ti.k=.slice et sz eb ez) (hxe:ev s x=.sl sz e l) (hlo:BoundIs s lx 0 lo) (hhi:BoundIs s hx l.length hi) (h1:lo≤hi) (h2:hi≤l.length) (hr:(l.take hi).drop lo=r) :
  Good P o s ⟨.sl sz e r,[],[]⟩:=by
 subst hr
 exact Cs Γ h ht hk hxe hlo hhi h1 h2
theorem Ab4 (a:Int):Sy.Spec Tryz.prog 272 [Aa a] [] (Ab false) []:=cT F272 Tryz.ntmps272 fun F hF=>by
 conv=>whnf
 exact Ap E (.cons .tmp .nil) (congrArg Ab y_) E
theorem Ab3 (a:Int):Sy.Spec Tryz.prog 273 [A9 a] [] (Ab false) []:=cT F273 Tryz.ntmps273 fun F hF=>by
 conv=>whnf
 exact Ap E (.cons .tmp .nil) (congrArg Ab y_) E
def cmpI (a b:Int):Int:=if a<b then -1 else if a>b then 1 else 0
theorem Hs (a b:Int):Sy.Spec Tryz.prog 216 [Aa a,Aa b] [] (Aa (cmpI a b)) []:=cT F216 Tryz.ntmps216 fun F hF=>by
 conv=>whnf
 (repeat' (first | (refine⟨fun h=>?_,fun h=>?_⟩<;>(repeat (first | simp only[decide_eq_true_eq]at h | simp only[decide_eq_false_iff_not]at h))<;>((refine oO ?_))) | (refine Ap rfl (.cons .tmp .nil) ?_ rfl) | (refine c0 (Ab4 a) F272 ?_;((refine oO ?_))) | (refine c0 (Ab4 b) F272 ?_;((refine oO ?_);repeat((refine aF ?_);(refine oO ?_))))))
 all_goals (refine congrArg Aa ?_;clear hF;grind [cmpI])
theorem Ahh (a b:Int):Sy.Spec Tryz.prog 217 [A9 a,A9 b] [] (Aa (cmpI a b)) []:=cT F217 Tryz.ntmps217 fun F hF=>by
 conv=>whnf
 (repeat' (first | (refine⟨fun h=>?_,fun h=>?_⟩<;>(repeat (first | simp only[decide_eq_true_eq]at h | simp only[decide_eq_false_iff_not]at h))<;>((refine oO ?_))) | (refine Ap rfl (.cons .tmp .nil) ?_ rfl) | (refine c0 (Ab3 a) F273 ?_;((refine oO ?_))) | (refine c0 (Ab3 b) F273 ?_;((refine oO ?_);repeat((refine aF ?_);(refine oO ?_))))))
 all_goals (refine congrArg Aa ?_;clear hF;grind [cmpI])
def orI:List Int→Int
 | []=>0
 | x::l=>if x=0 then orI l else x
theorem Yv:∀ {l:List Int} {j:Nat},(∀ i (h:i<l.length),i<j→l[i]=0)→orI l=orI (l.drop j)
 | l,0,_=>rfl
 | [],j+1,_=>rfl
 | x::l,j+1,h=>by
  have h0:=h 0 y_ q_
  simp only[List.getElem_cons_zero]at h0
  rw[orI,if_pos h0,List.drop_succ_cons]
  exact Yv fun i hi hij=>h (i+1) (by simp;omega) q_
theorem orS (l:List Int) (hl:Ak l):Sy.Spec Tryz.prog 215 [.sl 1 Aa l] [] (Aa (orI l)) []:=cT F215 Tryz.ntmps215 fun F hF=>by
 unfold Ak at hl
 conv=>whnf
 refine Be l.length (fun j=>∀ i (h:i<l.length),i<j→l[i]=0) (fun j=>[(3,Aa 0),(6,.sl 1 Aa l),(7,Aa l.length),(8,Aa j)]) (fun _=>[]) [] (fun i h hj=>absurd hj q_) ⟨⟨E,E,E,E,E,E,E,E,Y⟩,Y,E,E⟩ ?_
 intro j hj hI
 refine oO ?_
 (repeat' (first | (refine⟨fun h=>?_,fun h=>?_⟩<;>(repeat (first | simp only[decide_eq_true_eq]at h | simp only[decide_eq_false_iff_not]at h | simp only[bne_iff_ne]at h | simp only[bne_eq_false_iff_eq]at h))<;>((refine oO ?_))) | (refine Ap rfl (.cons .tmp .nil) ?_ rfl) | (refine⟨z_,?_⟩;((conv=>whnf))) | (refine⟨by (omega),by (omega),?_⟩;((conv=>whnf))) | (refine⟨by (unfold I64;omega),?_⟩;((conv=>whnf))) | refine Bb [] hI q_ ?_ ⟨⟨rfl,rfl,rfl,rfl,rfl,rfl,rfl,rfl,trivial⟩,trivial,rfl,rfl⟩))
 all_goals try (refine congrArg Aa ?_)
 ·have hj2:j<l.length:=by omega
  rw[Yv hI,List.drop_eq_getElem_cons hj2,orI,if_neg (by simpa using h)]
  rfl
 ·intro i hi hij
  rcases Nat.lt_or_ge i j with h1 | h1
  ·exact hI i hi h1
  ·have:i=j:=by omega
   subst this
   simpa using h
 ·rw[Yv hI,List.drop_of_length_le q_]
  rfl
theorem L0 (a b:Int) (l:List Int):decide (orI (cmpI a b::l)<0)=if a≠b then decide (a<b) else decide (orI l<0):=by
 rw[orI,cmpI]
 by_cases h1:a<b
 ·simp[h1,show a≠b by omega]
 ·by_cases h2:a>b
  ·simp[h1,h2,show a≠b by omega]
  ·simp[show a=b by omega]
structure Vec where
 (root cost bridge port own:Int)
def Mz (v:Vec):SV:=.agg [Aa v.root,Aa v.cost,Aa v.bridge,Aa v.port,Aa v.own]
def Ab0 (a b:Vec):Bool :=
 if a.root≠b.root then decide (a.root<b.root) else if a.cost≠b.cost then decide (a.cost<b.cost) else if a.bridge≠b.bridge then decide (a.bridge<b.bridge) else
  if a.port≠b.port then decide (a.port<b.port) else decide (a.own<b.own)
theorem lessS (a b:Vec):Sy.Spec Tryz.prog 276 [Mz a,Mz b] [] (Ab (Ab0 a b)) []:=cT F276 Tryz.ntmps276 fun F hF=>by
 conv=>whnf
 (repeat' (first | (refine⟨fun h=>?_,fun h=>?_⟩<;>(repeat (first | simp only[beq_iff_eq]at h | simp only[beq_eq_false_iff_ne]at h | simp only[Bool.and_eq_true]at h | simp only[Bool.and_eq_false_iff]at h))<;>((refine oO ?_))) | (refine Ap rfl (.cons .tmp .nil) ?_ rfl) | (refine⟨z_,?_⟩;((conv=>whnf))) | (refine cD (Hs a.root b.root) F216 ?_;((refine rd z_ ?_);(conv=>whnf))) | (refine cD (Hs a.cost b.cost) F216 ?_;((refine rd z_ ?_);(conv=>whnf))) | (refine cD (Hs a.bridge b.bridge) F216 ?_;((refine rd z_ ?_);(conv=>whnf))) | (refine cD (Hs a.port b.port) F216 ?_;((refine rd z_ ?_);(conv=>whnf))) | (refine cD (Hs a.own b.own) F216 ?_;((refine rd z_ ?_);(conv=>whnf))) | (refine Asf [33] (orS [cmpI a.root b.root,cmpI a.cost b.cost,cmpI a.bridge b.bridge,cmpI a.port b.port,cmpI a.own b.own] (by simp[Ak])) F215 rfl (.cons (.lit rfl rfl rfl) .nil) rfl z_ rfl ?_;((refine rd z_ ?_);(conv=>whnf)))))
 all_goals (refine congrArg Ab ?_;clear hF)
 ·grind [Ab0]
 ·rw[L0,L0,L0,L0,L0,Ab0]
  by_cases h1:a.own=b.own
  ·simp[h1,orI]
  ·simp[h1]
end Go.Sy.YtcflgpijohhfbaaGreat
namespace Go.Sy.YtcflgpijohhfbaaGreat
open Go.Proofs
structure LineM where
 row:Int
 kind:Int
 dev:ByteArray
 port:ByteArray
 peer:ByteArray
 far:ByteArray
 name:ByteArray
 mac:Int
 addr:Int
 bits:Int
 vlan:Int
 num:Int
 cost:Int
 tagged:List Int
 imports:List Int
 exports:List Int
 addrs:List Int
def Ec (l:LineM):List SV:=[Aa l.row,Aa l.kind,C7 l.dev,C7 l.port,C7 l.peer,C7 l.far,C7 l.name,A9 l.mac,A4 l.addr,Aa l.bits,Aa l.vlan,Aa l.num,Aa l.cost,.sl 1 Aa l.tagged,.sl 1 Aa l.imports,.sl 1 Aa l.exports,.sl 1 A4 l.addrs]
def A2 (l:LineM):SV:=.agg [Aa l.row,Aa l.kind,C7 l.dev,C7 l.port,C7 l.peer,C7 l.far,C7 l.name,A9 l.mac,A4 l.addr,Aa l.bits,Aa l.vlan,Aa l.num,Aa l.cost,.sl 1 Aa l.tagged,.sl 1 Aa l.imports,.sl 1 Aa l.exports,.sl 1 A4 l.addrs]
theorem Aqr (x:Int) (l:List Int):orI (x::l)=Wd x (orI l):=by
 rw[orI];unfold Wd;split<;>simp_all
theorem CmpOK.const {α:Type}:CmpOK (fun _ _:α=>(0:Int)):=⟨fun _ _=>by simp,fun _ _ _ _ _=>by simp⟩
theorem CmpOK.or {α:Type} {c:α→α→Int} {d:α→α→List Int} (hc:CmpOK c) (hd:CmpOK (fun x y=>orI (d x y))):CmpOK (fun x y=>orI (c x y::d x y)):=by
 have h:=hc.then hd
 simp only[Aqr]
 exact h
end Go.Sy.YtcflgpijohhfbaaGreat
namespace Go.Sy
theorem Aam {M:Nat→Prop} {w:World} {sz:Nat} {α:Type} {e:α→SV} {v:Value} (h:v=.slice none 0 0):RdD M w (.sl sz e []) v:=by
 simp only[RdD]
 exact .inl ⟨Y,none,0,h⟩
theorem Ah0 {C:Cx} {k:List KI} {s:SS} (d:Nat) {sz:Nat} {α β:Type} {e:α→SV} {l:List α} {e':β→SV} {l':List β} (h:s.h d=.row sz e l) (hl:l'.length=l.length)
  (hv:∀ (M:Nat→Prop) (w:World) (i:Nat) (h1:i<l.length) (h2:i<l'.length) (v:Value),RdD M w (e l[i]) v→RdD M w (e' l'[i]) v) (hg:G C k ⟨s.σ,upd s.h d (.row sz e' l')⟩):G C k s:=fun κ a w hs =>
 hg κ a w ⟨hs.defers,hs.size,hs.inv,hs.ctx,hs.slot,fun i=>by
  show ObOK κ w i (upd s.h d (.row sz e' l') i)
  by_cases hi:i=d
  ·subst hi
   rw[Bi]
   have:=hs.obj i
   rw[h]at this
   rcases this with ⟨h1,rfl⟩ | ⟨b,cap,cs,T,fr,e1,e2,e3,e4,e5,e6⟩
   ·exact .inl ⟨h1,List.eq_nil_of_length_eq_zero (by simpa using hl)⟩
   ·refine .inr ⟨b,cap,cs,T,fr,by rw[hl];exact e1,e2,e3,e4,by omega,fun i x hx=>?_⟩
    obtain ⟨hi2,rfl⟩:=hx
    obtain ⟨_,u,hu,hrest⟩:=e6 i (e (l[i]'q_)) ⟨by omega,rfl⟩
    exact⟨hi2,u,hv _ _ i q_ hi2 u hu,hrest⟩
  ·rw[B6 _ _ hi];exact hs.obj i⟩
theorem Amc {κ:Ka} {w:World} {x:SV}:∀ {l:List SV} {cs:List Value} {i:Nat},RdL κ w l cs→(∀ y v,l[i]? = some y→Rd κ w y v→Rd κ w x v)→RdL κ w (l.set i x) cs
 | [],_,_,h,_=>h
 | y::l,cs,0,h,hx=>by
  simp only[RdL,List.set_cons_zero]at h ⊢
  obtain ⟨v,r,e1,e2,e3⟩:=h
  exact⟨v,r,e1,hx y v E e2,e3⟩
 | y::l,cs,i+1,h,hx=>by
  simp only[RdL,List.set_cons_succ]at h ⊢
  obtain ⟨v,r,e1,e2,e3⟩:=h
  exact⟨v,r,e1,e2,Amc e3 (fun z u hz hu=>hx z u hz hu)⟩
theorem Ah1 {C:Cx} {k:List KI} {s:SS} (b i d sz:Nat) {α:Type} (e:α→SV) {l:List SV} (hb:s.h b=.box l) (h:l[i]? = some (.val (.slice none 0 0))) (hd:s.h d=.fresh) (hbd:Nat.beq b d=false)
  (hg:G C k ⟨s.σ,upd (upd s.h b (.box (l.set i (.osl d)))) d (.row sz e [])⟩):G C k s:=fun κ a w hs=>by
 have hne:b≠d:=fun e=>by rw[e,Nat.beq_refl]at hbd;cases hbd
 have hnew:κ d=.new:=by have:=hs.obj d;rwa [hd]at this
 obtain ⟨st,inv⟩:=Hu hs.inv hnew (e:=.nil) (Grew.refl w) (fun b hb=>by cases hb)
 refine hg (C4 κ d .nil) a w ⟨hs.defers,hs.size,inv,hs.ctx.step inv st,fun j=>Rd.step st _ _ (hs.slot j),fun j=>?_⟩
 show ObOK _ w j (upd (upd s.h b (.box (l.set i (.osl d)))) d (.row sz e []) j)
 by_cases hj:j=d
 ·subst hj;rw[Bi];exact .inl ⟨Ar _ _ _,rfl⟩
 ·rw[B6 _ _ hj]
  by_cases hjb:j=b
  ·subst hjb
   rw[Bi]
   have:=ObOK.step st hj _ (hs.obj j)
   rw[hb]at this
   obtain ⟨b',cs,T,fr,e1,e2,e3,e4,e5⟩:=this
   refine⟨b',cs,T,fr,e1,e2,e3,e4,Amc e5 fun y v hy hv=>?_⟩
   rw[h]at hy
   cases hy
   simp only[Rd]at hv
   simp only[Rd,Ar]
   exact hv
  ·rw[B6 _ _ hjb];exact ObOK.step st hj _ (hs.obj j)
theorem Qp {P:Program} (w:World) {t e:TypeId} (h:P.underlying t=some (.slice e)) (ad:Option Addr) (n cap c1 c2:Nat):(Op.equal t (.slice ad n cap) (.slice none c1 c2)).run P w=.ok ad.isNone w:=by
 have key:∀ d,(Op.equalIn (d+1) t (.slice ad n cap) (.slice none c1 c2)).run P w=.ok ad.isNone w:=fun d=>by
  cases ad<;>simp[Op.equalIn,run_underlying h]
 exact key 9999
inductive NilT (s:SS):SV→List Nat→Nat→Prop
 | sl {sz:Nat} {α:Type} {e:α→SV} {l:List α}:NilT s (.sl sz e l) [] l.length
 | row {k sz:Nat} {α:Type} {e:α→SV} {l:List α} (h:s.h k=.row sz e l):NilT s (.osl k) [k] l.length
theorem NilT.at {C:Cx} {s:SS} {κ:Ka} {a:Act} {w:World} {x:Operand} {rd:List Nat} {n:Nat} (hs:St C.F C.n s κ a w) (hx:NilT s (ev s x) rd n):∃ (ad:Option Addr) (m cap:Nat),a.eval x=.slice ad m cap∧(ad.isNone=true→n=0):=by
 have h1:Rd κ w (ev s x) (a.eval x):=hs.ev x
 generalize ev s x=y at *
 cases hx with
 | @sl sz α e l =>
  simp only[Rd,RdD]at h1
  rcases h1 with ⟨rfl,a',cap,h1⟩ | ⟨b,off,cap,h1,_⟩
  ·exact⟨_,_,_,h1,fun _=>rfl⟩
  ·exact⟨_,_,_,h1,fun h=>by cases h⟩
 | @row k' sz α e l hr =>
  have hob:=hs.obj k'
  rw[hr]at hob
  simp only[Rd]at h1
  rcases hob with ⟨hκ,hl⟩ | ⟨b,cap,_,_,_,hκ,_⟩
  ·rw[hκ]at h1
   exact⟨_,_,_,h1,fun _=>by rw[hl];rfl⟩
  ·rw[hκ]at h1
   exact⟨_,_,_,h1,fun h=>by cases h⟩
theorem C3 {C:Cx} {k:List KI} {s:SS} {all:Array Oper} {o:Oper} {rest:List Oper} {op:BinOp} {t yt:TypeId} {ti:TI} {et:TypeId} {sz eb n:Nat} {ez:List Value} {x y:Operand} {rd:List Nat} (h:o.op=.binOp op t x y yt) (hop:op=.eql∨op=.neq)
  (ht:C.Γ.get t=some ti) (hk:ti.k=.slice et sz eb ez) (hy:ev s y=.val (.slice none 0 0)) (hx:NilT s (ev s x) rd n) (hd:Oy C.n o=true) (hw:Dt C.n all o s=some true)
  (hg:∀ b:Bool,(b=true→n=0)→G C (.ops all rest::k) (s.upd o.dst ⟨.val (.bool (if op=.eql then b else !b)),rd,[]⟩)):G C (.ops all (o::rest)::k) s:=fun κ a w hs=>by
 have h2:Rd κ w (ev s y) (a.eval y):=hs.ev y
 rw[hy]at h2
 obtain ⟨ad,m,cap,e1,e2⟩:=hx.at hs
 obtain ⟨d,info,z,k1,k2,_⟩:=C.Γ.ok t ti ht
 rw[hk]at k2
 simp only[TK.ok]at k2
 have hrun:=Qp (P:=C.P) w (t:=t) (e:=et) (by first | exact k2.1 ▸ k1 | (rw[k1,k2.1])) ad m cap 0 0
 have hG:=hg ad.isNone e2
 have hv:=h2.val
 refine wpList_step fun K hK=>?_
 rw[if_pos (Tf hs (Eg hw).2 (Eg hw).1)]
 have hx':(execOp a.eval o).run C.P w=.ok (.value (.bool (if op=.eql then ad.isNone else !ad.isNone))) w:=by
  rcases hop with rfl | rfl<;>simp[execOp,h,e1,hv,eqGuard,binOp,hrun]
 simp only[Oper.wp,hx',Oper.upon]
 exact hK _ _ (hG κ _ w (hs.put (U:=⟨.val (.bool (if op=.eql then ad.isNone else !ad.isNone)),rd,[]⟩) (Zx hd) (Step.refl _ κ w) hs.inv (by simp[Rd]) (fun p hp=>by cases hp)))
def KeepL (s:SS):List (Nat × Ob)→Prop
 | []=>True
 | (k,o)::r=>s.h k=o∧KeepL s r
theorem KeepL.all {s:SS}:∀ {l:List (Nat × Ob)},KeepL s l→∀ p∈l,s.h p.1=p.2
 | [],_,p,hp=>by cases hp
 | (k,o)::r,h,p,hp=>by
  rcases List.mem_cons.1 hp with rfl | hp
  ·exact h.1
  ·exact KeepL.all h.2 p hp
theorem stepD2 {C:Cx} {k:List KI} {s:SS} {all:Array Oper} {done:List Stp} {o:Oper} {rest:List Oper} {U:Up} (hg:Good C.P o s U) (hk:KeepL s U.objs) (hi:all[done.length]? = some o) (hw:Dt C.n all o s=some true)
  (h:DR C k all (done++[⟨done.length,o,⟨U.v,U.rd++U.ws,[]⟩,true⟩]) rest (s.upd o.dst ⟨U.v,U.rd++U.ws,[]⟩)) (hn:(Hp o || Kx o)=false:=by rfl):DR C k all done (o::rest) s :=
 Asx _ (.of2 (hg.keep hk.all) hn) hi (Eg hw).1 h
theorem Amv {κ:Ka} {w w':World} (hi:Inv κ w) (g:Grew w w'):Step (fun _=>False) κ w κ w'∧Inv κ w' :=
 ⟨⟨g.size,g.os,g.tape,g.output,rfl,fun b hb=>g.blk b (hi.mbnd b hb),fun b hb _=>g.blk b hb,fun k b _ hb=>g.blk b (hi.bnd k b hb),fun _ _=>rfl,fun _ h=>h.elim,fun _ h=>.inl h⟩,
  ⟨hi.inj,fun k b h=>Nat.lt_of_lt_of_le (hi.bnd k b h) g.size,hi.apart,fun b h=>Nat.lt_of_lt_of_le (hi.mbnd b h) g.size⟩⟩
theorem Um {P:Program} {o:Oper} {s:SS} {x y:Operand} {at_:Array TypeId} {k k':IntKind} {m n:Int} (h:o.op=.call ⟨.builtin .min,#[x,y],at_⟩)
  (hx:ev s x=.val (.int k m)) (hy:ev s y=.val (.int k' n)):Good P o s ⟨.val (.int k (if n<m then n else m)),[],[]⟩ :=
 Good.pure fun κ a w _ hr ho=>by
  have h1:=hr x (by simp[h,Op.operands,Call.operands])
  have h2:=hr y (by simp[h,Op.operands,Call.operands])
  rw[hx]at h1
  rw[hy]at h2
  refine⟨.int k (if n<m then n else m),?_,by simp[Rd]⟩
  simp[execOp,h,resolve,invoke,builtin,Builtin.min_,Builtin.min2,h1.val,h2.val]
end Go.Sy
namespace Go.Sy.YtcflgpijohhfbaaGreat
open Go.Proofs
def At6 (c:UInt8) (l:List UInt8):Nat:=(Lib.indexByte l c).toNat
def Afo (c:UInt8) (l:List UInt8):Nat→List UInt8
 | 0=>l
 | j+1=>(Afo c l j).drop (At6 c (Afo c l j)+1)
def pieceL (c:UInt8) (l:List UInt8) (j:Nat):List UInt8:=(Afo c l j).take (At6 c (Afo c l j))
def mkT (l:List UInt8):ByteArray:=⟨l.toArray⟩
def Ac2 (c:UInt8) (s:ByteArray):List ByteArray :=
 (List.range (s.data.toList.count c)).map (fun j=>mkT (pieceL c s.data.toList j))++[mkT (Afo c s.data.toList (s.data.toList.count c))]
end Go.Sy.YtcflgpijohhfbaaGreat
namespace Go.Sy.YtcflgpijohhfbaaGreat
open Go.Proofs
attribute [local irreducible] Go.Sy.G Go.Sy.DR
set_option maxRecDepth 20000
set_option maxHeartbeats 4000000
def Asc (c:UInt8):Bool:=decide (48≤c.toNat) && decide (c.toNat≤57)
def valU (s:ByteArray):Nat→Int
 | 0=>0
 | j+1=>10 * valU s j+((Ep s j).toNat-48)
def digsB (s:ByteArray):Bool:=(List.range s.size).all fun i=>Asc (Ep s i)
def Ac4 (s:ByteArray) (most:Int):Int × Bool :=
 if s.size=0∨3<s.size∨(1<s.size∧(Ep s 0).toNat=48)∨digsB s=false then (0,false) else (valU s s.size,decide (valU s s.size≤most))
end Go.Sy.YtcflgpijohhfbaaGreat
namespace Go.Sy.YtcflgpijohhfbaaGreat
open Go.Proofs
def To {α:Type} (l:List α) (j:Nat):List α:=List.ofFn fun i:Fin l.length=>if i.1<j∨l.length-j≤i.1 then l[l.length-1-i.1] else l[i.1]
theorem Dm {α:Type} (l:List α) (j:Nat):(To l j).length=l.length:=by simp[To]
theorem K9 {α:Type} (l:List α) (j i:Nat) (h:i<l.length):(To l j)[i]'(by rw[Dm];exact h)=if i<j∨l.length-j≤i then l[l.length-1-i] else l[i]:=by simp[To]
theorem Ane {α:Type} (l:List α):To l 0=l:=by
 apply List.ext_getElem (Dm l 0)
 intro i h1 h2
 rw[K9 l 0 i h2,if_neg q_]
theorem Aqa {α:Type} (l:List α) (j:Nat) (h:l.length≤2 * j+1):To l j=l.reverse:=by
 apply List.ext_getElem (by rw[Dm,List.length_reverse])
 intro i h1 h2
 have hi:i<l.length:=by rw[Dm]at h1;exact h1
 rw[K9 l j i hi,List.getElem_reverse]
 split
 ·rfl
 ·congr 1;omega
theorem Anf {α:Type} (l:List α) (j:Nat) (h:2 * j+1<l.length) :
  ((To l j).set j ((To l j)[l.length-1-j]'(by rw[Dm];omega))).set (l.length-1-j) ((To l j)[j]'(by rw[Dm];omega))=To l (j+1):=by
 apply List.ext_getElem (by simp only[List.length_set,Dm])
 intro i h1 h2
 have hi:i<l.length:=by rw[Dm]at h2;exact h2
 rw[List.getElem_set,List.getElem_set,K9 l (j+1) i hi,K9 l j i hi,K9 l j _ q_,K9 l j _ q_]
 by_cases e1:l.length-1-j=i
 ·rw[if_pos e1,if_neg q_,if_pos q_]
  congr 1;omega
 ·rw[if_neg e1]
  by_cases e2:j=i
  ·rw[if_pos e2,if_neg q_,if_pos q_]
   congr 1;omega
  ·rw[if_neg e2]
   by_cases e3:i<j∨l.length-j≤i
   ·rw[if_pos e3,if_pos q_]
   ·rw[if_neg e3,if_neg q_]
theorem Ang {α:Type} {l u:List α} {j k:Nat} (hu:To l j=u) (h:2 * j+1<l.length) (hk:l.length-1-j=k) (h1:k<u.length) (h2:j<u.length):(u.set j u[k]).set k u[j]=To l (j+1):=by
 subst hu hk
 exact Anf l j h
def Ale (u:Nat):List UInt8:=if u<10 then [UInt8.ofNat (48+u)] else UInt8.ofNat (48+u % 10)::Ale (u / 10)
def numL (n:Int):List UInt8:=(Ale n.natAbs++(if n<0 then [45] else [])).reverse
def numT (n:Int):ByteArray:=mkT (numL n)
end Go.Sy.YtcflgpijohhfbaaGreat
namespace Go.Sy.YtcflgpijohhfbaaGreat
open Go.Proofs
attribute [local irreducible] Go.Sy.G Go.Sy.DR
set_option maxRecDepth 20000
set_option maxHeartbeats 4000000
theorem Aka {n:Net} (h:Ac n=true) {i:Nat} (hi:i<n.ports.length):I7 n i n.ports[i]=true:=by
 simp only[Ac,Bool.and_eq_true]at h
 exact allB_iff.1 h.1.1.1.1.1.2 i hi
theorem Ar5 {n:Net} (h:Ac n=true) {i:Nat} (hi:i<n.domains.length):Km n i n.domains[i]=true:=by
 simp only[Ac,Bool.and_eq_true]at h
 exact allB_iff.1 h.1.1.1.1.1.1.1.2 i hi
theorem Ahb {n:Net} (h:Ac n=true):n.devices.length≤8∧n.ports.length≤40∧n.links.length≤20∧n.domains.length≤48∧n.irbs.length≤48:=by
 simp only[Ac,Aj7,Bool.and_eq_true,decide_eq_true_eq]at h
 omega
theorem Ahc {n:Net} (h:Ac n=true) {i:Nat} (hi:i<n.domains.length) :
  (0≤n.domains[i].dev∧n.domains[i].dev.toNat<n.devices.length)∧(1≤n.domains[i].vlan∧n.domains[i].vlan≤4094)∧(0≤n.domains[i].vni∧n.domains[i].vni≤16777215)∧(n.domains[i].irb=-1∨0≤n.domains[i].irb∧n.domains[i].irb.toNat<n.irbs.length):=by
 have:=Ar5 h hi
 simp only[Km,Ai,Bool.and_eq_true,Bool.or_eq_true,decide_eq_true_eq,beq_iff_eq]at this
 omega
end Go.Sy.YtcflgpijohhfbaaGreat
namespace Go.Sy
def Ahy (C:Cx) {β:Type} (I:β→Prop) (L:β→List (Nat × SV)) (O:β→Obs) (μ:β→Nat) (x:β) (a:Act) (w:World):Prop :=
 ∃ x':{y:β // I y},∃ κ,μ x'.1<μ x∧St C.F C.n (mkS (L x'.1) (O x'.1)) κ a w
theorem C1 {C:Cx} {k:List KI} {s:SS} {body:Code} {β:Type} (I:β→Prop) (L:β→List (Nat × SV)) (O:β→Obs) (μ:β→Nat) (x₀:β) (ρ:List (Nat × Nat)) (h0:I x₀) (hsub:Sub C s ρ (L x₀) (O x₀))
  (h:∀ x,I x→G C (.code body::.inv (Ahy C I L O μ x)::k) (mkS (L x) (O x))):G C (.code (.loop body)::k) s :=
 O6 (α:={y:β // I y}) (fun x=>L x.1) (fun x=>O x.1) (fun x=>μ x.1) ⟨x₀,h0⟩ ρ hsub (fun x=>h x.1 x.2)
theorem Bg {C:Cx} {k:List KI} {s:SS} {β:Type} {I:β→Prop} {L:β→List (Nat × SV)} {O:β→Obs} {μ:β→Nat} {x:β} (x':β) (ρ:List (Nat × Nat)) (h':I x') (hμ:μ x'<μ x) (hsub:Sub C s ρ (L x') (O x')) :
  G C (.inv (Ahy C I L O μ x)::k) s:=fun _ _ _ hs=>⟨⟨x',h'⟩,_,hμ,hsub.st hs⟩
theorem Vd {C:Cx} {kk:List KI} {s:SS} (k d:Nat) {sz:Nat} {α:Type} {e:α→SV} {l:List α} (h:s.h k=.row sz e l) (hd:s.h d=.fresh) (hkd:k≠d)
  (hg:G C kk ⟨fun i=>frz k (.osl d) (s.σ i),upd (fun j=>bif Nat.beq j k then .non else Aol k (.osl d) (s.h j)) d (.row sz e l)⟩):G C kk s:=fun κ a w hs=>by
 have hob:=hs.obj k
 rw[h]at hob
 have hnew:κ d=.new:=by have:=hs.obj d;rwa [hd]at this
 have fin:∀ κ':Ka,(∀ j,j≠k→j≠d→κ' j=κ j)→Step (fun j=>j=k∨j=d) κ w κ' w→Inv κ' w→(∀ v,Rd κ w (.osl k) v→Rd κ' w (.osl d) v)→ObOK κ' w d (.row sz e l)→den C.P C.B kk .normal a w:=by
  intro κ' hne st inv hv ho
  refine hg κ' a w ⟨hs.defers,hs.size,inv,hs.ctx.step inv st,fun j=>Ad0 st hv _ _ (hs.slot j),fun j=>?_⟩
  show ObOK κ' w j (upd (fun j=>bif Nat.beq j k then .non else Aol k (.osl d) (s.h j)) d (.row sz e l) j)
  by_cases hj:j=d
  ·subst hj;rw[Bi];exact ho
  ·rw[B6 _ _ hj]
   by_cases hj2:j=k
   ·subst hj2;rw[show Nat.beq j j=true from Nat.beq_refl j];trivial
   ·rw[show Nat.beq j k=false from by cases hb:Nat.beq j k with | false=>rfl | true=>exact absurd (Nat.eq_of_beq_eq_true hb) hj2]
    have hb:=ObOK.step st (fun e=>e.elim hj2 hj) _ (hs.obj j)
    have h0:=hs.obj j
    show ObOK κ' w j (Aol k (.osl d) (s.h j))
    cases hh:s.h j with
    | box m =>
     rw[hh]at h0 hb
     obtain ⟨b,cs,T,fr,e1,e2,e3,e4,e5⟩:=h0
     exact⟨b,cs,T,fr,(hne j hj2 hj).trans e1,e2,e3,e4,H5 st hv m cs e5⟩
    | tbox T m =>
     rw[hh]at h0 hb
     obtain ⟨b,cs,fr,e1,e2,e3,e4,e5⟩:=h0
     exact⟨b,cs,fr,(hne j hj2 hj).trans e1,e2,e3,e4,H5 st hv m cs e5⟩
    | fresh=>rw[hh]at hb;exact hb
    | non=>rw[hh]at hb;exact hb
    | row sz' e' l'=>rw[hh]at hb;exact hb
    | lit sz' svs=>rw[hh]at hb;exact hb
    | glob sz' x' g'=>rw[hh]at hb;exact hb
    | pin b' n' cap' sz' e' l'=>rw[hh]at hb;exact hb
    | dat v' sz' e' l'=>rw[hh]at hb;exact hb
    | rown sz' e' l' i' cl' =>
     rw[hh]at h0
     obtain ⟨b2,cap2,cs2,T2,fr2,f1,f2,f3,f4,f5,f6,f7,us2,v1,v2,v3,v4⟩:=h0
     refine⟨b2,cap2,cs2,T2,fr2,(hne j hj2 hj).trans f1,f2,f3,f4,f5,fun m y hm hy=>?_,f7,us2,v1,v2,H5 st hv cl' us2 v3,v4⟩
     obtain ⟨g0,u,g1,g2⟩:=f6 m y hm hy
     exact⟨g0,u,RdD.keep st.keeps _ _ g1,g2⟩
 rcases hob with ⟨h1,rfl⟩ | ⟨b,cap,cs,T,fr,e1,e2,e3,e4,e5,e6⟩
 ·have st:=Hu (Iu hs.inv (some k)) (by show C4 κ k .dead d=.new;rw[Bt _ _ (Ne.symm hkd)];exact hnew) (e:=.nil) (Grew.refl w) (fun b hb=>by cases hb)
  refine fin _ (fun j h1 h2=>by rw[Bt _ _ h2];exact Bt _ _ h1) (((Hl (some k)).weaken (fun j hj=>.inl (Option.some.inj hj).symm)).trans (st.1.weaken (fun j hj=>.inr hj))) st.2 (fun v hv=>?_) (.inl ⟨Ar _ _ _,E⟩)
  simp only[Rd,h1]at hv
  simp[Rd,Ar,hv]
 ·obtain ⟨st,inv⟩:=K5 (n':=l.length) (w':=w) hs.inv e1 hnew rfl rfl rfl rfl (fun _ _=>rfl)
  refine fin _ (fun j h1 h2=>by rw[Bt _ _ h2];exact Bt _ _ h1) st inv (fun v hv=>?_) (.inr ⟨b,cap,cs,T,fr,Ar _ _ _,e2,e3,e4,e5,fun i x hx=>?_⟩)
  ·simp only[Rd,e1]at hv
   simp[Rd,Ar,hv]
  ·obtain ⟨q1,u,q2,q3⟩:=e6 i x hx
   exact⟨q1,u,RdD.keep st.keeps _ _ q2,q3⟩
theorem I5 {C:Cx} {k:List KI} {s:SS} (d:Nat) {sz:Nat} {α:Type} (e:α→SV) (l:List α) {svs:List SV} (h:s.h d=.lit sz svs) (hl:l.map e=svs) (hg:G C k ⟨s.σ,upd s.h d (.row sz e l)⟩):G C k s:=fun κ a w hs=>by
 refine hg κ a w ⟨hs.defers,hs.size,hs.inv,hs.ctx,hs.slot,fun j=>?_⟩
 show ObOK κ w j (upd s.h d (.row sz e l) j)
 by_cases hj:j=d
 ·subst hj
  rw[Bi]
  have hob:=hs.obj j
  rw[h]at hob
  have hlen:l.length=svs.length:=by rw[← hl,List.length_map]
  obtain ⟨b,cap,cs,T,fr,e1,e2,e3,e4,e5,e6⟩:=hob
  exact .inr ⟨b,cap,cs,T,fr,by rw[hlen];exact e1,e2,e3,e4,by omega,fun i x hx=>by rw[hlen];exact e6 i x (K8 hl i x hx)⟩
 ·rw[B6 _ _ hj];exact hs.obj j
end Go.Sy
namespace Go.Sy.YtcflgpijohhfbaaGreat
open Go.Proofs
attribute [local irreducible] Go.Sy.G Go.Sy.DR
set_option maxRecDepth 20000
set_option maxHeartbeats 4000000
def J7 (p:Nat→Bool) (j:Nat):List Int:=((List.range j).filter p).map Int.ofNat
theorem Zq (p:Nat→Bool) (j:Nat):J7 p (j+1)=if p j=true then J7 p j++[(j:Int)] else J7 p j:=by
 rw[J7,List.range_succ,List.filter_append,List.map_append]
 split
 ·rename_i h
  rw[List.filter_cons_of_pos (by exact h),List.filter_nil];rfl
 ·rename_i h
  rw[List.filter_cons_of_neg (by exact h),List.filter_nil,List.map_nil,List.append_nil];rfl
theorem Ez (p:Nat→Bool) (j:Nat):(J7 p j).length≤j:=by
 have:=List.length_filter_le p (List.range j)
 simpa [J7] using this
theorem Lj {p:Nat→Bool} {j:Nat} {x:Int}:x∈J7 p j↔0≤x∧x<j∧p x.toNat=true:=by
 simp only[J7,List.mem_map,List.mem_filter,List.mem_range]
 constructor
 ·rintro ⟨i,h1,rfl⟩
  exact⟨Int.natCast_nonneg i,by simp;omega,h1.2⟩
 ·rintro ⟨h1,h2,h3⟩
  exact⟨x.toNat,⟨by omega,h3⟩,Int.toNat_of_nonneg h1⟩
def Mr (n:Net) (d:Domain) (i:Nat):Bool:=(nth n.ports i).dev == d.dev && Ci (nth n.ports i) d.vlan
def A6 (n:Net) (i:Int):List Int:=J7 (Mr n (nth n.domains i)) n.ports.length
def A8 (n:Net) (i:Int):List Int:=if (0≤i∧i<n.domains.length)∧Ac n=true then A6 n i else []
theorem Hz (n:Net) (hn:n.Fin) (i:Int):Ak (A8 n i):=by
 have:=hn.ports
 unfold Ak at this ⊢
 unfold A8
 split
 ·have:=Ez (Mr n (nth n.domains i)) n.ports.length
  unfold A6
  omega
 ·simp
theorem Kv (n:Net) (hn:n.Fin) (i:Int):Sy.Spec Tryz.prog 15 [Aj n,Aa i] [] (.sl 1 Aa (A8 n i)) []:=cT F15 Tryz.ntmps15 fun F hF=>by
 have hr:=At n hn
 have hpl:=Il 6 An n.domains i
 have hsp:=hn.ports
 unfold Ak at hsp
 conv=>whnf
 refine c0 hr F12 ?_
 cases hb:Ac n
 ·rw[A8,if_neg (by simp[hb])]
  (refine oT ?_;refine bT ?_)
  refine Ao 4 1 Aa E ?_
  refine oO ?_
  exact dN
 refine oF ?_
 refine c0 hpl F52 ?_
 by_cases hi:0≤i∧i<n.domains.length
 rotate_left
 ·have h0:Ai i n.domains.length=false:=by simp only[Ai,Bool.and_eq_false_iff,decide_eq_false_iff_not];omega
  rw[A8,if_neg (by simp[hb,hi]),h0]
  refine oT ?_
  refine Ao 4 1 Aa E ?_
  refine oO ?_
  exact dN
 have h0:Ai i n.domains.length=true:=by simp only[Ai,Bool.and_eq_true,decide_eq_true_eq];exact hi
 rw[A8,if_pos ⟨hi,hb⟩,h0]
 have hk:i.toNat<n.domains.length:=by omega
 have hf:=Ahc hb hk
 have e1:nth n.domains i=n.domains[i.toNat]:=Ae hk
 rw[A6,e1]
 obtain ⟨d,hd⟩:∃ d,n.domains[i.toNat]=d:=⟨_,rfl⟩
 rw[hd]at hf ⊢
 refine Aw 2 8 (Aj n) E E E ?_
 refine oF ?_
 refine Cc 5 1000 1 Aa E E ?_
 refine A3 n.ports.length (fun j=>[(1,Aa i),(2,.ref 8 (Aj n) 0),(5,.osl 1000),(19,.sl 7 Au n.ports),(20,Aa n.ports.length),(21,Aa j)]) (fun j=>[(1000,.row 1 Aa (J7 (Mr n d) j))]) []
  ⟨⟨rfl,rfl,rfl,rfl,rfl,rfl,rfl,rfl,rfl,rfl,rfl,rfl,trivial⟩,⟨.inl rfl,rfl,trivial⟩,rfl,rfl⟩ ?_
 intro j hj
 refine oO ?_
 refine⟨fun h=>?_,fun h=>?_⟩
 ·have hlt:j<n.ports.length:=by simpa using h
  have hsucc:=Zq (Mr n d) j
  have hfl:=Ez (Mr n d) j
  have hin:Mr n d j=((n.ports[j]).dev == d.dev && Ci n.ports[j] d.vlan):=by
   rw[Mr,Ae (l:=n.ports) (i:=(j:Int)) (by simpa using hlt)];rfl
  rw[hin]at hsucc
  have e1:n.ports[(j:Int).toNat]'q_=n.ports[j]:=rfl
  have hms:=T8 n.ports[j] d.vlan (hn.tagged _ (List.getElem_mem _))
  obtain ⟨p,hp⟩:∃ p,n.ports[j]=p:=⟨_,rfl⟩
  rw[hp]at e1 hsucc hms
  obtain ⟨u,hu⟩:∃ u,J7 (Mr n d) j=u:=⟨_,rfl⟩
  rw[hu]at hsucc hfl ⊢
  refine oO ?_
  refine⟨E,by omega,by omega,?_⟩
  rw[e1]
  conv=>whnf
  refine⟨E,hi.1,hk,?_⟩
  rw[hd]
  conv=>whnf
  refine⟨fun h2=>?_,fun h2=>?_⟩
  ·have h3:∃ k:Nat,(k:Int)=i:=⟨i.toNat,by omega⟩
   rw[h2,Bool.true_and]at hsucc
   refine oD ?_
   refine⟨E,hi.1,hk,?_⟩
   rw[hd]
   conv=>whnf
   refine cD hms F53 ?_
   refine oD ?_
   refine kW ?_
   refine⟨fun h4=>?_,fun h4=>?_⟩
   ·rw[if_pos h4]at hsucc
    refine oO ?_
    refine Af (Ag Γ.toTy 48 E E E E E (.row E) (.lit (e:=Aa) (l:=[(j:Int)]) E E) y_ (by simp;omega) (by simp;omega)) E E ?_
    refine oO ?_
    refine iW ?_
    exact Av [(1000,48)] hlt ⟨⟨E,E,E,E,E,E,E,E,E,E,E,E,Y⟩,⟨.inl (congrArg (Ob.row 1 Aa) hsucc),E,Y⟩,E,E⟩
   ·rw[if_neg (by simp[h4])]at hsucc
    refine oO ?_
    refine iW ?_
    exact Av [] hlt ⟨⟨E,E,E,E,E,E,E,E,E,E,E,E,Y⟩,⟨.inl (congrArg (Ob.row 1 Aa) hsucc),E,Y⟩,E,E⟩
  ·rw[if_neg (by simp[h2])]at hsucc
   refine oD ?_
   refine⟨z_,?_⟩
   ((conv=>whnf);refine aF ?_;refine rg ?_;conv=>whnf)
   refine iW ?_
   exact Av [] hlt ⟨⟨E,E,E,E,E,E,E,E,E,E,E,E,Y⟩,⟨.inl (congrArg (Ob.row 1 Aa) hsucc),E,Y⟩,E,E⟩
 ·have:j=n.ports.length:=qB h
  subst this
  refine Ah 1000 E ?_
  refine oO ?_
  exact dN
end Go.Sy.YtcflgpijohhfbaaGreat
