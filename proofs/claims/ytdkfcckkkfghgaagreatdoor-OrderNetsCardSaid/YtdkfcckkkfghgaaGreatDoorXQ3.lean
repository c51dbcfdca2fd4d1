/-
  Sy19 Sy22 Ty N1 N2 N3 N4 N5 N6 N7 N8 N9 N10 N11 V1 I5 Sy25 Sy26 Sy27 Sy28 Sh E1 E2 A2 E3 E4: parts of a proof, joined by program.
-/
import Derived.Test.YtdkfcckkkfghgaaGreatDoorXQ2
import Derived.Test.YtdkfcckkkfghgaaGreatDoorProg
import Derived.Test.YtdkfcckkkfghgaaGreatDoorXQ1
import Derived.ChangeKeysEq
import Derived.Below
import Derived.Lib.Join
import Derived.Shelf.Strings.OnBuilder
import Derived.Shelf.Strings.Search1
import Derived.Shelf.Strings.Search2
import Derived.Shelf.Strings.Search3
import Derived.Shelf.Strings.Cut
import Derived.Shelf.Strings.Prefix
set_option linter.all false
set_option linter.unusedVariables false
set_option linter.unusedSimpArgs false
set_option linter.deprecated false
namespace Go.Sy
inductive SrcT {α:Type} (s:SS) (sz:Nat) (e:α→SV):SV→List Nat→List α→Prop
 | sl {l:List α}:SrcT s sz e (.sl sz e l) [] l
 | row {k:Nat} {l:List α} (h:s.h k=.row sz e l):SrcT s sz e (.osl k) [k] l
 | lit {k:Nat} {l:List α} {svs:List SV} (h:s.h k=.lit sz svs) (hl:l.map e=svs):SrcT s sz e (.osl k) [k] l
 | nil:SrcT s sz e (.val (.slice none 0 0)) [] []
inductive BaseT {α:Type} (s:SS) (sz:Nat) (e:α→SV):SV→Option Nat→List α→Prop
 | nil:BaseT s sz e (.val (.slice none 0 0)) none []
 | row {k:Nat} {l:List α} (h:s.h k=.row sz e l):BaseT s sz e (.osl k) (some k) l
 | lit {k:Nat} {l:List α} {svs:List SV} (h:s.h k=.lit sz svs) (hl:l.map e=svs):BaseT s sz e (.osl k) (some k) l
theorem SrcT.src {α:Type} {s:SS} {sz:Nat} {e:α→SV} {x:SV} {ks:List Nat} {m:List α} (h:SrcT s sz e x ks m):∃ g,AppSrc s sz x ks m.length g∧∀ i x,rowF e m i x→g i x:=by
 cases h with
 | sl=>exact⟨_,.sl,fun _ _ h=>h⟩
 | row h=>exact⟨_,.row h,fun _ _ h=>h⟩
 | @lit k _ svs h hl=>exact⟨Zx svs,by have:=AppSrc.lit (sz:=sz) h;rwa [← hl,List.length_map,hl]at this,fun i x hx=>Tk hl i x hx⟩
 | nil=>exact⟨_,.nil,fun i x hx=>by obtain ⟨h,_⟩:=hx;simp at h⟩
theorem BaseT.base {α:Type} {s:SS} {sz:Nat} {e:α→SV} {x:SV} {k:Option Nat} {m:List α} (h:BaseT s sz e x k m):∃ g,AppBase s sz x k m.length g∧∀ i x,rowF e m i x→g i x:=by
 cases h with
 | row h=>exact⟨_,.row h,fun _ _ h=>h⟩
 | @lit k _ svs h hl=>exact⟨Zx svs,by have:=AppBase.lit (sz:=sz) h;rwa [← hl,List.length_map,hl]at this,fun i x hx=>Tk hl i x hx⟩
 | nil=>exact⟨_,.nil,fun i x hx=>by obtain ⟨h,_⟩:=hx;simp at h⟩
theorem Aj {P:Program} (Γ:Ty P) {o:Oper} {s:SS} (d:Nat) {α:Type} {e:α→SV} {l m:List α} {t:TypeId} {ti:TI} {et:TypeId} {sz eb:Nat} {ez:List Value} {x y:Operand} {k:Option Nat} {ks:List Nat}
  (h:o.op=.call ⟨.builtin .append,#[x,y],#[t,t]⟩) (hd:s.h d=.fresh) (ht:Γ.get t=some ti) (hk:ti.k=.slice et sz eb ez) (hez:ez.length=sz)
  (hb:BaseT s sz e (ev s x) k l) (hs:SrcT s sz e (ev s y) ks m) (hkk:∀ j,k=some j→j≠d) (hbytes:(l.length+m.length) * eb≤140737488355328) (h63:l.length+m.length≤9223372036854775807) :
  Good P o s ⟨.osl d,ks,Hy k d (.row sz e (l++m))⟩:=by
 obtain ⟨f,hb,hf⟩:=hb.base
 obtain ⟨g,hs,hg⟩:=hs.src
 exact Wd Γ h hd ht hk hez hb hs hkk hbytes h63 fun κ w hr=>Agb hr qe (Ad6 hf hg)
theorem Ee {P:Program} (Γ:Ty P) {o:Oper} {s:SS} {src dst:TypeId} {si di ei:TI} {x:Operand} {et:TypeId} {eb:Nat} {ez:List Value} {ks:List Nat} {bs:List UInt8} (h:o.op=.convert src dst x)
  (hs:Γ.get src=some si) (hsk:si.k=.slice et 1 eb ez) (he:Γ.get et=some ei) (hek:ei.k=.int .u8) (hd:Γ.get dst=some di) (hdk:di.k=.string) (hx:SrcT s 1 A3 (ev s x) ks bs) :
  Good P o s ⟨Ae ⟨bs.toArray⟩,ks,[]⟩:=by
 obtain ⟨g,hx,hg⟩:=hx.src
 exact Ub Γ bs h hs hsk he hek hd hdk hx q_ (fun i hi=>hg i _ ⟨hi,q_⟩)
mutual
def frz (d:Nat) (x:SV):SV→SV
 | .osl k=>bif Nat.beq k d then x else .osl k
 | .agg l=>.agg (Yz d x l)
 | .tup l=>.tup (Yz d x l)
 | .ifc t y=>.ifc t (frz d x y)
 | .clo f g l=>.clo f (Yz d x g) (Yz d x l)
 | y=>y
def Yz (d:Nat) (x:SV):List SV→List SV
 | []=>[]
 | y::l=>frz d x y::Yz d x l
end
mutual
theorem Ac3 {κ κ':Ka} {w:World} {K:Nat→Prop} {d:Nat} {x:SV} (st:Step K κ w κ' w) (hx:∀ v,Rd κ w (.osl d) v→Rd κ' w x v):∀ (y:SV) (v:Value),Rd κ w y v→Rd κ' w (frz d x y) v
 | .osl k,v,h=>by
  unfold frz
  by_cases hk:k=d
  ·subst hk;rw[show Nat.beq k k=true from Nat.beq_refl k];exact hx v h
  ·rw[show Nat.beq k d=false from by cases hb:Nat.beq k d with | false=>rfl | true=>exact absurd (Nat.eq_of_beq_eq_true hb) hk];exact Rd.step st _ _ h
 | .agg l,v,h=>by
  simp only[Rd]at h
  unfold frz
  simp only[Rd]
  obtain ⟨cs,h1,h2,h3⟩:=h
  exact⟨cs,h1,h2,Iv st hx l cs h3⟩
 | .tup l,v,h=>by
  simp only[Rd]at h
  unfold frz
  simp only[Rd]
  obtain ⟨cs,h1,h3⟩:=h
  exact⟨cs,h1,Iv st hx l cs h3⟩
 | .ifc t y,v,h=>by
  simp only[Rd]at h
  unfold frz
  simp only[Rd]
  obtain ⟨u,h1,h3⟩:=h
  exact⟨u,h1,Ac3 st hx y u h3⟩
 | .clo f g l,v,h=>by
  simp only[Rd]at h
  unfold frz
  simp only[Rd]
  obtain ⟨fs,cs,h1,h2,h3⟩:=h
  exact⟨fs,cs,h1,Iv st hx g fs h2,Iv st hx l cs h3⟩
 | .top,v,h=>by unfold frz;exact Rd.step st _ _ h
 | .val u,v,h=>by unfold frz;exact Rd.step st _ _ h
 | .sl sz e l,v,h=>by unfold frz;exact Rd.step st _ _ h
 | .ref sz z o,v,h=>by unfold frz;exact Rd.step st _ _ h
 | .ptr k o,v,h=>by unfold frz;exact Rd.step st _ _ h
 | .rpt k sz i o,v,h=>by unfold frz;exact Rd.step st _ _ h
theorem Iv {κ κ':Ka} {w:World} {K:Nat→Prop} {d:Nat} {x:SV} (st:Step K κ w κ' w) (hx:∀ v,Rd κ w (.osl d) v→Rd κ' w x v):∀ (l:List SV) (vs:List Value),RdL κ w l vs→RdL κ' w (Yz d x l) vs
 | [],vs,h=>by
  unfold Yz
  simpa [RdL] using h
 | y::l,vs,h=>by
  simp only[RdL]at h
  unfold Yz
  simp only[RdL]
  obtain ⟨v,r,h1,h2,h3⟩:=h
  exact⟨v,r,h1,Ac3 st hx y v h2,Iv st hx l r h3⟩
end
def Al9 (d:Nat) (x:SV):Ob→Ob
 | .box l=>.box (Yz d x l)
 | .rown sz e l i cl=>.rown sz e l i (Yz d x cl)
 | .tbox T l=>.tbox T (Yz d x l)
 | o=>o
theorem Ai {C:Cx} {k:List KI} {s:SS} (d:Nat) {sz:Nat} {α:Type} {e:α→SV} {l:List α} (h:s.h d=.row sz e l) (hg:G C k ⟨fun i=>frz d (.sl sz e l) (s.σ i),fun j=>bif Nat.beq j d then .non else Al9 d (.sl sz e l) (s.h j)⟩):G C k s:=fun κ a w hs=>by
 have hob:=hs.obj d
 rw[h]at hob
 have st:=H5 (κ:=κ) (w:=w) (some d)
 have inv:=Jq hs.inv (some d)
 have hx:∀ v,Rd κ w (.osl d) v→Rd (D9 κ d .dead) w (.sl sz e l) v:=fun v hv=>by
  rcases hob with ⟨h1,rfl⟩ | h1
  ·simp only[Rd,h1]at hv
   simp only[Rd,RdD]
   exact .inl ⟨by simp,none,0,hv⟩
  ·refine h1.freeze hv st.keeps.out (fun b hb=>⟨hs.inv.bnd d b hb,?_⟩)
   rintro (⟨q,hq⟩ | hq)
   ·by_cases hqd:q=d
    ·subst hqd;rw[As]at hq;cases hq
    ·rw[B6 _ _ hqd]at hq
     exact hqd (hs.inv.inj q d b hq hb)
   ·exact hs.inv.apart d b hb hq
 refine hg (D9 κ d .dead) a w ⟨hs.defers,hs.size,inv,hs.ctx.step inv st,fun j=>Ac3 st hx _ _ (hs.slot j),fun j=>?_⟩
 show ObOK _ w j (bif Nat.beq j d then .non else Al9 d (.sl sz e l) (s.h j))
 by_cases hj:j=d
 ·subst hj;rw[show Nat.beq j j=true from Nat.beq_refl j];trivial
 ·rw[show Nat.beq j d=false from by cases hb:Nat.beq j d with | false=>rfl | true=>exact absurd (Nat.eq_of_beq_eq_true hb) hj]
  have hb:=ObOK.step st (fun e=>hj (Option.some.inj e).symm) _ (hs.obj j)
  have h0:=hs.obj j
  show ObOK _ w j (Al9 d (.sl sz e l) (s.h j))
  cases hh:s.h j with
  | box m =>
   rw[hh]at h0 hb
   obtain ⟨b,cs,T,fr,e1,e2,e3,e4,e5⟩:=h0
   exact⟨b,cs,T,fr,by show D9 κ d .dead j=_;rw[B6 _ _ hj];exact e1,e2,e3,e4,Iv st hx m cs e5⟩
  | tbox T m =>
   rw[hh]at h0 hb
   obtain ⟨b,cs,fr,e1,e2,e3,e4,e5⟩:=h0
   exact⟨b,cs,fr,by show D9 κ d .dead j=_;rw[B6 _ _ hj];exact e1,e2,e3,e4,Iv st hx m cs e5⟩
  | fresh=>rw[hh]at hb;exact hb
  | non=>rw[hh]at hb;exact hb
  | row sz' e' l'=>rw[hh]at hb;exact hb
  | lit sz' svs=>rw[hh]at hb;exact hb
  | glob sz' x' g'=>rw[hh]at hb;exact hb
  | pin b' n' cap' sz' e' l'=>rw[hh]at hb;exact hb
  | dat v' sz' e' l'=>rw[hh]at hb;exact hb
  | rown sz' e' l' i' cl' =>
   rw[hh]at h0
   obtain ⟨b2,cap2,cs2,T2,fr2,f1,f2,f3,f4,f5,f6,f7,us2,v1,v2,v3,v4⟩:=h0
   refine⟨b2,cap2,cs2,T2,fr2,by show D9 κ d .dead j=_;rw[B6 _ _ hj];exact f1,f2,f3,f4,f5,fun m y hm hy=>?_,f7,us2,v1,v2,Iv st hx cl' us2 v3,v4⟩
   obtain ⟨g0,u,g1,g2⟩:=f6 m y hm hy
   exact⟨g0,u,RdD.keep st.keeps _ _ g1,g2⟩
def Abf (C:Cx) (n:Nat) (I:Nat→Prop) (L:Nat→List (Nat × SV)) (O:Nat→Obs) (i:Nat) (a:Act) (w:World):Prop :=
 ∃ x':{j:Nat // j≤n∧I j},∃ κ,n-x'.1<n-i∧St C.F C.n (mkS (L x'.1) (O x'.1)) κ a w
theorem Bf {C:Cx} {k:List KI} {s:SS} {body:Code} (n:Nat) (I:Nat→Prop) (L:Nat→List (Nat × SV)) (O:Nat→Obs) (ρ:List (Nat × Nat)) (h0:I 0) (hsub:Sub C s ρ (L 0) (O 0))
  (h:∀ i,i≤n→I i→G C (.code body::.inv (Abf C n I L O i)::k) (mkS (L i) (O i))):G C (.code (.loop body)::k) s :=
 Aje (α:={j:Nat // j≤n∧I j}) (fun x=>L x.1) (fun x=>O x.1) (fun x=>n-x.1) ⟨0,Nat.zero_le _,h0⟩ ρ hsub (fun x=>h x.1 x.2.1 x.2.2)
theorem Bi {C:Cx} {k:List KI} {s:SS} {n:Nat} {I:Nat→Prop} {L:Nat→List (Nat × SV)} {O:Nat→Obs} {i:Nat} (ρ:List (Nat × Nat)) (h0:I i) (hi:i+1≤n) (h1:I (i+1)) (hsub:Sub C s ρ (L (i+1)) (O (i+1))):G C (.inv (Abf C n I L O i)::k) s :=
 Arn (α:={j:Nat // j≤n∧I j}) (L:=fun x=>L x.1) (O:=fun x=>O x.1) (μ:=fun x=>n-x.1) (x:=⟨i,by omega,h0⟩) ⟨i+1,hi,h1⟩ ρ (by simp only;omega) hsub
mutual
def frb (d sz:Nat) (x:SV):SV→SV
 | .ptr k o=>bif Nat.beq k d then .ref sz x o else .ptr k o
 | .agg l=>.agg (Ac5 d sz x l)
 | .tup l=>.tup (Ac5 d sz x l)
 | .ifc t y=>.ifc t (frb d sz x y)
 | .clo f g l=>.clo f (Ac5 d sz x g) (Ac5 d sz x l)
 | y=>y
def Ac5 (d sz:Nat) (x:SV):List SV→List SV
 | []=>[]
 | y::l=>frb d sz x y::Ac5 d sz x l
end
mutual
theorem Air {κ κ':Ka} {w:World} {K:Nat→Prop} {d sz:Nat} {x:SV} (st:Step K κ w κ' w) (hx:∀ o v,Rd κ w (.ptr d o) v→Rd κ' w (.ref sz x o) v):∀ (y:SV) (v:Value),Rd κ w y v→Rd κ' w (frb d sz x y) v
 | .ptr k o,v,h=>by
  unfold frb
  by_cases hk:k=d
  ·subst hk;rw[show Nat.beq k k=true from Nat.beq_refl k];exact hx o v h
  ·rw[show Nat.beq k d=false from by cases hb:Nat.beq k d with | false=>rfl | true=>exact absurd (Nat.eq_of_beq_eq_true hb) hk];exact Rd.step st _ _ h
 | .agg l,v,h=>by
  simp only[Rd]at h
  unfold frb
  simp only[Rd]
  obtain ⟨cs,h1,h2,h3⟩:=h
  exact⟨cs,h1,h2,Qa st hx l cs h3⟩
 | .tup l,v,h=>by
  simp only[Rd]at h
  unfold frb
  simp only[Rd]
  obtain ⟨cs,h1,h3⟩:=h
  exact⟨cs,h1,Qa st hx l cs h3⟩
 | .ifc t y,v,h=>by
  simp only[Rd]at h
  unfold frb
  simp only[Rd]
  obtain ⟨u,h1,h3⟩:=h
  exact⟨u,h1,Air st hx y u h3⟩
 | .clo f g l,v,h=>by
  simp only[Rd]at h
  unfold frb
  simp only[Rd]
  obtain ⟨fs,cs,h1,h2,h3⟩:=h
  exact⟨fs,cs,h1,Qa st hx g fs h2,Qa st hx l cs h3⟩
 | .top,v,h=>by unfold frb;exact Rd.step st _ _ h
 | .val u,v,h=>by unfold frb;exact Rd.step st _ _ h
 | .sl sz e l,v,h=>by unfold frb;exact Rd.step st _ _ h
 | .ref sz z o,v,h=>by unfold frb;exact Rd.step st _ _ h
 | .rpt k sz i o,v,h=>by unfold frb;exact Rd.step st _ _ h
 | .osl k,v,h=>by unfold frb;exact Rd.step st _ _ h
theorem Qa {κ κ':Ka} {w:World} {K:Nat→Prop} {d sz:Nat} {x:SV} (st:Step K κ w κ' w) (hx:∀ o v,Rd κ w (.ptr d o) v→Rd κ' w (.ref sz x o) v):∀ (l:List SV) (vs:List Value),RdL κ w l vs→RdL κ' w (Ac5 d sz x l) vs
 | [],vs,h=>by
  unfold Ac5
  simpa [RdL] using h
 | y::l,vs,h=>by
  simp only[RdL]at h
  unfold Ac5
  simp only[RdL]
  obtain ⟨v,r,h1,h2,h3⟩:=h
  exact⟨v,r,h1,Air st hx y v h2,Qa st hx l r h3⟩
end
def frbO (d sz:Nat) (x:SV):Ob→Ob
 | .box l=>.box (Ac5 d sz x l)
 | o=>o
theorem Ai6 {κ κ':Ka} {w:World} {d sz:Nat} {l:List SV} {x:SV} (h:ObOK κ w d (.box l)) (hl:cellsOf x=l) (hb:x.boxed=true) (_hd:Uj l=true) (hsz:l.length=sz) (ho:∀ b,b<w.heap.size→¬ Own κ b→¬ Own κ' b)
  (hdead:∀ b,(κ d).block? = some b→b<w.heap.size∧¬ Own κ' b) (hxd:x.data=true) (o:Nat) (v:Value) (hv:Rd κ w (.ptr d o) v):Rd κ' w (.ref sz x o) v:=by
 obtain ⟨b,cs,T,fr,e1,e2,e3,e4,e5⟩:=h
 simp only[Rd,e1]at hv
 obtain ⟨h1,h2⟩:=hdead b (by rw[e1];rfl)
 rw[← hl]at e5
 obtain ⟨u,f1,f2⟩:=Rd.of_cells hb e4 e5
 simp only[Rd,RdD]
 refine⟨b,0,u,by rw[Nat.zero_add];exact hv,h2,h1,RdD.keep ⟨Nat.le_refl _,fun _ _ _=>rfl,ho⟩ _ _ (Rd.data _ _ hxd f1),?_,by rw[f2];exact e4,fun j hj=>?_⟩
 ·have:=e5.length
  rw[← hsz,← hl,← this,← f2]
  simp
 ·rw[Nat.zero_add,cell_of_row w b _ cs.toArray T fr e2,← f2]
theorem B1 {C:Cx} {k:List KI} {s:SS} (d sz:Nat) (x:SV) {l:List SV} (h:s.h d=.box l) (hl:cellsOf x=l) (hc:(x.boxed && x.data && Uj l && Nat.beq l.length sz)=true)
  (hg:G C k ⟨fun i=>frb d sz x (s.σ i),fun j=>bif Nat.beq j d then .non else frbO d sz x (s.h j)⟩):G C k s:=fun κ a w hs=>by
 simp only[Bool.and_eq_true]at hc
 obtain ⟨⟨⟨hb,hxd⟩,hd⟩,hsz⟩:=hc
 have hsz:=Nat.eq_of_beq_eq_true hsz
 have hob:=hs.obj d
 rw[h]at hob
 have st:=H5 (κ:=κ) (w:=w) (some d)
 have inv:=Jq hs.inv (some d)
 have hx:∀ o v,Rd κ w (.ptr d o) v→Rd (D9 κ d .dead) w (.ref sz x o) v:=fun o v hv =>
  Ai6 hob hl hb hd hsz st.keeps.out (fun b hb=>⟨hs.inv.bnd d b hb,by
   rintro (⟨q,hq⟩ | hq)
   ·by_cases hqd:q=d
    ·subst hqd;change (D9 κ q .dead q).block? = some b at hq;rw[As]at hq;cases hq
    ·change (D9 κ d .dead q).block? = some b at hq
     rw[B6 _ _ hqd]at hq
     exact hqd (hs.inv.inj q d b hq hb)
   ·exact hs.inv.apart d b hb hq⟩) hxd o v hv
 refine hg (D9 κ d .dead) a w ⟨hs.defers,hs.size,inv,hs.ctx.step inv st,fun j=>Air st hx _ _ (hs.slot j),fun j=>?_⟩
 show ObOK _ w j (bif Nat.beq j d then .non else frbO d sz x (s.h j))
 by_cases hj:j=d
 ·subst hj;rw[show Nat.beq j j=true from Nat.beq_refl j];trivial
 ·rw[show Nat.beq j d=false from by cases hb:Nat.beq j d with | false=>rfl | true=>exact absurd (Nat.eq_of_beq_eq_true hb) hj]
  have hb:=ObOK.step st (fun e=>hj (Option.some.inj e).symm) _ (hs.obj j)
  have h0:=hs.obj j
  show ObOK _ w j (frbO d sz x (s.h j))
  cases hh:s.h j with
  | box m =>
   rw[hh]at h0 hb
   obtain ⟨b,cs,T,fr,e1,e2,e3,e4,e5⟩:=h0
   exact⟨b,cs,T,fr,by show D9 κ d .dead j=_;rw[B6 _ _ hj];exact e1,e2,e3,e4,Qa st hx m cs e5⟩
  | fresh=>rw[hh]at hb;exact hb
  | non=>rw[hh]at hb;exact hb
  | row sz' e' l'=>rw[hh]at hb;exact hb
  | lit sz' svs=>rw[hh]at hb;exact hb
  | glob sz' x' g'=>rw[hh]at hb;exact hb
  | pin b' n' cap' sz' e' l'=>rw[hh]at hb;exact hb
  | dat v' sz' e' l'=>rw[hh]at hb;exact hb
  | rown sz' e' l' i' cl'=>rw[hh]at hb;exact hb
  | tbox T' m'=>rw[hh]at hb;exact hb
theorem Db {C:Cx} {k:List KI} {s:SS} (d sz:Nat) {α:Type} (e:α→SV) (h:s.σ d=.val (.slice none 0 0)) (hg:G C k ⟨upd s.σ d (.sl sz e []),s.h⟩):G C k s :=
 G_set d (fun κ w v hv=>by
  rw[h]at hv
  simp only[Rd]at hv
  simp only[Rd,RdD]
  exact .inl ⟨z_,none,0,hv⟩) hg
end Go.Sy
namespace Go.Sy.YtdkfcckkkfghgaaGreatDoor
open Go.Proofs
set_option maxRecDepth 100000
theorem ty1:Bz Tryz.prog 1=some ⟨.func,1,[.nilFunc]⟩:=by kernel_rfl
theorem ty2:Bz Tryz.prog 2=some ⟨.int .i64,1,[.int .i64 0]⟩:=by kernel_rfl
theorem ty3:Bz Tryz.prog 3=some ⟨.int .i64,1,[.int .i64 0]⟩:=by kernel_rfl
theorem ty4:Bz Tryz.prog 4=some ⟨.bool,1,[.bool false]⟩:=by kernel_rfl
theorem ty5:Bz Tryz.prog 5=some ⟨.int .u8,1,[.int .u8 0]⟩:=by kernel_rfl
theorem ty9:Bz Tryz.prog 9=some ⟨.string,1,[.string .empty]⟩:=by kernel_rfl
theorem ty22:Bz Tryz.prog 22=some ⟨.slice 48 17 240 [.int .i64 0,.int .i64 0,.string .empty,.string .empty,.string .empty,.string .empty,.string .empty,.int .u64 0,.int .u32 0,.int .i64 0,.int .i64 0,.int .i64 0,.int .i64 0,.slice none 0 0,.slice none 0 0,.slice none 0 0,.slice none 0 0],1,[.slice none 0 0]⟩:=by kernel_rfl
theorem ty25:Bz Tryz.prog 25=some ⟨.slice 178 5 48 [.int .i64 0,.int .i64 0,.string .empty,.int .u64 0,.int .u32 0],1,[.slice none 0 0]⟩:=by kernel_rfl
theorem ty26:Bz Tryz.prog 26=some ⟨.slice 185 7 80 [.int .i64 0,.int .i64 0,.int .i64 0,.int .i64 0,.int .i64 0,.string .empty,.slice none 0 0],1,[.slice none 0 0]⟩:=by kernel_rfl
theorem ty27:Bz Tryz.prog 27=some ⟨.slice 191 3 24 [.int .i64 0,.int .i64 0,.int .i64 0],1,[.slice none 0 0]⟩:=by kernel_rfl
theorem ty28:Bz Tryz.prog 28=some ⟨.slice 138 6 64 [.int .i64 0,.int .i64 0,.int .i64 0,.int .i64 0,.int .i64 0,.slice none 0 0],1,[.slice none 0 0]⟩:=by kernel_rfl
theorem ty29:Bz Tryz.prog 29=some ⟨.slice 195 4 32 [.int .i64 0,.int .i64 0,.int .i64 0,.int .u64 0],1,[.slice none 0 0]⟩:=by kernel_rfl
theorem ty30:Bz Tryz.prog 30=some ⟨.slice 134 4 48 [.int .i64 0,.int .i64 0,.int .i64 0,.slice none 0 0],1,[.slice none 0 0]⟩:=by kernel_rfl
theorem ty31:Bz Tryz.prog 31=some ⟨.slice 200 5 80 [.int .i64 0,.int .i64 0,.string .empty,.slice none 0 0,.slice none 0 0],1,[.slice none 0 0]⟩:=by kernel_rfl
theorem ty32:Bz Tryz.prog 32=some ⟨.slice 203 5 40 [.int .i64 0,.int .i64 0,.int .i64 0,.int .u32 0,.int .i64 0],1,[.slice none 0 0]⟩:=by kernel_rfl
theorem ty34:Bz Tryz.prog 34=some ⟨.struct [(0,1),(1,1),(2,1),(3,1),(4,1),(5,1),(6,1),(7,1)],8,[.slice none 0 0,.slice none 0 0,.slice none 0 0,.slice none 0 0,.slice none 0 0,.slice none 0 0,.slice none 0 0,.slice none 0 0]⟩:=by kernel_rfl
theorem ty35:Bz Tryz.prog 35=some ⟨.int .i64,1,[.int .i64 0]⟩:=by kernel_rfl
theorem ty39:Bz Tryz.prog 39=some ⟨.slice 5 1 1 [.int .u8 0],1,[.slice none 0 0]⟩:=by kernel_rfl
theorem ty43:Bz Tryz.prog 43=some ⟨.int .u64,1,[.int .u64 0]⟩:=by kernel_rfl
theorem ty44:Bz Tryz.prog 44=some ⟨.int .u32,1,[.int .u32 0]⟩:=by kernel_rfl
theorem ty45:Bz Tryz.prog 45=some ⟨.slice 3 1 8 [.int .i64 0],1,[.slice none 0 0]⟩:=by kernel_rfl
theorem ty46:Bz Tryz.prog 46=some ⟨.slice 44 1 4 [.int .u32 0],1,[.slice none 0 0]⟩:=by kernel_rfl
theorem ty48:Bz Tryz.prog 48=some ⟨.struct [(0,1),(1,1),(2,1),(3,1),(4,1),(5,1),(6,1),(7,1),(8,1),(9,1),(10,1),(11,1),(12,1),(13,1),(14,1),(15,1),(16,1)],17,[.int .i64 0,.int .i64 0,.string .empty,.string .empty,.string .empty,.string .empty,.string .empty,.int .u64 0,.int .u32 0,.int .i64 0,.int .i64 0,.int .i64 0,.int .i64 0,.slice none 0 0,.slice none 0 0,.slice none 0 0,.slice none 0 0]⟩:=by kernel_rfl
theorem ty49:Bz Tryz.prog 49=some ⟨.ptr,1,[.pointer none]⟩:=by kernel_rfl
theorem ty54:Bz Tryz.prog 54=some ⟨.struct [(0,0),(0,1)],1,[.int .u32 0]⟩:=by kernel_rfl
theorem ty58:Bz Tryz.prog 58=some ⟨.struct [(0,0),(0,2)],2,[.int .i32 0,.int .u32 0]⟩:=by kernel_rfl
theorem ty60:Bz Tryz.prog 60=some ⟨.struct [(0,0),(0,1),(1,2)],3,[.int .u32 0,.int .i32 0,.int .u32 0]⟩:=by kernel_rfl
theorem ty62:Bz Tryz.prog 62=some ⟨.struct [(0,3),(3,1),(4,8),(12,1),(13,1)],14,[.int .u32 0,.int .i32 0,.int .u32 0,.slice none 0 0,.slice none 0 0,.slice none 0 0,.slice none 0 0,.slice none 0 0,.slice none 0 0,.slice none 0 0,.slice none 0 0,.slice none 0 0,.int .i64 0,.int .i64 0]⟩:=by kernel_rfl
theorem ty66:Bz Tryz.prog 66=some ⟨.func,1,[.nilFunc]⟩:=by kernel_rfl
theorem ty79:Bz Tryz.prog 79=some ⟨.slice 9 1 16 [.string .empty],1,[.slice none 0 0]⟩:=by kernel_rfl
theorem ty87:Bz Tryz.prog 87=some ⟨.ptr,1,[.pointer none]⟩:=by kernel_rfl
theorem ty107:Bz Tryz.prog 107=some ⟨.ptr,1,[.pointer none]⟩:=by kernel_rfl
theorem ty109:Bz Tryz.prog 109=some ⟨.struct [(0,1),(1,1),(2,1)],3,[.slice none 0 0,.int .i64 0,.int .i64 0]⟩:=by kernel_rfl
theorem ty115:Bz Tryz.prog 115=some ⟨.ptr,1,[.pointer none]⟩:=by kernel_rfl
theorem ty117:Bz Tryz.prog 117=some ⟨.func,1,[.nilFunc]⟩:=by kernel_rfl
theorem ty122:Bz Tryz.prog 122=some ⟨.struct [(0,1),(1,1)],2,[.int .u32 0,.int .i64 0]⟩:=by kernel_rfl
theorem ty128:Bz Tryz.prog 128=some ⟨.ptr,1,[.pointer none]⟩:=by kernel_rfl
theorem ty130:Bz Tryz.prog 130=some ⟨.ptr,1,[.pointer none]⟩:=by kernel_rfl
theorem ty134:Bz Tryz.prog 134=some ⟨.struct [(0,1),(1,1),(2,1),(3,1)],4,[.int .i64 0,.int .i64 0,.int .i64 0,.slice none 0 0]⟩:=by kernel_rfl
theorem ty138:Bz Tryz.prog 138=some ⟨.struct [(0,1),(1,1),(2,1),(3,1),(4,1),(5,1)],6,[.int .i64 0,.int .i64 0,.int .i64 0,.int .i64 0,.int .i64 0,.slice none 0 0]⟩:=by kernel_rfl
theorem ty141:Bz Tryz.prog 141=some ⟨.slice 3 1 8 [.int .i64 0],1,[.slice none 0 0]⟩:=by kernel_rfl
theorem ty145:Bz Tryz.prog 145=some ⟨.func,1,[.nilFunc]⟩:=by kernel_rfl
theorem ty146:Bz Tryz.prog 146=some ⟨.int .u64,1,[.int .u64 0]⟩:=by kernel_rfl
theorem ty162:Bz Tryz.prog 162=some ⟨.func,1,[.nilFunc]⟩:=by kernel_rfl
theorem ty165:Bz Tryz.prog 165=some ⟨.func,1,[.nilFunc]⟩:=by kernel_rfl
theorem ty173:Bz Tryz.prog 173=some ⟨.ptr,1,[.pointer none]⟩:=by kernel_rfl
theorem ty178:Bz Tryz.prog 178=some ⟨.struct [(0,1),(1,1),(2,1),(3,1),(4,1)],5,[.int .i64 0,.int .i64 0,.string .empty,.int .u64 0,.int .u32 0]⟩:=by kernel_rfl
theorem ty180:Bz Tryz.prog 180=some ⟨.struct [(0,8)],8,[.slice none 0 0,.slice none 0 0,.slice none 0 0,.slice none 0 0,.slice none 0 0,.slice none 0 0,.slice none 0 0,.slice none 0 0]⟩:=by kernel_rfl
theorem ty181:Bz Tryz.prog 181=some ⟨.func,1,[.nilFunc]⟩:=by kernel_rfl
theorem ty185:Bz Tryz.prog 185=some ⟨.struct [(0,1),(1,1),(2,1),(3,1),(4,1),(5,1),(6,1)],7,[.int .i64 0,.int .i64 0,.int .i64 0,.int .i64 0,.int .i64 0,.string .empty,.slice none 0 0]⟩:=by kernel_rfl
theorem ty189:Bz Tryz.prog 189=some ⟨.array 3 2 1,2,[.int .i64 0,.int .i64 0]⟩:=by kernel_rfl
theorem ty191:Bz Tryz.prog 191=some ⟨.struct [(0,1),(1,1),(2,1)],3,[.int .i64 0,.int .i64 0,.int .i64 0]⟩:=by kernel_rfl
theorem ty195:Bz Tryz.prog 195=some ⟨.struct [(0,1),(1,1),(2,1),(3,1)],4,[.int .i64 0,.int .i64 0,.int .i64 0,.int .u64 0]⟩:=by kernel_rfl
theorem ty200:Bz Tryz.prog 200=some ⟨.struct [(0,1),(1,1),(2,1),(3,1),(4,1)],5,[.int .i64 0,.int .i64 0,.string .empty,.slice none 0 0,.slice none 0 0]⟩:=by kernel_rfl
theorem ty203:Bz Tryz.prog 203=some ⟨.struct [(0,1),(1,1),(2,1),(3,2)],5,[.int .i64 0,.int .i64 0,.int .i64 0,.int .u32 0,.int .i64 0]⟩:=by kernel_rfl
theorem ty205:Bz Tryz.prog 205=some ⟨.func,1,[.nilFunc]⟩:=by kernel_rfl
theorem ty207:Bz Tryz.prog 207=some ⟨.struct [(0,8)],8,[.slice none 0 0,.slice none 0 0,.slice none 0 0,.slice none 0 0,.slice none 0 0,.slice none 0 0,.slice none 0 0,.slice none 0 0]⟩:=by kernel_rfl
theorem ty209:Bz Tryz.prog 209=some ⟨.func,1,[.nilFunc]⟩:=by kernel_rfl
theorem ty211:Bz Tryz.prog 211=some ⟨.func,1,[.nilFunc]⟩:=by kernel_rfl
theorem ty213:Bz Tryz.prog 213=some ⟨.func,1,[.nilFunc]⟩:=by kernel_rfl
theorem ty215:Bz Tryz.prog 215=some ⟨.func,1,[.nilFunc]⟩:=by kernel_rfl
theorem ty218:Bz Tryz.prog 218=some ⟨.func,1,[.nilFunc]⟩:=by kernel_rfl
theorem ty221:Bz Tryz.prog 221=some ⟨.func,1,[.nilFunc]⟩:=by kernel_rfl
theorem ty223:Bz Tryz.prog 223=some ⟨.func,1,[.nilFunc]⟩:=by kernel_rfl
theorem ty234:Bz Tryz.prog 234=some ⟨.func,1,[.nilFunc]⟩:=by kernel_rfl
theorem ty236:Bz Tryz.prog 236=some ⟨.func,1,[.nilFunc]⟩:=by kernel_rfl
theorem ty244:Bz Tryz.prog 244=some ⟨.func,1,[.nilFunc]⟩:=by kernel_rfl
theorem ty252:Bz Tryz.prog 252=some ⟨.struct [(0,1),(1,1)],2,[.pointer none,.slice none 0 0]⟩:=by kernel_rfl
theorem ty266:Bz Tryz.prog 266=some ⟨.func,1,[.nilFunc]⟩:=by kernel_rfl
theorem ty270:Bz Tryz.prog 270=some ⟨.func,1,[.nilFunc]⟩:=by kernel_rfl
theorem ty273:Bz Tryz.prog 273=some ⟨.func,1,[.nilFunc]⟩:=by kernel_rfl
theorem tq122:Y5 Tryz.prog 122=some [.int .u32,.int .i64]:=by kernel_rfl
theorem tq178:Y5 Tryz.prog 178=some [.int .i64,.int .i64,.string,.int .u64,.int .u32]:=by kernel_rfl
theorem tq191:Y5 Tryz.prog 191=some [.int .i64,.int .i64,.int .i64]:=by kernel_rfl
theorem tq195:Y5 Tryz.prog 195=some [.int .i64,.int .i64,.int .i64,.int .u64]:=by kernel_rfl
def tab:Tr TI:=(.nd 122 (⟨.struct [(0,1),(1,1)],2,[.int .u32 0,.int .i64 0]⟩) (.nd 39 (⟨.slice 5 1 1 [.int .u8 0],1,[.slice none 0 0]⟩) (.nd 26 (⟨.slice 185 7 80 [.int .i64 0,.int .i64 0,.int .i64 0,.int .i64 0,.int .i64 0,.string .empty,.slice none 0 0],1,[.slice none 0 0]⟩) (.nd 5 (⟨.int .u8,1,[.int .u8 0]⟩) (.nd 3 (⟨.int .i64,1,[.int .i64 0]⟩) (.nd 2 (⟨.int .i64,1,[.int .i64 0]⟩) (.nd 1 (⟨.func,1,[.nilFunc]⟩) .lf .lf) .lf) (.nd 4 (⟨.bool,1,[.bool false]⟩) .lf .lf)) (.nd 22 (⟨.slice 48 17 240 [.int .i64 0,.int .i64 0,.string .empty,.string .empty,.string .empty,.string .empty,.string .empty,.int .u64 0,.int .u32 0,.int .i64 0,.int .i64 0,.int .i64 0,.int .i64 0,.slice none 0 0,.slice none 0 0,.slice none 0 0,.slice none 0 0],1,[.slice none 0 0]⟩) (.nd 9 (⟨.string,1,[.string .empty]⟩) .lf .lf) (.nd 25 (⟨.slice 178 5 48 [.int .i64 0,.int .i64 0,.string .empty,.int .u64 0,.int .u32 0],1,[.slice none 0 0]⟩) .lf .lf))) (.nd 31 (⟨.slice 200 5 80 [.int .i64 0,.int .i64 0,.string .empty,.slice none 0 0,.slice none 0 0],1,[.slice none 0 0]⟩) (.nd 29 (⟨.slice 195 4 32 [.int .i64 0,.int .i64 0,.int .i64 0,.int .u64 0],1,[.slice none 0 0]⟩) (.nd 28 (⟨.slice 138 6 64 [.int .i64 0,.int .i64 0,.int .i64 0,.int .i64 0,.int .i64 0,.slice none 0 0],1,[.slice none 0 0]⟩) (.nd 27 (⟨.slice 191 3 24 [.int .i64 0,.int .i64 0,.int .i64 0],1,[.slice none 0 0]⟩) .lf .lf) .lf) (.nd 30 (⟨.slice 134 4 48 [.int .i64 0,.int .i64 0,.int .i64 0,.slice none 0 0],1,[.slice none 0 0]⟩) .lf .lf)) (.nd 34 (⟨.struct [(0,1),(1,1),(2,1),(3,1),(4,1),(5,1),(6,1),(7,1)],8,[.slice none 0 0,.slice none 0 0,.slice none 0 0,.slice none 0 0,.slice none 0 0,.slice none 0 0,.slice none 0 0,.slice none 0 0]⟩) (.nd 32 (⟨.slice 203 5 40 [.int .i64 0,.int .i64 0,.int .i64 0,.int .u32 0,.int .i64 0],1,[.slice none 0 0]⟩) .lf .lf) (.nd 35 (⟨.int .i64,1,[.int .i64 0]⟩) .lf .lf)))) (.nd 60 (⟨.struct [(0,0),(0,1),(1,2)],3,[.int .u32 0,.int .i32 0,.int .u32 0]⟩) (.nd 48 (⟨.struct [(0,1),(1,1),(2,1),(3,1),(4,1),(5,1),(6,1),(7,1),(8,1),(9,1),(10,1),(11,1),(12,1),(13,1),(14,1),(15,1),(16,1)],17,[.int .i64 0,.int .i64 0,.string .empty,.string .empty,.string .empty,.string .empty,.string .empty,.int .u64 0,.int .u32 0,.int .i64 0,.int .i64 0,.int .i64 0,.int .i64 0,.slice none 0 0,.slice none 0 0,.slice none 0 0,.slice none 0 0]⟩) (.nd 45 (⟨.slice 3 1 8 [.int .i64 0],1,[.slice none 0 0]⟩) (.nd 44 (⟨.int .u32,1,[.int .u32 0]⟩) (.nd 43 (⟨.int .u64,1,[.int .u64 0]⟩) .lf .lf) .lf) (.nd 46 (⟨.slice 44 1 4 [.int .u32 0],1,[.slice none 0 0]⟩) .lf .lf)) (.nd 54 (⟨.struct [(0,0),(0,1)],1,[.int .u32 0]⟩) (.nd 49 (⟨.ptr,1,[.pointer none]⟩) .lf .lf) (.nd 58 (⟨.struct [(0,0),(0,2)],2,[.int .i32 0,.int .u32 0]⟩) .lf .lf))) (.nd 107 (⟨.ptr,1,[.pointer none]⟩) (.nd 79 (⟨.slice 9 1 16 [.string .empty],1,[.slice none 0 0]⟩) (.nd 66 (⟨.func,1,[.nilFunc]⟩) (.nd 62 (⟨.struct [(0,3),(3,1),(4,8),(12,1),(13,1)],14,[.int .u32 0,.int .i32 0,.int .u32 0,.slice none 0 0,.slice none 0 0,.slice none 0 0,.slice none 0 0,.slice none 0 0,.slice none 0 0,.slice none 0 0,.slice none 0 0,.slice none 0 0,.int .i64 0,.int .i64 0]⟩) .lf .lf) .lf) (.nd 87 (⟨.ptr,1,[.pointer none]⟩) .lf .lf)) (.nd 115 (⟨.ptr,1,[.pointer none]⟩) (.nd 109 (⟨.struct [(0,1),(1,1),(2,1)],3,[.slice none 0 0,.int .i64 0,.int .i64 0]⟩) .lf .lf) (.nd 117 (⟨.func,1,[.nilFunc]⟩) .lf .lf))))) (.nd 200 (⟨.struct [(0,1),(1,1),(2,1),(3,1),(4,1)],5,[.int .i64 0,.int .i64 0,.string .empty,.slice none 0 0,.slice none 0 0]⟩) (.nd 165 (⟨.func,1,[.nilFunc]⟩) (.nd 141 (⟨.slice 3 1 8 [.int .i64 0],1,[.slice none 0 0]⟩) (.nd 134 (⟨.struct [(0,1),(1,1),(2,1),(3,1)],4,[.int .i64 0,.int .i64 0,.int .i64 0,.slice none 0 0]⟩) (.nd 130 (⟨.ptr,1,[.pointer none]⟩) (.nd 128 (⟨.ptr,1,[.pointer none]⟩) .lf .lf) .lf) (.nd 138 (⟨.struct [(0,1),(1,1),(2,1),(3,1),(4,1),(5,1)],6,[.int .i64 0,.int .i64 0,.int .i64 0,.int .i64 0,.int .i64 0,.slice none 0 0]⟩) .lf .lf)) (.nd 146 (⟨.int .u64,1,[.int .u64 0]⟩) (.nd 145 (⟨.func,1,[.nilFunc]⟩) .lf .lf) (.nd 162 (⟨.func,1,[.nilFunc]⟩) .lf .lf))) (.nd 185 (⟨.struct [(0,1),(1,1),(2,1),(3,1),(4,1),(5,1),(6,1)],7,[.int .i64 0,.int .i64 0,.int .i64 0,.int .i64 0,.int .i64 0,.string .empty,.slice none 0 0]⟩) (.nd 180 (⟨.struct [(0,8)],8,[.slice none 0 0,.slice none 0 0,.slice none 0 0,.slice none 0 0,.slice none 0 0,.slice none 0 0,.slice none 0 0,.slice none 0 0]⟩) (.nd 178 (⟨.struct [(0,1),(1,1),(2,1),(3,1),(4,1)],5,[.int .i64 0,.int .i64 0,.string .empty,.int .u64 0,.int .u32 0]⟩) (.nd 173 (⟨.ptr,1,[.pointer none]⟩) .lf .lf) .lf) (.nd 181 (⟨.func,1,[.nilFunc]⟩) .lf .lf)) (.nd 191 (⟨.struct [(0,1),(1,1),(2,1)],3,[.int .i64 0,.int .i64 0,.int .i64 0]⟩) (.nd 189 (⟨.array 3 2 1,2,[.int .i64 0,.int .i64 0]⟩) .lf .lf) (.nd 195 (⟨.struct [(0,1),(1,1),(2,1),(3,1)],4,[.int .i64 0,.int .i64 0,.int .i64 0,.int .u64 0]⟩) .lf .lf)))) (.nd 221 (⟨.func,1,[.nilFunc]⟩) (.nd 211 (⟨.func,1,[.nilFunc]⟩) (.nd 207 (⟨.struct [(0,8)],8,[.slice none 0 0,.slice none 0 0,.slice none 0 0,.slice none 0 0,.slice none 0 0,.slice none 0 0,.slice none 0 0,.slice none 0 0]⟩) (.nd 205 (⟨.func,1,[.nilFunc]⟩) (.nd 203 (⟨.struct [(0,1),(1,1),(2,1),(3,2)],5,[.int .i64 0,.int .i64 0,.int .i64 0,.int .u32 0,.int .i64 0]⟩) .lf .lf) .lf) (.nd 209 (⟨.func,1,[.nilFunc]⟩) .lf .lf)) (.nd 215 (⟨.func,1,[.nilFunc]⟩) (.nd 213 (⟨.func,1,[.nilFunc]⟩) .lf .lf) (.nd 218 (⟨.func,1,[.nilFunc]⟩) .lf .lf))) (.nd 252 (⟨.struct [(0,1),(1,1)],2,[.pointer none,.slice none 0 0]⟩) (.nd 236 (⟨.func,1,[.nilFunc]⟩) (.nd 234 (⟨.func,1,[.nilFunc]⟩) (.nd 223 (⟨.func,1,[.nilFunc]⟩) .lf .lf) .lf) (.nd 244 (⟨.func,1,[.nilFunc]⟩) .lf .lf)) (.nd 270 (⟨.func,1,[.nilFunc]⟩) (.nd 266 (⟨.func,1,[.nilFunc]⟩) .lf .lf) (.nd 273 (⟨.func,1,[.nilFunc]⟩) .lf .lf))))))
def etab:Tr (List EK):=(.nd 191 ([.int .i64,.int .i64,.int .i64]) (.nd 178 ([.int .i64,.int .i64,.string,.int .u64,.int .u32]) (.nd 122 ([.int .u32,.int .i64]) .lf .lf) .lf) (.nd 195 ([.int .i64,.int .i64,.int .i64,.int .u64]) .lf .lf))
theorem tab_ok:tab.all (fun t i=>Bz Tryz.prog t=some i):=⟨ty122,⟨ty39,⟨ty26,⟨ty5,⟨ty3,⟨ty2,⟨ty1,trivial,trivial⟩,trivial⟩,⟨ty4,trivial,trivial⟩⟩,⟨ty22,⟨ty9,trivial,trivial⟩,⟨ty25,trivial,trivial⟩⟩⟩,⟨ty31,⟨ty29,⟨ty28,⟨ty27,trivial,trivial⟩,trivial⟩,⟨ty30,trivial,trivial⟩⟩,⟨ty34,⟨ty32,trivial,trivial⟩,⟨ty35,trivial,trivial⟩⟩⟩⟩,⟨ty60,⟨ty48,⟨ty45,⟨ty44,⟨ty43,trivial,trivial⟩,trivial⟩,⟨ty46,trivial,trivial⟩⟩,⟨ty54,⟨ty49,trivial,trivial⟩,⟨ty58,trivial,trivial⟩⟩⟩,⟨ty107,⟨ty79,⟨ty66,⟨ty62,trivial,trivial⟩,trivial⟩,⟨ty87,trivial,trivial⟩⟩,⟨ty115,⟨ty109,trivial,trivial⟩,⟨ty117,trivial,trivial⟩⟩⟩⟩⟩,⟨ty200,⟨ty165,⟨ty141,⟨ty134,⟨ty130,⟨ty128,trivial,trivial⟩,trivial⟩,⟨ty138,trivial,trivial⟩⟩,⟨ty146,⟨ty145,trivial,trivial⟩,⟨ty162,trivial,trivial⟩⟩⟩,⟨ty185,⟨ty180,⟨ty178,⟨ty173,trivial,trivial⟩,trivial⟩,⟨ty181,trivial,trivial⟩⟩,⟨ty191,⟨ty189,trivial,trivial⟩,⟨ty195,trivial,trivial⟩⟩⟩⟩,⟨ty221,⟨ty211,⟨ty207,⟨ty205,⟨ty203,trivial,trivial⟩,trivial⟩,⟨ty209,trivial,trivial⟩⟩,⟨ty215,⟨ty213,trivial,trivial⟩,⟨ty218,trivial,trivial⟩⟩⟩,⟨ty252,⟨ty236,⟨ty234,⟨ty223,trivial,trivial⟩,trivial⟩,⟨ty244,trivial,trivial⟩⟩,⟨ty270,⟨ty266,trivial,trivial⟩,⟨ty273,trivial,trivial⟩⟩⟩⟩⟩⟩
theorem Aqu:etab.all (fun t i=>Y5 Tryz.prog t=some i):=⟨tq191,⟨tq178,⟨tq122,trivial,trivial⟩,trivial⟩,⟨tq195,trivial,trivial⟩⟩
def Γ:TyE Tryz.prog:=⟨⟨fun t=>tab.look t,fun _ _ h=>Ap5 (Tr.look_ok tab_ok h)⟩,fun t=>etab.look t,fun _ _ h=>Apb (Tr.look_ok Aqu h)⟩
theorem hm:Tryz.prog.follows .mixedOrders=true:=by kernel_rfl
abbrev fT (i:Nat) (fn:Func):Prop:=Fun Tryz.prog i fn (Zd fn)
theorem fN {P : Program} {f : FuncId} {fn : Func} (h : P.funcs[f]? = some fn) (hb : fn.body = some (Zd fn) := by exact rfl) (hn : (fn.name == "runtime.NumGoroutine") = false := by kernel_rfl) : Fun P f fn (Zd fn) := ⟨h, hb, hn⟩
theorem cT {f:FuncId} {fn:Func} {c:Code} {A:List SV} {H:Obs} {R:SV} {H':Obs} (hF:Fun Tryz.prog f fn c) {n:Nat} (hn':fn.ntmps=n)
  (h:∀ (F:Fr) (hF:∀ k,F.k0 k≠.new→k∈H.keys),Kx ⟨Tryz.prog,Γ.toTy,F,n,Qm Tryz.prog fn F R H',H.keys,hF⟩ Γ 100 [.code c] ⟨argσ A,mkh H⟩) (hn:Afi A n=true:=by exact rfl):Sy.Spec Tryz.prog f A H R H':=Lo Γ hm 100 hF hn' hn h
theorem F3:fT 3 Tryz.f3:=fN Tryz.func3
theorem F4:fT 4 Tryz.f4:=fN Tryz.func4
theorem F5:fT 5 Tryz.f5:=fN Tryz.func5
theorem F6:fT 6 Tryz.f6:=fN Tryz.func6
theorem F7:fT 7 Tryz.f7:=fN Tryz.func7
theorem F8:fT 8 Tryz.f8:=fN Tryz.func8
theorem F9:fT 9 Tryz.f9:=fN Tryz.func9
theorem F10:fT 10 Tryz.f10:=fN Tryz.func10
theorem F11:fT 11 Tryz.f11:=fN Tryz.func11
theorem F12:fT 12 Tryz.f12:=fN Tryz.func12
theorem F13:fT 13 Tryz.f13:=fN Tryz.func13
theorem F14:fT 14 Tryz.f14:=fN Tryz.func14
theorem F15:fT 15 Tryz.f15:=fN Tryz.func15
theorem F16:fT 16 Tryz.f16:=fN Tryz.func16
theorem F17:fT 17 Tryz.f17:=fN Tryz.func17
theorem F18:fT 18 Tryz.f18:=fN Tryz.func18
theorem F19:fT 19 Tryz.f19:=fN Tryz.func19
theorem F20:fT 20 Tryz.f20:=fN Tryz.func20
theorem F21:fT 21 Tryz.f21:=fN Tryz.func21
theorem F22:fT 22 Tryz.f22:=fN Tryz.func22
theorem F23:fT 23 Tryz.f23:=fN Tryz.func23
theorem F24:fT 24 Tryz.f24:=fN Tryz.func24
theorem F25:fT 25 Tryz.f25:=fN Tryz.func25
theorem F26:fT 26 Tryz.f26:=fN Tryz.func26
theorem F27:fT 27 Tryz.f27:=fN Tryz.func27
theorem F28:fT 28 Tryz.f28:=fN Tryz.func28
theorem F29:fT 29 Tryz.f29:=fN Tryz.func29
theorem F31:fT 31 Tryz.f31:=fN Tryz.func31
theorem F32:fT 32 Tryz.f32:=fN Tryz.func32
theorem F33:fT 33 Tryz.f33:=fN Tryz.func33
theorem F34:fT 34 Tryz.f34:=fN Tryz.func34
theorem F35:fT 35 Tryz.f35:=fN Tryz.func35
theorem F36:fT 36 Tryz.f36:=fN Tryz.func36
theorem F37:fT 37 Tryz.f37:=fN Tryz.func37
theorem F38:fT 38 Tryz.f38:=fN Tryz.func38
theorem F39:fT 39 Tryz.f39:=fN Tryz.func39
theorem F40:fT 40 Tryz.f40:=fN Tryz.func40
theorem F41:fT 41 Tryz.f41:=fN Tryz.func41
theorem F42:fT 42 Tryz.f42:=fN Tryz.func42
theorem F43:fT 43 Tryz.f43:=fN Tryz.func43
theorem F44:fT 44 Tryz.f44:=fN Tryz.func44
theorem F45:fT 45 Tryz.f45:=fN Tryz.func45
theorem F46:fT 46 Tryz.f46:=fN Tryz.func46
theorem F47:fT 47 Tryz.f47:=fN Tryz.func47
theorem F48:fT 48 Tryz.f48:=fN Tryz.func48
theorem F49:fT 49 Tryz.f49:=fN Tryz.func49
theorem F50:fT 50 Tryz.f50:=fN Tryz.func50
theorem F51:fT 51 Tryz.f51:=fN Tryz.func51
theorem F52:fT 52 Tryz.f52:=fN Tryz.func52
theorem F53:fT 53 Tryz.f53:=fN Tryz.func53
theorem F54:fT 54 Tryz.f54:=fN Tryz.func54
theorem F55:fT 55 Tryz.f55:=fN Tryz.func55
theorem F56:fT 56 Tryz.f56:=fN Tryz.func56
theorem F57:fT 57 Tryz.f57:=fN Tryz.func57
theorem F58:fT 58 Tryz.f58:=fN Tryz.func58
theorem F59:fT 59 Tryz.f59:=fN Tryz.func59
theorem F60:fT 60 Tryz.f60:=fN Tryz.func60
theorem F61:fT 61 Tryz.f61:=fN Tryz.func61
theorem F62:fT 62 Tryz.f62:=fN Tryz.func62
theorem F63:fT 63 Tryz.f63:=fN Tryz.func63
theorem F64:fT 64 Tryz.f64:=fN Tryz.func64
theorem F65:fT 65 Tryz.f65:=fN Tryz.func65
theorem F66:fT 66 Tryz.f66:=fN Tryz.func66
theorem F67:fT 67 Tryz.f67:=fN Tryz.func67
theorem F72:fT 72 Tryz.f72:=fN Tryz.func72
theorem F73:fT 73 Tryz.f73:=fN Tryz.func73
theorem F74:fT 74 Tryz.f74:=fN Tryz.func74
theorem F75:fT 75 Tryz.f75:=fN Tryz.func75
theorem F76:fT 76 Tryz.f76:=fN Tryz.func76
theorem F77:fT 77 Tryz.f77:=fN Tryz.func77
theorem F78:fT 78 Tryz.f78:=fN Tryz.func78
theorem F79:fT 79 Tryz.f79:=fN Tryz.func79
theorem F80:fT 80 Tryz.f80:=fN Tryz.func80
theorem F81:fT 81 Tryz.f81:=fN Tryz.func81
theorem F82:fT 82 Tryz.f82:=fN Tryz.func82
theorem F83:fT 83 Tryz.f83:=fN Tryz.func83
theorem F84:fT 84 Tryz.f84:=fN Tryz.func84
theorem F85:fT 85 Tryz.f85:=fN Tryz.func85
theorem F86:fT 86 Tryz.f86:=fN Tryz.func86
theorem F87:fT 87 Tryz.f87:=fN Tryz.func87
theorem F88:fT 88 Tryz.f88:=fN Tryz.func88
theorem F89:fT 89 Tryz.f89:=fN Tryz.func89
theorem F90:fT 90 Tryz.f90:=fN Tryz.func90
theorem F91:fT 91 Tryz.f91:=fN Tryz.func91
theorem F92:fT 92 Tryz.f92:=fN Tryz.func92
theorem F93:fT 93 Tryz.f93:=fN Tryz.func93
theorem F94:fT 94 Tryz.f94:=fN Tryz.func94
theorem F96:fT 96 Tryz.f96:=fN Tryz.func96
theorem F97:fT 97 Tryz.f97:=fN Tryz.func97
theorem F98:fT 98 Tryz.f98:=fN Tryz.func98
theorem F99:fT 99 Tryz.f99:=fN Tryz.func99
theorem F100:fT 100 Tryz.f100:=fN Tryz.func100
theorem F101:fT 101 Tryz.f101:=fN Tryz.func101
theorem F103:fT 103 Tryz.f103:=fN Tryz.func103
theorem F104:fT 104 Tryz.f104:=fN Tryz.func104
theorem F105:fT 105 Tryz.f105:=fN Tryz.func105
theorem F106:fT 106 Tryz.f106:=fN Tryz.func106
theorem F107:fT 107 Tryz.f107:=fN Tryz.func107
theorem F108:fT 108 Tryz.f108:=fN Tryz.func108
theorem F109:fT 109 Tryz.f109:=fN Tryz.func109
theorem F110:fT 110 Tryz.f110:=fN Tryz.func110
theorem F111:fT 111 Tryz.f111:=fN Tryz.func111
theorem F112:fT 112 Tryz.f112:=fN Tryz.func112
theorem F113:fT 113 Tryz.f113:=fN Tryz.func113
theorem F114:fT 114 Tryz.f114:=fN Tryz.func114
theorem F115:fT 115 Tryz.f115:=fN Tryz.func115
theorem F116:fT 116 Tryz.f116:=fN Tryz.func116
theorem F117:fT 117 Tryz.f117:=fN Tryz.func117
theorem F122:fT 122 Tryz.f122:=fN Tryz.func122
theorem F123:fT 123 Tryz.f123:=fN Tryz.func123
theorem F124:fT 124 Tryz.f124:=fN Tryz.func124
theorem F125:fT 125 Tryz.f125:=fN Tryz.func125
theorem F126:fT 126 Tryz.f126:=fN Tryz.func126
theorem F127:fT 127 Tryz.f127:=fN Tryz.func127
theorem F128:fT 128 Tryz.f128:=fN Tryz.func128
theorem F129:fT 129 Tryz.f129:=fN Tryz.func129
theorem F130:fT 130 Tryz.f130:=fN Tryz.func130
theorem F131:fT 131 Tryz.f131:=fN Tryz.func131
theorem F132:fT 132 Tryz.f132:=fN Tryz.func132
theorem F133:fT 133 Tryz.f133:=fN Tryz.func133
theorem F134:fT 134 Tryz.f134:=fN Tryz.func134
theorem F135:fT 135 Tryz.f135:=fN Tryz.func135
theorem F136:fT 136 Tryz.f136:=fN Tryz.func136
theorem F137:fT 137 Tryz.f137:=fN Tryz.func137
theorem F138:fT 138 Tryz.f138:=fN Tryz.func138
theorem F139:fT 139 Tryz.f139:=fN Tryz.func139
theorem F140:fT 140 Tryz.f140:=fN Tryz.func140
theorem F141:fT 141 Tryz.f141:=fN Tryz.func141
theorem F142:fT 142 Tryz.f142:=fN Tryz.func142
theorem F143:fT 143 Tryz.f143:=fN Tryz.func143
theorem F144:fT 144 Tryz.f144:=fN Tryz.func144
theorem F145:fT 145 Tryz.f145:=fN Tryz.func145
theorem F146:fT 146 Tryz.f146:=fN Tryz.func146
theorem F147:fT 147 Tryz.f147:=fN Tryz.func147
theorem F148:fT 148 Tryz.f148:=fN Tryz.func148
theorem F149:fT 149 Tryz.f149:=fN Tryz.func149
theorem F150:fT 150 Tryz.f150:=fN Tryz.func150
theorem F151:fT 151 Tryz.f151:=fN Tryz.func151
theorem F152:fT 152 Tryz.f152:=fN Tryz.func152
theorem F153:fT 153 Tryz.f153:=fN Tryz.func153
theorem F154:fT 154 Tryz.f154:=fN Tryz.func154
theorem F155:fT 155 Tryz.f155:=fN Tryz.func155
theorem F156:fT 156 Tryz.f156:=fN Tryz.func156
theorem F157:fT 157 Tryz.f157:=fN Tryz.func157
theorem F158:fT 158 Tryz.f158:=fN Tryz.func158
theorem F159:fT 159 Tryz.f159:=fN Tryz.func159
theorem F160:fT 160 Tryz.f160:=fN Tryz.func160
theorem F161:fT 161 Tryz.f161:=fN Tryz.func161
theorem F162:fT 162 Tryz.f162:=fN Tryz.func162
theorem F163:fT 163 Tryz.f163:=fN Tryz.func163
theorem F164:fT 164 Tryz.f164:=fN Tryz.func164
theorem F165:fT 165 Tryz.f165:=fN Tryz.func165
theorem F166:fT 166 Tryz.f166:=fN Tryz.func166
theorem F167:fT 167 Tryz.f167:=fN Tryz.func167
theorem F168:fT 168 Tryz.f168:=fN Tryz.func168
theorem F169:fT 169 Tryz.f169:=fN Tryz.func169
theorem F170:fT 170 Tryz.f170:=fN Tryz.func170
theorem F171:fT 171 Tryz.f171:=fN Tryz.func171
theorem F172:fT 172 Tryz.f172:=fN Tryz.func172
theorem F173:fT 173 Tryz.f173:=fN Tryz.func173
theorem F175:fT 175 Tryz.f175:=fN Tryz.func175
theorem F176:fT 176 Tryz.f176:=fN Tryz.func176
theorem F177:fT 177 Tryz.f177:=fN Tryz.func177
theorem F178:fT 178 Tryz.f178:=fN Tryz.func178
theorem F179:fT 179 Tryz.f179:=fN Tryz.func179
theorem F181:fT 181 Tryz.f181:=fN Tryz.func181
theorem F182:fT 182 Tryz.f182:=fN Tryz.func182
theorem F183:fT 183 Tryz.f183:=fN Tryz.func183
theorem F184:fT 184 Tryz.f184:=fN Tryz.func184
theorem F185:fT 185 Tryz.f185:=fN Tryz.func185
theorem F186:fT 186 Tryz.f186:=fN Tryz.func186
theorem F187:fT 187 Tryz.f187:=fN Tryz.func187
theorem F188:fT 188 Tryz.f188:=fN Tryz.func188
theorem F189:fT 189 Tryz.f189:=fN Tryz.func189
theorem F190:fT 190 Tryz.f190:=fN Tryz.func190
theorem F202:fT 202 Tryz.f202:=fN Tryz.func202
theorem F203:fT 203 Tryz.f203:=fN Tryz.func203
theorem F204:fT 204 Tryz.f204:=fN Tryz.func204
theorem F205:fT 205 Tryz.f205:=fN Tryz.func205
theorem F206:fT 206 Tryz.f206:=fN Tryz.func206
theorem F207:fT 207 Tryz.f207:=fN Tryz.func207
theorem F208:fT 208 Tryz.f208:=fN Tryz.func208
theorem F209:fT 209 Tryz.f209:=fN Tryz.func209
theorem F210:fT 210 Tryz.f210:=fN Tryz.func210
theorem F211:fT 211 Tryz.f211:=fN Tryz.func211
theorem F212:fT 212 Tryz.f212:=fN Tryz.func212
theorem F213:fT 213 Tryz.f213:=fN Tryz.func213
theorem F214:fT 214 Tryz.f214:=fN Tryz.func214
theorem F215:fT 215 Tryz.f215:=fN Tryz.func215
theorem F216:fT 216 Tryz.f216:=fN Tryz.func216
theorem F217:fT 217 Tryz.f217:=fN Tryz.func217
theorem F218:fT 218 Tryz.f218:=fN Tryz.func218
theorem F219:fT 219 Tryz.f219:=fN Tryz.func219
theorem F220:fT 220 Tryz.f220:=fN Tryz.func220
theorem F221:fT 221 Tryz.f221:=fN Tryz.func221
theorem F222:fT 222 Tryz.f222:=fN Tryz.func222
theorem F223:fT 223 Tryz.f223:=fN Tryz.func223
theorem F224:fT 224 Tryz.f224:=fN Tryz.func224
theorem F225:fT 225 Tryz.f225:=fN Tryz.func225
theorem F226:fT 226 Tryz.f226:=fN Tryz.func226
theorem F227:fT 227 Tryz.f227:=fN Tryz.func227
theorem F228:fT 228 Tryz.f228:=fN Tryz.func228
theorem F237:fT 237 Tryz.f237:=fN Tryz.func237
theorem F238:fT 238 Tryz.f238:=fN Tryz.func238
theorem F239:fT 239 Tryz.f239:=fN Tryz.func239
theorem F240:fT 240 Tryz.f240:=fN Tryz.func240
theorem F241:fT 241 Tryz.f241:=fN Tryz.func241
theorem F242:fT 242 Tryz.f242:=fN Tryz.func242
theorem F252:fT 252 Tryz.f252:=fN Tryz.func252
theorem F253:fT 253 Tryz.f253:=fN Tryz.func253
theorem F254:fT 254 Tryz.f254:=fN Tryz.func254
theorem F255:fT 255 Tryz.f255:=fN Tryz.func255
theorem F256:fT 256 Tryz.f256:=fN Tryz.func256
theorem rg {F:Fr} {n:Nat} {B:Exit→Act→World→Prop} {bn:List Nat} {hbn:∀ k,F.k0 k≠.new→k∈bn} {k:List KI} {s:SS} (h:Kx ⟨Tryz.prog,Γ.toTy,F,n,B,bn,hbn⟩ Γ 400 k s):G ⟨Tryz.prog,Γ.toTy,F,n,B,bn,hbn⟩ k s:=rG Γ hm h
theorem rd {F:Fr} {n:Nat} {B:Exit→Act→World→Prop} {bn:List Nat} {hbn:∀ k,F.k0 k≠.new→k∈bn} {k:List KI} {s:SS} {all:Array Oper} {done:List Stp} {rest:List Oper} (hs:all.toList=done.map (·.o)++rest) (h:Ue ⟨Tryz.prog,Γ.toTy,F,n,B,bn,hbn⟩ Γ 400 k all done rest s):DR ⟨Tryz.prog,Γ.toTy,F,n,B,bn,hbn⟩ k all done rest s:=rD Γ hm hs h
structure Bq (Q:Prop):Prop where out:Q
theorem oO {P Q:Prop} (h:Q) (e:Bq Q→P:=by intro hb;refine rg ?_;(conv=>whnf);exact hb.out):P:=e ⟨h⟩
theorem oF {P Q:Prop} (h:Q) (e:Bq Q→P:=by intro hb;refine rg ?_;(conv=>whnf);refine aF ?_;refine rg ?_;(conv=>whnf);exact hb.out):P:=e ⟨h⟩
theorem oT {P Q:Prop} (h:Q) (e:Bq Q→P:=by intro hb;refine rg ?_;(conv=>whnf);refine aT ?_;refine rg ?_;(conv=>whnf);exact hb.out):P:=e ⟨h⟩
theorem bF {P Q:Prop} (h:Q) (e:Bq Q→P:=by intro hb;refine aF ?_;refine rg ?_;(conv=>whnf);exact hb.out):P:=e ⟨h⟩
theorem bT {P Q:Prop} (h:Q) (e:Bq Q→P:=by intro hb;refine aT ?_;refine rg ?_;(conv=>whnf);exact hb.out):P:=e ⟨h⟩
theorem oD {P Q:Prop} (h:Q) (e:Bq Q→P:=by intro hb;refine rd y_ ?_;(conv=>whnf);exact hb.out):P:=e ⟨h⟩
theorem dN {P:Prop} (h:P:=by
 apply Aw
 ·exact q_
 ·(repeat (first | exact ResVs.nil | (apply ResVs.cons;(first | exact .tmp | exact .cell rfl rfl rfl rfl))))
 ·exact q_
 ·exact q_):P:=h
theorem iL {a:Int} {K:Prop} (h:K) (e:I64 a:=by unfold I64;omega):I64 a∧K:=⟨e,h⟩
theorem iW {a:Int} {K Q:Prop} (h:Q) (e:I64 a:=by unfold I64;omega) (e2:Bq Q→K:=by intro hb;(conv=>whnf);exact hb.out):I64 a∧K:=⟨e,e2 ⟨h⟩⟩
theorem kW {α:Sort _} {a b:α} {K Q:Prop} (h:Q) (e:a=b:=by kernel_rfl) (e2:Bq Q→K:=by intro hb;(conv=>whnf);exact hb.out):a=b∧K:=⟨e,e2 ⟨h⟩⟩
theorem c0 {C:Cx} {k:List KI} {s:SS} {all:Array Oper} {o:Oper} {rest:List Oper} {f:FuncId} {fn:Func} {c:Code} {xs:List Operand} {ts:Array TypeId} {A:List SV} {R:SV} (hs:Sy.Spec C.P f A [] R []) (hf:Fun C.P f fn c) (hg:G C (.ops all rest::k) (s.upd o.dst ⟨R,[],[]⟩)) (h:o.op=.call ⟨.value (.func f),xs.toArray,ts⟩:=by exact rfl)
  (hA:A=xs.map (ev s):=by exact rfl) (hok:(Bn [] A && R.inn [])=true:=by exact rfl) (hd:Q5 C.n o=true:=by exact rfl) (hw:Dy C.n all o s=some true:=by exact rfl):G C (.ops all (o::rest)::k) s:=Mq hs hf h hA hok hd hw hg
theorem cD {C:Cx} {k:List KI} {s:SS} {all:Array Oper} {done:List Stp} {o:Oper} {rest:List Oper} {f:FuncId} {fn:Func} {c:Code} {xs:List Operand} {ts:Array TypeId} {A:List SV} {R:SV} (hs:Sy.Spec C.P f A [] R []) (hf:Fun C.P f fn c) (hg:DR C k all (done++[⟨done.length,o,⟨R,[],[]⟩,true⟩]) rest (s.upd o.dst ⟨R,[],[]⟩)) (h:o.op=.call ⟨.value (.func f),xs.toArray,ts⟩:=by exact rfl)
  (hA:A=xs.map (ev s):=by exact rfl) (hok:(Bn [] A && R.inn [])=true:=by exact rfl) (hi:all[done.length]? = some o:=by kernel_rfl) (hw:Dy C.n all o s=some true:=by exact rfl):DR C k all done (o::rest) s:=Apl hs hf h hA hok hi hw hg
theorem qA {p q:Prop} [Decidable p] (h:decide p=true) (e:p→q:=by intro _h;omega):q:=e (of_decide_eq_true h)
theorem qB {p q:Prop} [Decidable p] (h:decide p=false) (e:¬ p→q:=by intro _h;omega):q:=e (of_decide_eq_false h)
end Go.Sy.YtdkfcckkkfghgaaGreatDoor
namespace Go.Sy.YtdkfcckkkfghgaaGreatDoor
open Go.Proofs
structure Device where
 (row prio:Int) (name:ByteArray) (mac vtep:Int)
structure Port where
 (row dev native cost link:Int) (name:ByteArray) (tagged:List Int)
structure Link where
 (row a b:Int)
structure Domain where
 (dev vlan vni irb row:Int) (peers:List Int)
structure Static where
 (row domain port mac:Int)
structure Flood where
 (row dev vni:Int) (addrs:List Int)
structure Vrf where
 (row dev:Int) (name:ByteArray) (imports exports:List Int)
structure Irb where
 (row domain vrf addr bits:Int)
structure Net where
 (devices:List Device) (ports:List Port) (links:List Link) (domains:List Domain) (statics:List Static) (floods:List Flood) (vrfs:List Vrf) (irbs:List Irb)
def A2 (d:Device):SV:=.agg [Aa d.row,Aa d.prio,Ae d.name,Dp d.mac,A7 d.vtep]
def Bd (p:Port):SV:=.agg [Aa p.row,Aa p.dev,Aa p.native,Aa p.cost,Aa p.link,Ae p.name,.sl 1 Aa p.tagged]
def Cm (l:Link):SV:=.agg [Aa l.row,Aa l.a,Aa l.b]
def An (d:Domain):SV:=.agg [Aa d.dev,Aa d.vlan,Aa d.vni,Aa d.irb,Aa d.row,.sl 1 Aa d.peers]
def Bb (s:Static):SV:=.agg [Aa s.row,Aa s.domain,Aa s.port,Dp s.mac]
def Be (f:Flood):SV:=.agg [Aa f.row,Aa f.dev,Aa f.vni,.sl 1 A7 f.addrs]
def Ct (v:Vrf):SV:=.agg [Aa v.row,Aa v.dev,Ae v.name,.sl 1 Aa v.imports,.sl 1 Aa v.exports]
def Cr (i:Irb):SV:=.agg [Aa i.row,Aa i.domain,Aa i.vrf,A7 i.addr,Aa i.bits]
def C3 (n:Net):List SV:=[.sl 5 A2 n.devices,.sl 7 Bd n.ports,.sl 3 Cm n.links,.sl 6 An n.domains,.sl 4 Bb n.statics,.sl 4 Be n.floods,.sl 5 Ct n.vrfs,.sl 5 Cr n.irbs]
def Av (n:Net):SV:=.agg [.sl 5 A2 n.devices,.sl 7 Bd n.ports,.sl 3 Cm n.links,.sl 6 An n.domains,.sl 4 Bb n.statics,.sl 4 Be n.floods,.sl 5 Ct n.vrfs,.sl 5 Cr n.irbs]
instance:Inhabited Device:=⟨⟨0,0,.empty,0,0⟩⟩
instance:Inhabited Port:=⟨⟨0,0,0,0,0,.empty,[]⟩⟩
instance:Inhabited Link:=⟨⟨0,0,0⟩⟩
instance:Inhabited Domain:=⟨⟨0,0,0,0,0,[]⟩⟩
instance:Inhabited Static:=⟨⟨0,0,0,0⟩⟩
instance:Inhabited Flood:=⟨⟨0,0,0,[]⟩⟩
instance:Inhabited Vrf:=⟨⟨0,0,.empty,[],[]⟩⟩
instance:Inhabited Irb:=⟨⟨0,0,0,0,0⟩⟩
def Af (i:Int) (n:Nat):Bool:=decide (0≤i) && decide (i<n)
def inB (l:List Int) (x:Int):Bool:=l.any (· == x)
def nth {α:Type} [Inhabited α] (l:List α) (i:Int):α:=(l[i.toNat]?).getD default
theorem A1 {α:Type} [Inhabited α] {l:List α} {i:Int} (h:i.toNat<l.length):nth l i=l[i.toNat]:=by
 simp[nth,h]
def B4 {α:Type} (p:α→Bool) (l:List α):Int:=match l.findIdx? p with | some i=>(i:Int) | none=>-1
theorem Di {α:Type} {p:α→Bool} {l:List α} {j:Nat} (h:j<l.length) (h1:∀ i (hi:i<l.length),i<j→p l[i]=false) (h2:p l[j]=true):B4 p l=j:=by
 have:l.findIdx? p=some j:=by
  rw[List.findIdx?_eq_some_iff_getElem]
  exact⟨h,h2,fun i hi=>by simp[h1 i j_ hi]⟩
 simp[B4,this]
theorem Hc {α:Type} {p:α→Bool} {l:List α} (h1:∀ i (hi:i<l.length),p l[i]=false):B4 p l=-1:=by
 have:l.findIdx? p=none:=by
  rw[List.findIdx?_eq_none_iff]
  intro x hx
  obtain ⟨i,hi,rfl⟩:=List.mem_iff_getElem.1 hx
  exact h1 i hi
 simp[B4,this]
theorem Acz {α:Type} (p:α→Bool) (l:List α):B4 p l<l.length:=by
 unfold B4
 split
 ·rename_i i h
  rw[List.findIdx?_eq_some_iff_getElem]at h
  obtain ⟨h,_⟩:=h
  omega
 ·omega
theorem Ll {α:Type} (p:α→Bool) (l:List α):decide (0≤B4 p l)=l.any p:=by
 unfold B4
 split
 ·rename_i i h
  rw[List.findIdx?_eq_some_iff_getElem]at h
  obtain ⟨h,h2,_⟩:=h
  have:l.any p=true:=List.any_eq_true.2 ⟨_,List.getElem_mem h,h2⟩
  rw[this]
  simp
 ·rename_i h
  rw[List.findIdx?_eq_none_iff]at h
  have:l.any p=false:=by
   rw[List.any_eq_false]
   intro x hx
   simp[h x hx]
  rw[this]
  simp
def Hf {α:Type} (p:Nat→α→Bool) (l:List α):Bool:=l.zipIdx.all fun q=>p q.2 q.1
theorem allB_iff {α:Type} {p:Nat→α→Bool} {l:List α}:Hf p l=true↔∀ i (h:i<l.length),p i l[i]=true:=by
 simp only[Hf,List.all_eq_true]
 constructor
 ·intro h i hi
  exact h (l[i],i) (by rw[List.mk_mem_zipIdx_iff_getElem?];simp[hi])
 ·rintro h ⟨x,i⟩ hx
  rw[List.mk_mem_zipIdx_iff_getElem?]at hx
  obtain ⟨hi,rfl⟩:=List.getElem?_eq_some_iff.1 hx
  exact h i hi
theorem Amm {α:Type} {p:Nat→α→Bool} {l:List α} (h:∀ i (h:i<l.length),p i l[i]=true):Hf p l=true:=allB_iff.2 h
theorem Cn {α:Type} {p:Nat→α→Bool} {l:List α} {i:Nat} (h:i<l.length) (h1:p i l[i]=false):Hf p l=false:=by
 cases hh:Hf p l with
 | false=>rfl
 | true=>have:=allB_iff.1 hh i h;rw[h1]at this;cases this
def I2 {α:Type} (p:Nat→α→Bool) (l:List α) (j:Nat):Prop:=∀ i (h:i<l.length),i<j→p i l[i]=true
theorem Bt {α:Type} (p:Nat→α→Bool) (l:List α):I2 p l 0:=fun i h hj=>absurd hj j_
theorem Bm {α:Type} {p:Nat→α→Bool} {l:List α} {j:Nat} (hI:I2 p l j) (hj:j<l.length) (h:p j l[j]=true):I2 p l (j+1):=by
 intro i hi hij
 rcases Nat.lt_or_ge i j with h1 | h1
 ·exact hI i hi h1
 ·have:i=j:=by omega
  subst this
  exact h
theorem Ej {α:Type} {p:Nat→α→Bool} {l:List α} {j:Nat} (hI:I2 p l j) (hj:l.length≤j):Hf p l=true:=Amm fun i hi=>hI i hi j_
def Ax {α:Type} (l:List α):Prop:=l.length<2147483648
end Go.Sy.YtdkfcckkkfghgaaGreatDoor
namespace Go.Sy.YtdkfcckkkfghgaaGreatDoor
open Go.Proofs
attribute [local irreducible] Go.Sy.G Go.Sy.DR
set_option maxRecDepth 20000
set_option maxHeartbeats 4000000
theorem Hq {α:Type} (sz:Nat) (e:α→SV) (l:List α) (i:Int):Sy.Spec Tryz.prog 151 [.sl sz e l,Aa i] [] (Ab (Af i l.length)) []:=cT F151 Tryz.ntmps151 fun F hF=>by
 conv=>whnf
 (repeat' (first | (refine⟨fun h=>?_,fun h=>?_⟩<;>(repeat (first | simp only[decide_eq_true_eq]at h | simp only[decide_eq_false_iff_not]at h))<;>((refine oO ?_))) | (refine Aw rfl (.cons .tmp .nil) ?_ rfl)))
 all_goals (refine congrArg Ab ?_)
 all_goals grind [Af]
theorem Ah2 {α:Type} (sz:Nat) (e:α→SV) (l:List α) (i:Int):Sy.Spec Tryz.prog 217 [.sl sz e l,Aa i] [] (Ab (Af i l.length)) []:=cT F217 Tryz.ntmps217 fun F hF=>by
 conv=>whnf
 (repeat' (first | (refine⟨fun h=>?_,fun h=>?_⟩<;>(repeat (first | simp only[decide_eq_true_eq]at h | simp only[decide_eq_false_iff_not]at h))<;>((refine oO ?_))) | (refine Aw rfl (.cons .tmp .nil) ?_ rfl)))
 all_goals (refine congrArg Ab ?_)
 all_goals grind [Af]
theorem Aem {α:Type} (sz:Nat) (e:α→SV) (l:List α) (i:Int):Sy.Spec Tryz.prog 223 [.sl sz e l,Aa i] [] (Ab (Af i l.length)) []:=cT F223 Tryz.ntmps223 fun F hF=>by
 conv=>whnf
 (repeat' (first | (refine⟨fun h=>?_,fun h=>?_⟩<;>(repeat (first | simp only[decide_eq_true_eq]at h | simp only[decide_eq_false_iff_not]at h))<;>((refine oO ?_))) | (refine Aw rfl (.cons .tmp .nil) ?_ rfl)))
 all_goals (refine congrArg Ab ?_)
 all_goals grind [Af]
theorem M5 {α:Type} (sz:Nat) (e:α→SV) (l:List α) (i:Int):Sy.Spec Tryz.prog 224 [.sl sz e l,Aa i] [] (Ab (Af i l.length)) []:=cT F224 Tryz.ntmps224 fun F hF=>by
 conv=>whnf
 (repeat' (first | (refine⟨fun h=>?_,fun h=>?_⟩<;>(repeat (first | simp only[decide_eq_true_eq]at h | simp only[decide_eq_false_iff_not]at h))<;>((refine oO ?_))) | (refine Aw rfl (.cons .tmp .nil) ?_ rfl)))
 all_goals (refine congrArg Ab ?_)
 all_goals grind [Af]
theorem K9 {α:Type} (sz:Nat) (e:α→SV) (l:List α) (i:Int):Sy.Spec Tryz.prog 225 [.sl sz e l,Aa i] [] (Ab (Af i l.length)) []:=cT F225 Tryz.ntmps225 fun F hF=>by
 conv=>whnf
 (repeat' (first | (refine⟨fun h=>?_,fun h=>?_⟩<;>(repeat (first | simp only[decide_eq_true_eq]at h | simp only[decide_eq_false_iff_not]at h))<;>((refine oO ?_))) | (refine Aw rfl (.cons .tmp .nil) ?_ rfl)))
 all_goals (refine congrArg Ab ?_)
 all_goals grind [Af]
theorem Ah1 {α:Type} (sz:Nat) (e:α→SV) (l:List α) (i:Int):Sy.Spec Tryz.prog 227 [.sl sz e l,Aa i] [] (Ab (Af i l.length)) []:=cT F227 Tryz.ntmps227 fun F hF=>by
 conv=>whnf
 (repeat' (first | (refine⟨fun h=>?_,fun h=>?_⟩<;>(repeat (first | simp only[decide_eq_true_eq]at h | simp only[decide_eq_false_iff_not]at h))<;>((refine oO ?_))) | (refine Aw rfl (.cons .tmp .nil) ?_ rfl)))
 all_goals (refine congrArg Ab ?_)
 all_goals grind [Af]
theorem Aow (l:List Int) (x:Int) (hl:Ax l):Sy.Spec Tryz.prog 222 [.sl 1 Aa l,Aa x] [] (Aa (B4 (· == x) l)) []:=cT F222 Tryz.ntmps222 fun F hF=>by
 unfold Ax at hl
 conv=>whnf
 refine Bf l.length (fun j=>∀ i (h:i<l.length),i<j→(l[i] == x)=false) (fun j=>[(0,.sl 1 Aa l),(1,Aa x),(7,Aa l.length),(8,Aa j)]) (fun _=>[]) [] (fun i h hj=>absurd hj j_) ⟨⟨q_,q_,q_,q_,q_,q_,q_,q_,z_⟩,z_,q_,q_⟩ ?_
 intro j hj hI
 refine oO ?_
 (repeat' (first | (refine⟨fun h=>?_,fun h=>?_⟩<;>(repeat (first | simp only[decide_eq_true_eq]at h | simp only[decide_eq_false_iff_not]at h | simp only[beq_iff_eq]at h | simp only[beq_eq_false_iff_ne]at h))<;>((refine oO ?_))) | (refine Aw rfl (.cons .tmp .nil) ?_ rfl) | (refine⟨y_,?_⟩;((conv=>whnf))) | (refine⟨by (omega),by (omega),?_⟩;((conv=>whnf))) | (refine⟨by (unfold I64;omega),?_⟩;((conv=>whnf))) | refine Bi [] hI j_ ?_ ⟨⟨rfl,rfl,rfl,rfl,rfl,rfl,rfl,rfl,trivial⟩,trivial,rfl,rfl⟩))
 all_goals try (refine congrArg Aa ?_)
 ·exact Di j_ hI (by simpa using h.symm)
 ·intro i hi hij
  rcases Nat.lt_or_ge i j with h1 | h1
  ·exact hI i hi h1
  ·have:i=j:=by omega
   subst this
   simpa using Ne.symm h
 ·exact Hc (fun i hi=>hI i hi j_)
theorem Lp (l:List Int) (x:Int) (hl:Ax l):Sy.Spec Tryz.prog 179 [.sl 1 Aa l,Aa x] [] (Ab (inB l x)) []:=cT F179 Tryz.ntmps179 fun F hF=>by
 conv=>whnf
 (repeat' (first | (refine Aw rfl (.cons .tmp .nil) ?_ rfl) | (refine c0 (Aow _ _ hl) F222 ?_;((refine oO ?_)))))
 exact congrArg Ab (Ll _ _).symm
def Ck (p:Port) (v:Int):Bool:=v != 0 && (v == p.native || inB p.tagged v)
theorem Acn (p:Port) (v:Int) (hl:Ax p.tagged):Sy.Spec Tryz.prog 130 [Bd p,Aa v] [] (Ab (Ck p v)) []:=cT F130 Tryz.ntmps130 fun F hF=>by
 conv=>whnf
 (repeat' (first | (refine⟨fun h=>?_,fun h=>?_⟩<;>(repeat (first | simp only[beq_iff_eq]at h | simp only[beq_eq_false_iff_ne]at h | simp only[bne_iff_ne]at h | simp only[bne_eq_false_iff_eq]at h))<;>((refine oO ?_))) | (refine Aw rfl (.cons .tmp .nil) ?_ rfl) | (refine c0 (Lp _ _ hl) F179 ?_;((refine oO ?_)))))
 all_goals (refine congrArg Ab ?_)
 all_goals grind [Ck]
def Qq (l:List Int) (least most:Int) (i:Nat) (x:Int):Bool:=decide (least≤x) && decide (x≤most) && (i == 0 || decide (nth l ((i:Int)-1)<x))
def Ht (l:List Int) (least most:Int):Bool:=decide (0<l.length) && decide (l.length≤16) && Hf (Qq l least most) l
theorem X8 (l:List Int) (least most:Int) (hl:Ax l):Sy.Spec Tryz.prog 226 [.sl 1 Aa l,Aa least,Aa most] [] (Ab (Ht l least most)) []:=cT F226 Tryz.ntmps226 fun F hF=>by
 unfold Ax at hl
 conv=>whnf
 refine Bf l.length (fun j=>I2 (Qq l least most) l j) (fun j=>[(0,.sl 1 Aa l),(1,Aa least),(2,Aa most),(9,.sl 1 Aa l),(10,Aa l.length),(11,Aa j)]) (fun _=>[]) [] (Bt _ _) ⟨⟨q_,q_,q_,q_,q_,q_,q_,q_,q_,q_,q_,q_,z_⟩,z_,q_,q_⟩ ?_
 intro j hj hI
 refine oO ?_
 (repeat' (first | (refine⟨fun h=>?_,fun h=>?_⟩<;>(repeat (first | simp only[decide_eq_true_eq]at h | simp only[decide_eq_false_iff_not]at h))<;>((refine oO ?_);repeat((first|refine aF ?_|refine aT ?_);(refine oO ?_)))) | (refine Aw rfl (.cons .tmp .nil) ?_ rfl) | (refine⟨y_,?_⟩;((conv=>whnf))) | (refine⟨by (first | (unfold I64;omega) | omega),by (omega),?_⟩;((conv=>whnf))) | (refine⟨by (unfold I64;omega),?_⟩;((conv=>whnf))) | refine Bi [] hI j_ ?_ ⟨⟨rfl,rfl,rfl,rfl,rfl,rfl,rfl,rfl,rfl,rfl,rfl,rfl,trivial⟩,trivial,rfl,rfl⟩))
 all_goals try (refine congrArg Ab ?_)
 all_goals try simp only[Int.toNat_natCast,Int.pred_toNat]at *
 ·rw[Ht,Cn (i:=j) j_ (by simp[Qq];omega)];simp
 ·rw[Ht,Cn (i:=j) j_ (by simp[Qq];omega)];simp
 ·rw[Ht,Cn (i:=j) j_ (by simp only[Qq,A1 (show ((j:Int)-1).toNat<l.length by omega),Int.pred_toNat,Int.toNat_natCast];simp;omega)];simp
 ·exact Bm hI j_ (by simp only[Qq,A1 (show ((j:Int)-1).toNat<l.length by omega),Int.pred_toNat,Int.toNat_natCast];simp;omega)
 ·exact Bm hI j_ (by simp[Qq];omega)
 ·rw[Ht,Ej hI j_,Bool.eq_iff_iff];simp;omega
 ·rw[Ht];simp;omega
theorem Abp (l:List Int) (most:Int) (hl:Ax l):Sy.Spec Tryz.prog 154 [.sl 1 Aa l,Aa most] [] (Ab (decide (l.length=0) || Ht l 1 most)) []:=cT F154 Tryz.ntmps154 fun F hF=>by
 conv=>whnf
 (repeat' (first | (refine⟨fun h=>?_,fun h=>?_⟩<;>(repeat (first | simp only[beq_iff_eq]at h | simp only[beq_eq_false_iff_ne]at h))<;>((refine oO ?_))) | (refine Aw rfl (.cons .tmp .nil) ?_ rfl) | (refine c0 (X8 l 1 most hl) F226 ?_;((refine oO ?_)))))
 all_goals (refine congrArg Ab ?_)
 all_goals grind
theorem C5 {K:List Nat}:∀ (a b:List SV),Bn K (a++b)=(Bn K a && Bn K b)
 | [],b=>by simp[Bn]
 | x::a,b=>by simp[Bn,C5 a b,Bool.and_assoc]
theorem Dd {f:FuncId} {first cap xs:List SV} (hc:(SV.clo (.func f) first cap).inn []=true) (hx:Bn [] xs=true):Bn [] (first++xs++cap)=true:=by
 simp only[SV.inn,Bool.and_eq_true]at hc
 rw[C5,C5,hc.1,hc.2,hx]
 rfl
theorem Ez (l:List Domain) (p:Domain→Bool) (f:FuncId) (first cap:List SV) (hc:(SV.clo (.func f) first cap).inn []=true) (hf:∀ x∈l,Hg Tryz.prog f (first++[An x]++cap) (Ab (p x))) (hl:Ax l) :
  Sy.Spec Tryz.prog 167 [.sl 6 An l,.clo (.func f) first cap] [] (Aa (B4 p l)) []:=cT F167 Tryz.ntmps167 fun F hF=>by
 unfold Ax at hl
 have hin:∀ x:Domain,Bn [] (first++[An x]++cap)=true:=fun x=>Dd hc rfl
 conv=>whnf
 refine Bf l.length (fun j=>I2 (fun _ x=>!(p x)) l j) (fun j=>[(0,.sl 6 An l),(1,.clo (.func f) first cap),(7,Aa l.length),(8,Aa j)]) (fun _=>[]) [] (Bt _ _) ⟨⟨q_,q_,Ay _,hc,q_,q_,q_,q_,z_⟩,z_,q_,q_⟩ ?_
 intro j hj hI
 refine oO ?_
 refine⟨fun h=>?_,fun h=>?_⟩
 ·have h:=of_decide_eq_true h
  have hj2:j<l.length:=by omega
  refine oO ?_
  refine⟨q_,by omega,by omega,?_⟩
  conv=>whnf
  refine Iy (hf l[j] (List.getElem_mem hj2)) q_ q_ q_ (by simp only[hin];rfl) q_ q_ ?_
  refine oO ?_
  refine⟨fun h2=>?_,fun h2=>?_⟩
  ·refine oO ?_
   refine Aw q_ (.cons .tmp .nil) (congrArg Aa ?_) q_
   exact Di hj2 (fun i hi hij=>by simpa using hI i hi hij) h2
  ·refine oO ?_
   refine iW ?_
   exact Bi [] hI hj2 (Bm hI hj2 (by simp[h2])) ⟨⟨q_,q_,Ay _,hc,q_,q_,q_,q_,z_⟩,z_,q_,q_⟩
 ·have h:=of_decide_eq_false h
  refine oO ?_
  refine Aw q_ (.cons .tmp .nil) (congrArg Aa ?_) q_
  exact Hc (fun i hi=>by simpa using hI i hi j_)
theorem Wz (l:List Port) (p:Port→Bool) (f:FuncId) (first cap:List SV) (hc:(SV.clo (.func f) first cap).inn []=true) (hf:∀ x∈l,Hg Tryz.prog f (first++[Bd x]++cap) (Ab (p x))) (hl:Ax l) :
  Sy.Spec Tryz.prog 252 [.sl 7 Bd l,.clo (.func f) first cap] [] (Aa (B4 p l)) []:=cT F252 Tryz.ntmps252 fun F hF=>by
 unfold Ax at hl
 have hin:∀ x:Port,Bn [] (first++[Bd x]++cap)=true:=fun x=>Dd hc rfl
 conv=>whnf
 refine Bf l.length (fun j=>I2 (fun _ x=>!(p x)) l j) (fun j=>[(0,.sl 7 Bd l),(1,.clo (.func f) first cap),(7,Aa l.length),(8,Aa j)]) (fun _=>[]) [] (Bt _ _) ⟨⟨q_,q_,Ay _,hc,q_,q_,q_,q_,z_⟩,z_,q_,q_⟩ ?_
 intro j hj hI
 refine oO ?_
 refine⟨fun h=>?_,fun h=>?_⟩
 ·have h:=of_decide_eq_true h
  have hj2:j<l.length:=by omega
  refine oO ?_
  refine⟨q_,by omega,by omega,?_⟩
  conv=>whnf
  refine Iy (hf l[j] (List.getElem_mem hj2)) q_ q_ q_ (by simp only[hin];rfl) q_ q_ ?_
  refine oO ?_
  refine⟨fun h2=>?_,fun h2=>?_⟩
  ·refine oO ?_
   refine Aw q_ (.cons .tmp .nil) (congrArg Aa ?_) q_
   exact Di hj2 (fun i hi hij=>by simpa using hI i hi hij) h2
  ·refine oO ?_
   refine iW ?_
   exact Bi [] hI hj2 (Bm hI hj2 (by simp[h2])) ⟨⟨q_,q_,Ay _,hc,q_,q_,q_,q_,z_⟩,z_,q_,q_⟩
 ·have h:=of_decide_eq_false h
  refine oO ?_
  refine Aw q_ (.cons .tmp .nil) (congrArg Aa ?_) q_
  exact Hc (fun i hi=>by simpa using hI i hi j_)
theorem Amk (l:List Port) (p:Nat→Port→Bool) (f:FuncId) (first cap:List SV) (hc:(SV.clo (.func f) first cap).inn []=true) (hf:∀ i (h:i<l.length),Hg Tryz.prog f (first++[Aa i,Bd l[i]]++cap) (Ab (p i l[i]))) (hl:Ax l) :
  Sy.Spec Tryz.prog 143 [.sl 7 Bd l,.clo (.func f) first cap] [] (Ab (Hf p l)) []:=cT F143 Tryz.ntmps143 fun F hF=>by
 unfold Ax at hl
 have hin:∀ (i:Nat) (x:Port),Bn [] (first++[Aa i,Bd x]++cap)=true:=fun i x=>Dd hc rfl
 conv=>whnf
 refine Bf l.length (fun j=>I2 p l j) (fun j=>[(0,.sl 7 Bd l),(1,.clo (.func f) first cap),(7,.sl 7 Bd l),(8,Aa l.length),(9,Aa j)]) (fun _=>[]) [] (Bt _ _) ⟨⟨q_,q_,Ay _,hc,q_,q_,q_,q_,q_,q_,z_⟩,z_,q_,q_⟩ ?_
 intro j hj hI
 refine oO ?_
 refine⟨fun h=>?_,fun h=>?_⟩
 ·have h:=of_decide_eq_true h
  have hj2:j<l.length:=by omega
  refine oO ?_
  refine⟨q_,by omega,by omega,?_⟩
  conv=>whnf
  refine Iy (hf j hj2) q_ q_ q_ (by simp only[hin];rfl) q_ q_ ?_
  refine oO ?_
  refine⟨fun h2=>?_,fun h2=>?_⟩
  ·refine oO ?_
   refine Aw q_ (.cons .tmp .nil) (congrArg Ab ?_) q_
   exact Cn hj2 (by simpa using h2)
  ·refine oO ?_
   refine iW ?_
   exact Bi [] hI hj2 (Bm hI hj2 (by simpa using h2)) ⟨⟨q_,q_,Ay _,hc,q_,q_,q_,q_,q_,q_,z_⟩,z_,q_,q_⟩
 ·have h:=of_decide_eq_false h
  refine oO ?_
  refine Aw q_ (.cons .tmp .nil) (congrArg Ab ?_) q_
  exact Ej hI j_
theorem Aml (l:List Link) (p:Nat→Link→Bool) (f:FuncId) (first cap:List SV) (hc:(SV.clo (.func f) first cap).inn []=true) (hf:∀ i (h:i<l.length),Hg Tryz.prog f (first++[Aa i,Cm l[i]]++cap) (Ab (p i l[i]))) (hl:Ax l) :
  Sy.Spec Tryz.prog 145 [.sl 3 Cm l,.clo (.func f) first cap] [] (Ab (Hf p l)) []:=cT F145 Tryz.ntmps145 fun F hF=>by
 unfold Ax at hl
 have hin:∀ (i:Nat) (x:Link),Bn [] (first++[Aa i,Cm x]++cap)=true:=fun i x=>Dd hc rfl
 conv=>whnf
 refine Bf l.length (fun j=>I2 p l j) (fun j=>[(0,.sl 3 Cm l),(1,.clo (.func f) first cap),(7,.sl 3 Cm l),(8,Aa l.length),(9,Aa j)]) (fun _=>[]) [] (Bt _ _) ⟨⟨q_,q_,Ay _,hc,q_,q_,q_,q_,q_,q_,z_⟩,z_,q_,q_⟩ ?_
 intro j hj hI
 refine oO ?_
 refine⟨fun h=>?_,fun h=>?_⟩
 ·have h:=of_decide_eq_true h
  have hj2:j<l.length:=by omega
  refine oO ?_
  refine⟨q_,by omega,by omega,?_⟩
  conv=>whnf
  refine Iy (hf j hj2) q_ q_ q_ (by simp only[hin];rfl) q_ q_ ?_
  refine oO ?_
  refine⟨fun h2=>?_,fun h2=>?_⟩
  ·refine oO ?_
   refine Aw q_ (.cons .tmp .nil) (congrArg Ab ?_) q_
   exact Cn hj2 (by simpa using h2)
  ·refine oO ?_
   refine iW ?_
   exact Bi [] hI hj2 (Bm hI hj2 (by simpa using h2)) ⟨⟨q_,q_,Ay _,hc,q_,q_,q_,q_,q_,q_,z_⟩,z_,q_,q_⟩
 ·have h:=of_decide_eq_false h
  refine oO ?_
  refine Aw q_ (.cons .tmp .nil) (congrArg Ab ?_) q_
  exact Ej hI j_
theorem Wl (l:List Domain) (p:Nat→Domain→Bool) (f:FuncId) (first cap:List SV) (hc:(SV.clo (.func f) first cap).inn []=true) (hf:∀ i (h:i<l.length),Hg Tryz.prog f (first++[Aa i,An l[i]]++cap) (Ab (p i l[i]))) (hl:Ax l) :
  Sy.Spec Tryz.prog 140 [.sl 6 An l,.clo (.func f) first cap] [] (Ab (Hf p l)) []:=cT F140 Tryz.ntmps140 fun F hF=>by
 unfold Ax at hl
 have hin:∀ (i:Nat) (x:Domain),Bn [] (first++[Aa i,An x]++cap)=true:=fun i x=>Dd hc rfl
 conv=>whnf
 refine Bf l.length (fun j=>I2 p l j) (fun j=>[(0,.sl 6 An l),(1,.clo (.func f) first cap),(7,.sl 6 An l),(8,Aa l.length),(9,Aa j)]) (fun _=>[]) [] (Bt _ _) ⟨⟨q_,q_,Ay _,hc,q_,q_,q_,q_,q_,q_,z_⟩,z_,q_,q_⟩ ?_
 intro j hj hI
 refine oO ?_
 refine⟨fun h=>?_,fun h=>?_⟩
 ·have h:=of_decide_eq_true h
  have hj2:j<l.length:=by omega
  refine oO ?_
  refine⟨q_,by omega,by omega,?_⟩
  conv=>whnf
  refine Iy (hf j hj2) q_ q_ q_ (by simp only[hin];rfl) q_ q_ ?_
  refine oO ?_
  refine⟨fun h2=>?_,fun h2=>?_⟩
  ·refine oO ?_
   refine Aw q_ (.cons .tmp .nil) (congrArg Ab ?_) q_
   exact Cn hj2 (by simpa using h2)
  ·refine oO ?_
   refine iW ?_
   exact Bi [] hI hj2 (Bm hI hj2 (by simpa using h2)) ⟨⟨q_,q_,Ay _,hc,q_,q_,q_,q_,q_,q_,z_⟩,z_,q_,q_⟩
 ·have h:=of_decide_eq_false h
  refine oO ?_
  refine Aw q_ (.cons .tmp .nil) (congrArg Ab ?_) q_
  exact Ej hI j_
theorem Age (l:List Static) (p:Nat→Static→Bool) (f:FuncId) (first cap:List SV) (hc:(SV.clo (.func f) first cap).inn []=true) (hf:∀ i (h:i<l.length),Hg Tryz.prog f (first++[Aa i,Bb l[i]]++cap) (Ab (p i l[i]))) (hl:Ax l) :
  Sy.Spec Tryz.prog 147 [.sl 4 Bb l,.clo (.func f) first cap] [] (Ab (Hf p l)) []:=cT F147 Tryz.ntmps147 fun F hF=>by
 unfold Ax at hl
 have hin:∀ (i:Nat) (x:Static),Bn [] (first++[Aa i,Bb x]++cap)=true:=fun i x=>Dd hc rfl
 conv=>whnf
 refine Bf l.length (fun j=>I2 p l j) (fun j=>[(0,.sl 4 Bb l),(1,.clo (.func f) first cap),(7,.sl 4 Bb l),(8,Aa l.length),(9,Aa j)]) (fun _=>[]) [] (Bt _ _) ⟨⟨q_,q_,Ay _,hc,q_,q_,q_,q_,q_,q_,z_⟩,z_,q_,q_⟩ ?_
 intro j hj hI
 refine oO ?_
 refine⟨fun h=>?_,fun h=>?_⟩
 ·have h:=of_decide_eq_true h
  have hj2:j<l.length:=by omega
  refine oO ?_
  refine⟨q_,by omega,by omega,?_⟩
  conv=>whnf
  refine Iy (hf j hj2) q_ q_ q_ (by simp only[hin];rfl) q_ q_ ?_
  refine oO ?_
  refine⟨fun h2=>?_,fun h2=>?_⟩
  ·refine oO ?_
   refine Aw q_ (.cons .tmp .nil) (congrArg Ab ?_) q_
   exact Cn hj2 (by simpa using h2)
  ·refine oO ?_
   refine iW ?_
   exact Bi [] hI hj2 (Bm hI hj2 (by simpa using h2)) ⟨⟨q_,q_,Ay _,hc,q_,q_,q_,q_,q_,q_,z_⟩,z_,q_,q_⟩
 ·have h:=of_decide_eq_false h
  refine oO ?_
  refine Aw q_ (.cons .tmp .nil) (congrArg Ab ?_) q_
  exact Ej hI j_
theorem Ai8 (l:List Flood) (p:Nat→Flood→Bool) (f:FuncId) (first cap:List SV) (hc:(SV.clo (.func f) first cap).inn []=true) (hf:∀ i (h:i<l.length),Hg Tryz.prog f (first++[Aa i,Be l[i]]++cap) (Ab (p i l[i]))) (hl:Ax l) :
  Sy.Spec Tryz.prog 149 [.sl 4 Be l,.clo (.func f) first cap] [] (Ab (Hf p l)) []:=cT F149 Tryz.ntmps149 fun F hF=>by
 unfold Ax at hl
 have hin:∀ (i:Nat) (x:Flood),Bn [] (first++[Aa i,Be x]++cap)=true:=fun i x=>Dd hc rfl
 conv=>whnf
 refine Bf l.length (fun j=>I2 p l j) (fun j=>[(0,.sl 4 Be l),(1,.clo (.func f) first cap),(7,.sl 4 Be l),(8,Aa l.length),(9,Aa j)]) (fun _=>[]) [] (Bt _ _) ⟨⟨q_,q_,Ay _,hc,q_,q_,q_,q_,q_,q_,z_⟩,z_,q_,q_⟩ ?_
 intro j hj hI
 refine oO ?_
 refine⟨fun h=>?_,fun h=>?_⟩
 ·have h:=of_decide_eq_true h
  have hj2:j<l.length:=by omega
  refine oO ?_
  refine⟨q_,by omega,by omega,?_⟩
  conv=>whnf
  refine Iy (hf j hj2) q_ q_ q_ (by simp only[hin];rfl) q_ q_ ?_
  refine oO ?_
  refine⟨fun h2=>?_,fun h2=>?_⟩
  ·refine oO ?_
   refine Aw q_ (.cons .tmp .nil) (congrArg Ab ?_) q_
   exact Cn hj2 (by simpa using h2)
  ·refine oO ?_
   refine iW ?_
   exact Bi [] hI hj2 (Bm hI hj2 (by simpa using h2)) ⟨⟨q_,q_,Ay _,hc,q_,q_,q_,q_,q_,q_,z_⟩,z_,q_,q_⟩
 ·have h:=of_decide_eq_false h
  refine oO ?_
  refine Aw q_ (.cons .tmp .nil) (congrArg Ab ?_) q_
  exact Ej hI j_
theorem Apq (l:List Vrf) (p:Nat→Vrf→Bool) (f:FuncId) (first cap:List SV) (hc:(SV.clo (.func f) first cap).inn []=true) (hf:∀ i (h:i<l.length),Hg Tryz.prog f (first++[Aa i,Ct l[i]]++cap) (Ab (p i l[i]))) (hl:Ax l) :
  Sy.Spec Tryz.prog 152 [.sl 5 Ct l,.clo (.func f) first cap] [] (Ab (Hf p l)) []:=cT F152 Tryz.ntmps152 fun F hF=>by
 unfold Ax at hl
 have hin:∀ (i:Nat) (x:Vrf),Bn [] (first++[Aa i,Ct x]++cap)=true:=fun i x=>Dd hc rfl
 conv=>whnf
 refine Bf l.length (fun j=>I2 p l j) (fun j=>[(0,.sl 5 Ct l),(1,.clo (.func f) first cap),(7,.sl 5 Ct l),(8,Aa l.length),(9,Aa j)]) (fun _=>[]) [] (Bt _ _) ⟨⟨q_,q_,Ay _,hc,q_,q_,q_,q_,q_,q_,z_⟩,z_,q_,q_⟩ ?_
 intro j hj hI
 refine oO ?_
 refine⟨fun h=>?_,fun h=>?_⟩
 ·have h:=of_decide_eq_true h
  have hj2:j<l.length:=by omega
  refine oO ?_
  refine⟨q_,by omega,by omega,?_⟩
  conv=>whnf
  refine Iy (hf j hj2) q_ q_ q_ (by simp only[hin];rfl) q_ q_ ?_
  refine oO ?_
  refine⟨fun h2=>?_,fun h2=>?_⟩
  ·refine oO ?_
   refine Aw q_ (.cons .tmp .nil) (congrArg Ab ?_) q_
   exact Cn hj2 (by simpa using h2)
  ·refine oO ?_
   refine iW ?_
   exact Bi [] hI hj2 (Bm hI hj2 (by simpa using h2)) ⟨⟨q_,q_,Ay _,hc,q_,q_,q_,q_,q_,q_,z_⟩,z_,q_,q_⟩
 ·have h:=of_decide_eq_false h
  refine oO ?_
  refine Aw q_ (.cons .tmp .nil) (congrArg Ab ?_) q_
  exact Ej hI j_
theorem Apr (l:List Irb) (p:Nat→Irb→Bool) (f:FuncId) (first cap:List SV) (hc:(SV.clo (.func f) first cap).inn []=true) (hf:∀ i (h:i<l.length),Hg Tryz.prog f (first++[Aa i,Cr l[i]]++cap) (Ab (p i l[i]))) (hl:Ax l) :
  Sy.Spec Tryz.prog 155 [.sl 5 Cr l,.clo (.func f) first cap] [] (Ab (Hf p l)) []:=cT F155 Tryz.ntmps155 fun F hF=>by
 unfold Ax at hl
 have hin:∀ (i:Nat) (x:Irb),Bn [] (first++[Aa i,Cr x]++cap)=true:=fun i x=>Dd hc rfl
 conv=>whnf
 refine Bf l.length (fun j=>I2 p l j) (fun j=>[(0,.sl 5 Cr l),(1,.clo (.func f) first cap),(7,.sl 5 Cr l),(8,Aa l.length),(9,Aa j)]) (fun _=>[]) [] (Bt _ _) ⟨⟨q_,q_,Ay _,hc,q_,q_,q_,q_,q_,q_,z_⟩,z_,q_,q_⟩ ?_
 intro j hj hI
 refine oO ?_
 refine⟨fun h=>?_,fun h=>?_⟩
 ·have h:=of_decide_eq_true h
  have hj2:j<l.length:=by omega
  refine oO ?_
  refine⟨q_,by omega,by omega,?_⟩
  conv=>whnf
  refine Iy (hf j hj2) q_ q_ q_ (by simp only[hin];rfl) q_ q_ ?_
  refine oO ?_
  refine⟨fun h2=>?_,fun h2=>?_⟩
  ·refine oO ?_
   refine Aw q_ (.cons .tmp .nil) (congrArg Ab ?_) q_
   exact Cn hj2 (by simpa using h2)
  ·refine oO ?_
   refine iW ?_
   exact Bi [] hI hj2 (Bm hI hj2 (by simpa using h2)) ⟨⟨q_,q_,Ay _,hc,q_,q_,q_,q_,q_,q_,z_⟩,z_,q_,q_⟩
 ·have h:=of_decide_eq_false h
  refine oO ?_
  refine Aw q_ (.cons .tmp .nil) (congrArg Ab ?_) q_
  exact Ej hI j_
theorem App (l:List Int) (p:Nat→Int→Bool) (f:FuncId) (first cap:List SV) (hc:(SV.clo (.func f) first cap).inn []=true) (hf:∀ i (h:i<l.length),Hg Tryz.prog f (first++[Aa i,Aa l[i]]++cap) (Ab (p i l[i]))) (hl:Ax l) :
  Sy.Spec Tryz.prog 219 [.sl 1 Aa l,.clo (.func f) first cap] [] (Ab (Hf p l)) []:=cT F219 Tryz.ntmps219 fun F hF=>by
 unfold Ax at hl
 have hin:∀ (i:Nat) (x:Int),Bn [] (first++[Aa i,Aa x]++cap)=true:=fun i x=>Dd hc rfl
 conv=>whnf
 refine Bf l.length (fun j=>I2 p l j) (fun j=>[(0,.sl 1 Aa l),(1,.clo (.func f) first cap),(7,.sl 1 Aa l),(8,Aa l.length),(9,Aa j)]) (fun _=>[]) [] (Bt _ _) ⟨⟨q_,q_,Ay _,hc,q_,q_,q_,q_,q_,q_,z_⟩,z_,q_,q_⟩ ?_
 intro j hj hI
 refine oO ?_
 refine⟨fun h=>?_,fun h=>?_⟩
 ·have h:=of_decide_eq_true h
  have hj2:j<l.length:=by omega
  refine oO ?_
  refine⟨q_,by omega,by omega,?_⟩
  conv=>whnf
  refine Iy (hf j hj2) q_ q_ q_ (by simp only[hin];rfl) q_ q_ ?_
  refine oO ?_
  refine⟨fun h2=>?_,fun h2=>?_⟩
  ·refine oO ?_
   refine Aw q_ (.cons .tmp .nil) (congrArg Ab ?_) q_
   exact Cn hj2 (by simpa using h2)
  ·refine oO ?_
   refine iW ?_
   exact Bi [] hI hj2 (Bm hI hj2 (by simpa using h2)) ⟨⟨q_,q_,Ay _,hc,q_,q_,q_,q_,q_,q_,z_⟩,z_,q_,q_⟩
 ·have h:=of_decide_eq_false h
  refine oO ?_
  refine Aw q_ (.cons .tmp .nil) (congrArg Ab ?_) q_
  exact Ej hI j_
structure Net.Fin (n:Net):Prop where
 devices:Ax n.devices
 ports:Ax n.ports
 links:Ax n.links
 domains:Ax n.domains
 statics:Ax n.statics
 floods:Ax n.floods
 vrfs:Ax n.vrfs
 irbs:Ax n.irbs
 tagged:∀ p∈n.ports,Ax p.tagged
 peers:∀ d∈n.domains,Ax d.peers
 addrs:∀ f∈n.floods,Ax f.addrs
 imports:∀ v∈n.vrfs,Ax v.imports
 exports:∀ v∈n.vrfs,Ax v.exports
def Bj (n:Net) (dev vlan:Int):Int:=B4 (fun d=>d.dev == dev && d.vlan == vlan) n.domains
theorem Aqw (dev vlan:Int) (d:Domain):Sy.Spec Tryz.prog 254 [An d,.ref 1 (Aa dev) 0,.ref 1 (Aa vlan) 0] [] (Ab (d.dev == dev && d.vlan == vlan)) []:=cT F254 Tryz.ntmps254 fun F hF=>by
 conv=>whnf
 (repeat' (first | (refine⟨fun h=>?_,fun h=>?_⟩<;>(repeat (first | simp only[beq_iff_eq]at h | simp only[beq_eq_false_iff_ne]at h))<;>((refine oO ?_))) | (refine Aw rfl (.cons .tmp .nil) ?_ rfl)))
 all_goals (refine congrArg Ab ?_)
 all_goals simp_all
theorem L7 (n:Net) (dev vlan:Int) (hl:Ax n.domains):Sy.Spec Tryz.prog 218 [Av n,Aa dev,Aa vlan] [] (Aa (Bj n dev vlan)) []:=cT F218 Tryz.ntmps218 fun F hF=>by
 conv=>whnf
 refine B1 4 1 (Aa dev) q_ q_ q_ ?_
 refine B1 5 1 (Aa vlan) q_ q_ q_ ?_
 refine c0 (Ez n.domains (fun d=>d.dev == dev && d.vlan == vlan) 254 [] [.ref 1 (Aa dev) 0,.ref 1 (Aa vlan) 0] q_ (fun d _=>⟨⟨_,_,F254⟩,Aqw dev vlan d⟩) hl) F167 ?_
 refine oO ?_
 exact dN
def Afy (n:Net):Bool:=decide (n.devices.length≤8) && decide (n.ports.length≤40) && decide (n.links.length≤20) && decide (n.domains.length≤48) && decide (n.statics.length≤64) && decide (n.floods.length≤48) && decide (n.vrfs.length≤16) && decide (n.irbs.length≤48)
theorem fewS (n:Net):Sy.Spec Tryz.prog 139 [Av n] [] (Ab (Afy n)) []:=cT F139 Tryz.ntmps139 fun F hF=>by
 conv=>whnf
 (repeat' (first | (refine⟨fun h=>?_,fun h=>?_⟩<;>(repeat (first | simp only[decide_eq_true_eq]at h | simp only[decide_eq_false_iff_not]at h))<;>((refine oO ?_);repeat((refine aF ?_);(refine oO ?_)))) | (refine Aw rfl (.cons .tmp .nil) ?_ rfl)))
 all_goals (refine congrArg Ab ?_)
 all_goals (unfold Afy;rw[Bool.eq_iff_iff];simp;omega)
def Ur (n:Net) (i:Nat) (d:Domain):Bool :=
 Af d.dev n.devices.length && decide (1≤d.vlan) && decide (d.vlan≤4094) && decide (0≤d.vni) && decide (d.vni≤16777215) && (d.irb == -1 || Af d.irb n.irbs.length && (nth n.irbs d.irb).domain == i) && Bj n d.dev d.vlan == i
theorem bareS (n:Net) (i:Nat) (d:Domain) (hl:Ax n.domains):Sy.Spec Tryz.prog 141 [Av n,Aa i,An d] [] (Ab (Ur n i d)) []:=cT F141 Tryz.ntmps141 fun F hF=>by
 conv=>whnf
 (repeat' (first | (refine⟨fun h=>?_,fun h=>?_⟩<;>(repeat (first | simp only[Af]at h | simp only[decide_eq_true_eq]at h | simp only[decide_eq_false_iff_not]at h | simp only[beq_iff_eq]at h | simp only[beq_eq_false_iff_ne]at h | simp only[Bool.and_eq_true]at h | simp only[Bool.and_eq_false_iff]at h))<;>((refine oO ?_);repeat((first|refine aF ?_|refine aT ?_);(refine oO ?_)))) | (refine Aw rfl (.cons .tmp .nil) ?_ rfl) | (refine⟨y_,?_⟩;((conv=>whnf))) | (refine⟨by (omega),by (omega),?_⟩;((conv=>whnf))) | (refine c0 (Hq 5 A2 n.devices d.dev) F151 ?_;((refine oO ?_))) | (refine c0 (Ah2 5 Cr n.irbs d.irb) F217 ?_;((refine oO ?_))) | (refine c0 (L7 n d.dev d.vlan hl) F218 ?_;((refine oO ?_)))))
 all_goals (refine congrArg Ab ?_)
 all_goals (clear hF;grind [Ur,Af,A1])
def Jf (n:Net) (d:Domain):Bool:=(nth n.devices d.dev).vtep != 0
theorem Ard (n:Net) (d:Domain) (hd:Af d.dev n.devices.length=true):Sy.Spec Tryz.prog 255 [Av n,An d] [] (Ab (Jf n d)) []:=cT F255 Tryz.ntmps255 fun F hF=>by
 simp only[Af,Bool.and_eq_true,decide_eq_true_eq]at hd
 conv=>whnf
 (repeat' (first | (refine Aw rfl (.cons .tmp .nil) ?_ rfl) | (refine⟨y_,?_⟩;((conv=>whnf))) | (refine⟨by (omega),by (omega),?_⟩;((conv=>whnf)))))
 all_goals (refine congrArg Ab ?_)
 all_goals (clear hF;grind [Jf,A1])
def Qv (n:Net) (i:Nat) (d:Domain) (k:Int):Bool :=
 Af k n.domains.length && k != i && Af (nth n.domains k).dev n.devices.length && (nth n.domains k).dev != d.dev && (nth n.domains k).vni == d.vni && d.vni != 0 && Jf n (nth n.domains k) && Jf n d && inB (nth n.domains k).peers i
theorem peerS (n:Net) (i:Nat) (d:Domain) (k:Int) (hn:n.Fin) (hd:Af d.dev n.devices.length=true):Sy.Spec Tryz.prog 221 [Av n,Aa i,An d,Aa k] [] (Ab (Qv n i d k)) []:=cT F221 Tryz.ntmps221 fun F hF=>by
 conv=>whnf
 (repeat' (first | (refine⟨fun h=>?_,fun h=>?_⟩<;>(repeat (first | simp only[Af]at h | simp only[decide_eq_true_eq]at h | simp only[decide_eq_false_iff_not]at h | simp only[beq_iff_eq]at h | simp only[beq_eq_false_iff_ne]at h | simp only[bne_iff_ne]at h | simp only[bne_eq_false_iff_eq]at h | simp only[Bool.and_eq_true]at h | simp only[Bool.and_eq_false_iff]at h | simp only[Bool.not_eq_true']at h | simp only[Bool.not_eq_false']at h))<;>((refine oO ?_);repeat((first|refine aF ?_|refine aT ?_);(refine oO ?_)))) | (refine Aw rfl (.cons .tmp .nil) ?_ rfl) | (refine⟨y_,?_⟩;((conv=>whnf))) | (refine⟨by (omega),by (omega),?_⟩;((conv=>whnf))) | (refine c0 (K9 6 An n.domains k) F225 ?_;((refine oO ?_))) | (refine c0 (Hq 5 A2 n.devices (n.domains[k.toNat]'j_).dev) F151 ?_;((refine oO ?_))) | (refine c0 (Ard n (n.domains[k.toNat]'j_) (by simp only[Af,Bool.and_eq_true,decide_eq_true_eq];omega)) F255 ?_;((refine oO ?_))) | (refine c0 (Ard n d hd) F255 ?_;((refine oO ?_))) | (refine c0 (Lp (n.domains[k.toNat]'j_).peers i (hn.peers _ (List.getElem_mem _))) F179 ?_;((refine oO ?_)))))
 all_goals (refine congrArg Ab ?_;clear hF;grind [Qv,Af,A1])
def Kn (n:Net) (i:Nat) (d:Domain):Bool:=Hf (fun at_ k=>Qv n i d k && B4 (· == k) d.peers == at_) d.peers
theorem peers1 (n:Net) (i:Nat) (d:Domain) (at_:Nat) (k:Int) (hn:n.Fin) (hp:Ax d.peers) (hd:Af d.dev n.devices.length=true) :
  Sy.Spec Tryz.prog 220 [Aa at_,Aa k,.ref 8 (Av n) 0,.ref 1 (Aa i) 0,.ref 6 (An d) 0] [] (Ab (Qv n i d k && B4 (· == k) d.peers == at_)) []:=cT F220 Tryz.ntmps220 fun F hF=>by
 conv=>whnf
 (repeat' (first | (refine⟨fun h=>?_,fun h=>?_⟩<;>((refine oO ?_))) | (refine Aw rfl (.cons .tmp .nil) ?_ rfl) | (refine c0 (peerS n i d k hn hd) F221 ?_;((refine oO ?_))) | (refine c0 (Aow d.peers k hp) F222 ?_;((refine oO ?_)))))
 all_goals (refine congrArg Ab ?_;clear hF;grind)
theorem peersS (n:Net) (i:Nat) (d:Domain) (hn:n.Fin) (hp:Ax d.peers) (hd:Af d.dev n.devices.length=true):Sy.Spec Tryz.prog 142 [Av n,Aa i,An d] [] (Ab (Kn n i d)) []:=cT F142 Tryz.ntmps142 fun F hF=>by
 conv=>whnf
 refine B1 3 8 (Av n) q_ q_ q_ ?_
 refine B1 4 1 (Aa i) q_ q_ q_ ?_
 refine B1 5 6 (An d) q_ q_ q_ ?_
 refine c0 (App d.peers (fun at_ k=>Qv n i d k && B4 (· == k) d.peers == at_) 220 [] [.ref 8 (Av n) 0,.ref 1 (Aa i) 0,.ref 6 (An d) 0] q_ (fun a ha=>⟨⟨_,_,F220⟩,peers1 n i d a d.peers[a] hn hp hd⟩) hp) F219 ?_
 refine oO ?_
 exact dN
def D5 (n:Net) (dev vlan:Int):Bool:=decide (0≤Bj n dev vlan)
def Lk (n:Net) (i:Nat) (p:Port):Bool :=
 Af p.dev n.devices.length && decide (0≤p.native) && decide (p.native≤4094) && (decide (p.tagged.length=0) || Ht p.tagged 1 4094) && !inB p.tagged p.native && !(p.native == 0 && decide (p.tagged.length=0)) &&
  Hf (fun _ v=>D5 n p.dev v) p.tagged && !(decide (0<p.native) && !D5 n p.dev p.native) &&
  (p.link == -1 || Af p.link n.links.length && ((nth n.links p.link).a == i || (nth n.links p.link).b == i))
theorem Aim (n:Net) (i:Nat) (p:Port) (hn:n.Fin) (hp:Ax p.tagged):Sy.Spec Tryz.prog 144 [Av n,Aa i,Bd p] [] (Ab (Lk n i p)) []:=cT F144 Tryz.ntmps144 fun F hF=>by
 conv=>whnf
 (repeat' (first | (refine⟨fun h=>?_,fun h=>?_⟩<;>(repeat (first | simp only[Af]at h | simp only[decide_eq_true_eq]at h | simp only[decide_eq_false_iff_not]at h | simp only[beq_iff_eq]at h | simp only[beq_eq_false_iff_ne]at h | simp only[Bool.and_eq_true]at h | simp only[Bool.or_eq_true]at h | simp only[Bool.and_eq_false_iff]at h | simp only[Bool.or_eq_false_iff]at h | simp only[Bool.not_eq_true']at h | simp only[Bool.not_eq_false']at h))<;>((refine oO ?_);repeat((first|refine aF ?_|refine aT ?_);(refine oO ?_)))) | (refine Aw rfl (.cons .tmp .nil) ?_ rfl) | (refine c0 (Hq 5 A2 n.devices p.dev) F151 ?_;((refine oO ?_))) | (refine c0 (Abp p.tagged 4094 hp) F154 ?_;((refine oO ?_))) | (refine c0 (Lp p.tagged p.native hp) F179 ?_;((refine oO ?_)))))
 all_goals first | (refine congrArg Ab ?_;clear hF;grind [Lk,Af]) | skip
 all_goals (
  refine B1 3 8 (Av n) q_ q_ q_ ?_
  refine B1 5 7 (Bd p) q_ q_ q_ ?_
  refine Bf p.tagged.length (fun j=>I2 (fun _ v=>D5 n p.dev v) p.tagged j) (fun j=>[(1,Aa i),(3,.ref 8 (Av n) 0),(5,.ref 7 (Bd p) 0),(51,.sl 1 Aa p.tagged),(52,Aa p.tagged.length),(53,Aa j)]) (fun _=>[]) [] (Bt _ _) ⟨⟨q_,q_,q_,q_,q_,q_,q_,q_,q_,q_,q_,q_,z_⟩,z_,q_,q_⟩ ?_
  intro j hj hI
  have hsh:=hp
  unfold Ax at hsh
  ((first|refine rG Γ hm ?_|refine rD Γ hm y_ ?_);(conv=>whnf);repeat((first|refine aF ?_|refine aT ?_);(first|refine rG Γ hm ?_|refine rD Γ hm y_ ?_);conv=>whnf)))
 all_goals (
  (repeat' (first | (refine⟨fun h=>?_,fun h=>?_⟩<;>(repeat (first | simp only[Af]at h | simp only[decide_eq_true_eq]at h | simp only[decide_eq_false_iff_not]at h | simp only[beq_iff_eq]at h | simp only[beq_eq_false_iff_ne]at h | simp only[Bool.and_eq_true]at h | simp only[Bool.and_eq_false_iff]at h))<;>((refine oO ?_);repeat((refine aF ?_);(refine oO ?_)))) | (refine Aw rfl (.cons .tmp .nil) ?_ rfl) | (refine⟨y_,?_⟩;((conv=>whnf))) | (refine⟨by (omega),by (omega),?_⟩;((conv=>whnf))) | (refine⟨by (unfold I64;omega),?_⟩;((conv=>whnf))) | (refine c0 (L7 n p.dev (p.tagged[j]'j_) hn.domains) F218 ?_;((refine oO ?_))) | (refine c0 (L7 n p.dev p.native hn.domains) F218 ?_;((refine oO ?_))) | (refine c0 (Aem 3 Cm n.links p.link) F223 ?_;((refine oO ?_))) | refine Bi [] hI j_ ?_ ⟨⟨rfl,rfl,rfl,rfl,rfl,rfl,rfl,rfl,rfl,rfl,rfl,rfl,trivial⟩,trivial,rfl,rfl⟩)))
 all_goals first
  | exact Bm hI j_ (by simp only[D5,decide_eq_true_eq];omega)
  | (refine congrArg Ab ?_
     have h0:Hf (fun _ v=>D5 n p.dev v) p.tagged=false:=Cn (i:=j) j_ (by simp only[D5,decide_eq_false_iff_not];omega)
     clear hF hI;grind [Lk])
  | (refine congrArg Ab ?_
     have h0:Hf (fun _ v=>D5 n p.dev v) p.tagged=true:=Ej hI j_
     clear hF hI;grind [Lk,Af,D5,A1])
def V9 (n:Net) (i:Nat) (l:Link):Bool :=
 Af l.a n.ports.length && Af l.b n.ports.length && (nth n.ports l.a).dev != (nth n.ports l.b).dev && (nth n.ports l.a).link == i && (nth n.ports l.b).link == i
theorem Ain (n:Net) (i:Nat) (l:Link):Sy.Spec Tryz.prog 146 [Av n,Aa i,Cm l] [] (Ab (V9 n i l)) []:=cT F146 Tryz.ntmps146 fun F hF=>by
 conv=>whnf
 (repeat' (first | (refine⟨fun h=>?_,fun h=>?_⟩<;>(repeat (first | simp only[Af]at h | simp only[decide_eq_true_eq]at h | simp only[decide_eq_false_iff_not]at h | simp only[beq_iff_eq]at h | simp only[beq_eq_false_iff_ne]at h | simp only[bne_iff_ne]at h | simp only[bne_eq_false_iff_eq]at h | simp only[Bool.and_eq_true]at h | simp only[Bool.and_eq_false_iff]at h | simp only[Bool.not_eq_true']at h | simp only[Bool.not_eq_false']at h))<;>((refine oO ?_);repeat((first|refine aF ?_|refine aT ?_);(refine oO ?_)))) | (refine Aw rfl (.cons .tmp .nil) ?_ rfl) | (refine⟨y_,?_⟩;((conv=>whnf))) | (refine⟨by (omega),by (omega),?_⟩;((conv=>whnf))) | (refine c0 (M5 7 Bd n.ports l.a) F224 ?_;((refine oO ?_))) | (refine c0 (M5 7 Bd n.ports l.b) F224 ?_;((refine oO ?_)))))
 all_goals (refine congrArg Ab ?_;clear hF;grind [V9,Af,A1])
def K0 (n:Net) (s:Static):Bool :=
 Af s.domain n.domains.length && Af s.port n.ports.length && (nth n.ports s.port).dev == (nth n.domains s.domain).dev && Ck (nth n.ports s.port) (nth n.domains s.domain).vlan
theorem Acv (n:Net) (i:Nat) (s:Static) (hn:n.Fin):Sy.Spec Tryz.prog 148 [Av n,Aa i,Bb s] [] (Ab (K0 n s)) []:=cT F148 Tryz.ntmps148 fun F hF=>by
 conv=>whnf
 (repeat' (first | (refine⟨fun h=>?_,fun h=>?_⟩<;>(repeat (first | simp only[Af]at h | simp only[decide_eq_true_eq]at h | simp only[decide_eq_false_iff_not]at h | simp only[beq_iff_eq]at h | simp only[beq_eq_false_iff_ne]at h | simp only[Bool.and_eq_true]at h | simp only[Bool.and_eq_false_iff]at h | simp only[Bool.not_eq_true']at h | simp only[Bool.not_eq_false']at h))<;>((refine oO ?_);repeat((refine aT ?_);(refine oO ?_)))) | (refine Aw rfl (.cons .tmp .nil) ?_ rfl) | (refine⟨y_,?_⟩;((conv=>whnf))) | (refine⟨by (omega),by (omega),?_⟩;((conv=>whnf))) | (refine c0 (K9 6 An n.domains s.domain) F225 ?_;((refine oO ?_))) | (refine c0 (M5 7 Bd n.ports s.port) F224 ?_;((refine oO ?_))) | (refine c0 (Acn (n.ports[s.port.toNat]'j_) (n.domains[s.domain.toNat]'j_).vlan (hn.tagged _ (List.getElem_mem _))) F130 ?_;((refine oO ?_)))))
 all_goals (refine congrArg Ab ?_;clear hF;grind [K0,Af,A1])
def Zy (n:Net) (i:Nat) (x:Irb):Bool :=
 Af x.domain n.domains.length && Af x.vrf n.vrfs.length && (nth n.domains x.domain).dev == (nth n.vrfs x.vrf).dev && (nth n.domains x.domain).irb == i && decide (1≤x.bits) && decide (x.bits≤30)
theorem Al3 (n:Net) (i:Nat) (x:Irb):Sy.Spec Tryz.prog 156 [Av n,Aa i,Cr x] [] (Ab (Zy n i x)) []:=cT F156 Tryz.ntmps156 fun F hF=>by
 conv=>whnf
 (repeat' (first | (refine⟨fun h=>?_,fun h=>?_⟩<;>(repeat (first | simp only[Af]at h | simp only[decide_eq_true_eq]at h | simp only[decide_eq_false_iff_not]at h | simp only[beq_iff_eq]at h | simp only[beq_eq_false_iff_ne]at h | simp only[Bool.and_eq_true]at h | simp only[Bool.and_eq_false_iff]at h))<;>((refine rd y_ ?_);(conv=>whnf);repeat((refine aF ?_);(refine rd y_ ?_);(conv=>whnf)))) | (refine Aw rfl (.cons .tmp .nil) ?_ rfl) | (refine⟨y_,?_⟩;((conv=>whnf))) | (refine⟨by (omega),by (omega),?_⟩;((conv=>whnf))) | (refine cD (K9 6 An n.domains x.domain) F225 ?_;((refine rd y_ ?_);(conv=>whnf))) | (refine cD (Ah1 5 Ct n.vrfs x.vrf) F227 ?_;((refine rd y_ ?_);(conv=>whnf)))))
 all_goals (refine congrArg Ab ?_;clear hF;grind [Zy,Af,A1])
def Kt (n:Net) (f:Flood):Bool:=Af f.dev n.devices.length && decide (f.addrs.length≤16)
theorem right1 (n:Net) (i:Nat) (f:Flood):Sy.Spec Tryz.prog 150 [Aa i,Be f,.ref 8 (Av n) 0] [] (Ab (Kt n f)) []:=cT F150 Tryz.ntmps150 fun F hF=>by
 conv=>whnf
 (repeat' (first | (refine⟨fun h=>?_,fun h=>?_⟩<;>(repeat (first | simp only[Af]at h | simp only[decide_eq_true_eq]at h | simp only[decide_eq_false_iff_not]at h | simp only[Bool.and_eq_true]at h | simp only[Bool.and_eq_false_iff]at h))<;>((refine oO ?_))) | (refine Aw rfl (.cons .tmp .nil) ?_ rfl) | (refine c0 (Hq 5 A2 n.devices f.dev) F151 ?_;((refine oO ?_)))))
 all_goals (refine congrArg Ab ?_;clear hF;grind [Kt,Af])
def Qr (l:List Int) (most:Int):Bool:=decide (l.length=0) || Ht l 1 most
def Ado (n:Net) (v:Vrf):Bool:=Af v.dev n.devices.length && Qr v.imports 65535 && Qr v.exports 65535
theorem right2 (n:Net) (i:Nat) (v:Vrf) (h1:Ax v.imports) (h2:Ax v.exports):Sy.Spec Tryz.prog 153 [Aa i,Ct v,.ref 8 (Av n) 0] [] (Ab (Ado n v)) []:=cT F153 Tryz.ntmps153 fun F hF=>by
 conv=>whnf
 (repeat' (first | (refine⟨fun h=>?_,fun h=>?_⟩<;>(repeat (first | simp only[Af]at h | simp only[decide_eq_true_eq]at h | simp only[decide_eq_false_iff_not]at h | simp only[Bool.and_eq_true]at h | simp only[Bool.or_eq_true]at h | simp only[Bool.and_eq_false_iff]at h | simp only[Bool.or_eq_false_iff]at h))<;>((refine oO ?_);repeat((refine aF ?_);(refine oO ?_)))) | (refine Aw rfl (.cons .tmp .nil) ?_ rfl) | (refine c0 (Hq 5 A2 n.devices v.dev) F151 ?_;((refine oO ?_))) | (refine c0 (Abp v.imports 65535 h1) F154 ?_;((refine oO ?_))) | (refine c0 (Abp v.exports 65535 h2) F154 ?_;((refine oO ?_)))))
 all_goals (refine congrArg Ab ?_;clear hF;grind [Ado,Qr,Af])
def Ah (n:Net):Bool :=
 Afy n && Hf (Ur n) n.domains && Hf (Kn n) n.domains && Hf (Lk n) n.ports && Hf (V9 n) n.links && Hf (fun _=>K0 n) n.statics && Hf (fun _=>Kt n) n.floods && Hf (fun _=>Ado n) n.vrfs && Hf (Zy n) n.irbs
theorem Apn {n:Net} (h:Hf (Ur n) n.domains=true) {i:Nat} (hi:i<n.domains.length):Af n.domains[i].dev n.devices.length=true:=by
 have:=allB_iff.1 h i hi
 simp only[Ur,Bool.and_eq_true]at this
 exact this.1.1.1.1.1.1
theorem Cb (n:Net) (hn:n.Fin):Sy.Spec Tryz.prog 81 [Av n] [] (Ab (Ah n)) []:=cT F81 Tryz.ntmps81 fun F hF=>by
 conv=>whnf
 refine B1 1 8 (Av n) q_ q_ q_ ?_
 (repeat' (first | (refine⟨fun h=>?_,fun h=>?_⟩<;>((refine oO ?_);repeat((refine aF ?_);(refine oO ?_)))) | (refine Aw rfl (.cons .tmp .nil) ?_ rfl) | (refine c0 (fewS n) F139 ?_;((refine oO ?_))) | (refine c0 (Wl n.domains (Ur n) 141 [Av n] [] rfl (fun i h=>⟨⟨_,_,F141⟩,bareS n i n.domains[i] hn.domains⟩) hn.domains) F140 ?_;((refine oO ?_))) | (refine Mq (Wl n.domains (Kn n) 142 [Av n] [] rfl (fun i h=>⟨⟨_,_,F142⟩,peersS n i n.domains[i] hn (hn.peers _ (List.getElem_mem _)) (Apn ‹_› h)⟩) hn.domains) F140 rfl rfl rfl rfl rfl ?_;((refine oO ?_))) | (refine Mq (Amk n.ports (Lk n) 144 [Av n] [] rfl (fun i h=>⟨⟨_,_,F144⟩,Aim n i n.ports[i] hn (hn.tagged _ (List.getElem_mem _))⟩) hn.ports) F143 rfl rfl rfl rfl rfl ?_;((refine oO ?_))) | (refine c0 (Aml n.links (V9 n) 146 [Av n] [] rfl (fun i h=>⟨⟨_,_,F146⟩,Ain n i n.links[i]⟩) hn.links) F145 ?_;((refine oO ?_))) | (refine c0 (Age n.statics (fun _=>K0 n) 148 [Av n] [] rfl (fun i h=>⟨⟨_,_,F148⟩,Acv n i n.statics[i] hn⟩) hn.statics) F147 ?_;((refine oO ?_))) | (refine c0 (Ai8 n.floods (fun _=>Kt n) 150 [] [.ref 8 (Av n) 0] rfl (fun i h=>⟨⟨_,_,F150⟩,right1 n i n.floods[i]⟩) hn.floods) F149 ?_;((refine oO ?_))) | (refine Mq (Apq n.vrfs (fun _=>Ado n) 153 [] [.ref 8 (Av n) 0] rfl (fun i h=>⟨⟨_,_,F153⟩,right2 n i n.vrfs[i] (hn.imports _ (List.getElem_mem _)) (hn.exports _ (List.getElem_mem _))⟩) hn.vrfs) F152 rfl rfl rfl rfl rfl ?_;((refine oO ?_))) | (refine c0 (Apr n.irbs (Zy n) 156 [Av n] [] rfl (fun i h=>⟨⟨_,_,F156⟩,Al3 n i n.irbs[i]⟩) hn.irbs) F155 ?_;((refine oO ?_)))))
 all_goals (refine congrArg Ab ?_)
 all_goals (clear hF;simp_all[Ah])
theorem Aav (a:Int):Sy.Spec Tryz.prog 42 [Aa a] [] (Ab false) []:=cT F42 Tryz.ntmps42 fun F hF=>by
 conv=>whnf
 exact Aw q_ (.cons .tmp .nil) (congrArg Ab qe) q_
theorem Aau (a:Int):Sy.Spec Tryz.prog 93 [Dp a] [] (Ab false) []:=cT F93 Tryz.ntmps93 fun F hF=>by
 conv=>whnf
 exact Aw q_ (.cons .tmp .nil) (congrArg Ab qe) q_
def Ch (a b:Int):Int:=if a<b then -1 else if a>b then 1 else 0
theorem Ia (a b:Int):Sy.Spec Tryz.prog 25 [Aa a,Aa b] [] (Aa (Ch a b)) []:=cT F25 Tryz.ntmps25 fun F hF=>by
 conv=>whnf
 (repeat' (first | (refine⟨fun h=>?_,fun h=>?_⟩<;>(repeat (first | simp only[decide_eq_true_eq]at h | simp only[decide_eq_false_iff_not]at h))<;>((refine oO ?_))) | (refine Aw rfl (.cons .tmp .nil) ?_ rfl) | (refine c0 (Aav a) F42 ?_;((refine oO ?_))) | (refine c0 (Aav b) F42 ?_;((refine oO ?_);repeat((refine aF ?_);(refine oO ?_))))))
 all_goals (refine congrArg Aa ?_;clear hF;grind [Ch])
theorem Af6 (a b:Int):Sy.Spec Tryz.prog 44 [Dp a,Dp b] [] (Aa (Ch a b)) []:=cT F44 Tryz.ntmps44 fun F hF=>by
 conv=>whnf
 (repeat' (first | (refine⟨fun h=>?_,fun h=>?_⟩<;>(repeat (first | simp only[decide_eq_true_eq]at h | simp only[decide_eq_false_iff_not]at h))<;>((refine oO ?_))) | (refine Aw rfl (.cons .tmp .nil) ?_ rfl) | (refine c0 (Aau a) F93 ?_;((refine oO ?_))) | (refine c0 (Aau b) F93 ?_;((refine oO ?_);repeat((refine aF ?_);(refine oO ?_))))))
 all_goals (refine congrArg Aa ?_;clear hF;grind [Ch])
def orI:List Int→Int
 | []=>0
 | x::l=>if x=0 then orI l else x
theorem X5:∀ {l:List Int} {j:Nat},(∀ i (h:i<l.length),i<j→l[i]=0)→orI l=orI (l.drop j)
 | l,0,_=>rfl
 | [],j+1,_=>rfl
 | x::l,j+1,h=>by
  have h0:=h 0 qe j_
  simp only[List.getElem_cons_zero]at h0
  rw[orI,if_pos h0,List.drop_succ_cons]
  exact X5 fun i hi hij=>h (i+1) (by simp;omega) j_
theorem orS (l:List Int) (hl:Ax l):Sy.Spec Tryz.prog 24 [.sl 1 Aa l] [] (Aa (orI l)) []:=cT F24 Tryz.ntmps24 fun F hF=>by
 unfold Ax at hl
 conv=>whnf
 refine Bf l.length (fun j=>∀ i (h:i<l.length),i<j→l[i]=0) (fun j=>[(3,Aa 0),(6,.sl 1 Aa l),(7,Aa l.length),(8,Aa j)]) (fun _=>[]) [] (fun i h hj=>absurd hj j_) ⟨⟨q_,q_,q_,q_,q_,q_,q_,q_,z_⟩,z_,q_,q_⟩ ?_
 intro j hj hI
 refine oO ?_
 (repeat' (first | (refine⟨fun h=>?_,fun h=>?_⟩<;>(repeat (first | simp only[decide_eq_true_eq]at h | simp only[decide_eq_false_iff_not]at h | simp only[bne_iff_ne]at h | simp only[bne_eq_false_iff_eq]at h))<;>((refine oO ?_))) | (refine Aw rfl (.cons .tmp .nil) ?_ rfl) | (refine⟨y_,?_⟩;((conv=>whnf))) | (refine⟨by (omega),by (omega),?_⟩;((conv=>whnf))) | (refine⟨by (unfold I64;omega),?_⟩;((conv=>whnf))) | refine Bi [] hI j_ ?_ ⟨⟨rfl,rfl,rfl,rfl,rfl,rfl,rfl,rfl,trivial⟩,trivial,rfl,rfl⟩))
 all_goals try (refine congrArg Aa ?_)
 ·have hj2:j<l.length:=by omega
  rw[X5 hI,List.drop_eq_getElem_cons hj2,orI,if_neg (by simpa using h)]
  rfl
 ·intro i hi hij
  rcases Nat.lt_or_ge i j with h1 | h1
  ·exact hI i hi h1
  ·have:i=j:=by omega
   subst this
   simpa using h
 ·rw[X5 hI,List.drop_of_length_le j_]
  rfl
end Go.Sy.YtdkfcckkkfghgaaGreatDoor
namespace Go.Sy.YtdkfcckkkfghgaaGreatDoor
open Go.Proofs
structure LineM where
 row:Int
 kind:Int
 dev:ByteArray
 port:ByteArray
 peer:ByteArray
 far:ByteArray
 name:ByteArray
 mac:Int
 addr:Int
 bits:Int
 vlan:Int
 num:Int
 cost:Int
 tagged:List Int
 imports:List Int
 exports:List Int
 addrs:List Int
def Br (l:LineM):List SV:=[Aa l.row,Aa l.kind,Ae l.dev,Ae l.port,Ae l.peer,Ae l.far,Ae l.name,Dp l.mac,A7 l.addr,Aa l.bits,Aa l.vlan,Aa l.num,Aa l.cost,.sl 1 Aa l.tagged,.sl 1 Aa l.imports,.sl 1 Aa l.exports,.sl 1 A7 l.addrs]
def Ad (l:LineM):SV:=.agg [Aa l.row,Aa l.kind,Ae l.dev,Ae l.port,Ae l.peer,Ae l.far,Ae l.name,Dp l.mac,A7 l.addr,Aa l.bits,Aa l.vlan,Aa l.num,Aa l.cost,.sl 1 Aa l.tagged,.sl 1 Aa l.imports,.sl 1 Aa l.exports,.sl 1 A7 l.addrs]
theorem cmpI_ok:CmpOK Ch:=Aq0
theorem Vi {a b:Int} (h:Ch a b=0):a=b:=Amg h
def Vh (x y:UInt8):Int:=Ch (x.toNat:Int) (y.toNat:Int)
theorem cmpU_ok:CmpOK Vh:=cmpI_ok.comap (fun x:UInt8=>(x.toNat:Int))
theorem Aa9 {x y:UInt8} (h:Vh x y=0):x=y:=by
 have:=Vi h
 exact UInt8.toNat_inj.1 j_
def Lq (a b:ByteArray):Int:=Bg Vh a.data.toList b.data.toList
theorem cmpB_ok:CmpOK Lq:=cmpU_ok.list.comap (fun b:ByteArray=>b.data.toList)
theorem Amh {a b:ByteArray} (h:Lq a b=0):a=b:=by
 have:=S0 (fun x y=>Aa9) _ _ h
 obtain ⟨⟨a⟩⟩:=a
 obtain ⟨⟨b⟩⟩:=b
 simp at this
 rw[this]
theorem T4:∀ (a b:List UInt8),Op.bytesLess a b=decide (Bg Vh a b<0)
 | [],[]=>by simp[Op.bytesLess,Bg]
 | [],_::_=>by simp[Op.bytesLess,Bg]
 | _::_,[]=>by simp[Op.bytesLess,Bg]
 | x::a,y::b=>by
  rw[Op.bytesLess,Bg,T4 a b]
  unfold Kz Vh Ch
  have hx:=x.toNat_lt
  have hy:=y.toNat_lt
  by_cases h1:x<y
  ·have h2:(x.toNat:Int)<(y.toNat:Int):=by have:=UInt8.lt_iff_toNat_lt.1 h1;omega
   simp[h1,h2]
  ·have h2:¬ (x.toNat:Int)<(y.toNat:Int):=fun h=>h1 (UInt8.lt_iff_toNat_lt.2 j_)
   by_cases h3:x=y
   ·subst h3;simp
   ·have h4:(y.toNat:Int)<(x.toNat:Int):=by
     have:x.toNat≠y.toNat:=fun e=>h3 (UInt8.toNat_inj.1 e)
     omega
    simp[h1,h2,h3,h4]
theorem Apj {a b:List UInt8}:Bg Vh a b=if Op.bytesLess a b=true then -1 else if a=b then 0 else 1:=by
 rw[T4]
 have hr:∀ (a b:List UInt8),Bg Vh a b=-1∨Bg Vh a b=0∨Bg Vh a b=1:=by
  intro a
  induction a with
  | nil=>intro b;cases b<;>simp[Bg]
  | cons x a ih =>
   intro b
   cases b with
   | nil=>simp[Bg]
   | cons y b =>
    rw[Bg]
    unfold Kz
    split
    ·unfold Vh Ch;split
     ·simp
     ·split<;>simp
    ·exact ih b
 have h0:=S0 (c:=Vh) (fun x y=>Aa9) a b
 rcases hr a b with h | h | h
 ·rw[h];simp
 ·rw[h,h0 h];simp
 ·have hne:a≠b:=fun e=>by
   subst e
   have:=cmpU_ok.list.self a
   omega
  rw[h,if_neg qe,if_neg hne]
theorem Aet (x:Int) (l:List Int):orI (x::l)=Kz x (orI l):=by
 rw[orI];unfold Kz;split<;>simp_all
theorem CmpOK.const {α:Type}:CmpOK (fun _ _:α=>(0:Int)):=⟨fun _ _=>by simp,fun _ _ _ _ _=>by simp⟩
theorem CmpOK.orNil {α:Type}:CmpOK (fun _ _:α=>orI []):=CmpOK.const
theorem CmpOK.or {α:Type} {c:α→α→Int} {d:α→α→List Int} (hc:CmpOK c) (hd:CmpOK (fun x y=>orI (d x y))):CmpOK (fun x y=>orI (c x y::d x y)):=by
 have h:=hc.then hd
 simp only[Aet]
 exact h
def stepI (k:Int):Int:=if k=1 then 1 else if k=5 then 2 else if k=2 then 3 else if k=3 then 4 else if k=4 then 5 else if k=6 then 6 else if k=7 then 7 else if k=8 then 8 else if k=9 then 9 else 10
def Aci (a b:LineM):Int:=orI [Lq a.dev b.dev,Lq a.port b.port,Lq a.peer b.peer,Lq a.far b.far,Lq a.name b.name]
def Tw (a b:LineM):Int:=orI [Ch a.vlan b.vlan,Ch a.num b.num,Ch a.mac b.mac,Ch a.addr b.addr,Ch a.bits b.bits,Ch a.cost b.cost]
def Aco (a b:LineM):Int:=orI [Bg Ch a.tagged b.tagged,Bg Ch a.imports b.imports,Bg Ch a.exports b.exports,Bg Ch a.addrs b.addrs]
def Qz (a b:LineM):Int:=orI [Ch (stepI a.kind) (stepI b.kind),Aci a b,Tw a b,Aco a b]
theorem lineC_ok:CmpOK Qz:=by
 have n:CmpOK Aci:=.or (cmpB_ok.comap LineM.dev) (.or (cmpB_ok.comap LineM.port) (.or (cmpB_ok.comap LineM.peer) (.or (cmpB_ok.comap LineM.far) (.or (cmpB_ok.comap LineM.name) .orNil))))
 have u:CmpOK Tw:=.or (cmpI_ok.comap LineM.vlan) (.or (cmpI_ok.comap LineM.num) (.or (cmpI_ok.comap LineM.mac) (.or (cmpI_ok.comap LineM.addr) (.or (cmpI_ok.comap LineM.bits) (.or (cmpI_ok.comap LineM.cost) .orNil)))))
 have l:CmpOK Aco:=.or (cmpI_ok.list.comap LineM.tagged) (.or (cmpI_ok.list.comap LineM.imports) (.or (cmpI_ok.list.comap LineM.exports) (.or (cmpI_ok.list.comap LineM.addrs) .orNil)))
 exact .or (cmpI_ok.comap (fun a:LineM=>stepI a.kind)) (.or n (.or u (.or l .orNil)))
def Jm (a b:LineM):Bool:=decide (Qz a b<0)
theorem lineB_ordy:Ordy Jm:=lineC_ok.ordy
def Jg (l:List LineM):List LineM:=l.mapIdx fun i x=>{ x with row:=i+1 }
def A6 (l:List LineM):List LineM:=Jg (Bo Jm l)
end Go.Sy.YtdkfcckkkfghgaaGreatDoor
namespace Go.Sy
theorem Akk {κ:Ka} {w:World} {x:SV}:∀ {l:List SV} {cs:List Value} {i:Nat},RdL κ w l cs→(∀ y v,l[i]? = some y→Rd κ w y v→Rd κ w x v)→RdL κ w (l.set i x) cs
 | [],_,_,h,_=>h
 | y::l,cs,0,h,hx=>by
  simp only[RdL,List.set_cons_zero]at h ⊢
  obtain ⟨v,r,e1,e2,e3⟩:=h
  exact⟨v,r,e1,hx y v q_ e2,e3⟩
 | y::l,cs,i+1,h,hx=>by
  simp only[RdL,List.set_cons_succ]at h ⊢
  obtain ⟨v,r,e1,e2,e3⟩:=h
  exact⟨v,r,e1,e2,Akk e3 (fun z u hz hu=>hx z u hz hu)⟩
theorem Agn {C:Cx} {k:List KI} {s:SS} (b i d sz:Nat) {α:Type} (e:α→SV) {l:List SV} (hb:s.h b=.box l) (h:l[i]? = some (.val (.slice none 0 0))) (hd:s.h d=.fresh) (hbd:Nat.beq b d=false)
  (hg:G C k ⟨s.σ,upd (upd s.h b (.box (l.set i (.osl d)))) d (.row sz e [])⟩):G C k s:=fun κ a w hs=>by
 have hne:b≠d:=fun e=>by rw[e,Nat.beq_refl]at hbd;cases hbd
 have hnew:κ d=.new:=by have:=hs.obj d;rwa [hd]at this
 obtain ⟨st,inv⟩:=Hp hs.inv hnew (e:=.nil) (Grew.refl w) (fun b hb=>by cases hb)
 refine hg (D9 κ d .nil) a w ⟨hs.defers,hs.size,inv,hs.ctx.step inv st,fun j=>Rd.step st _ _ (hs.slot j),fun j=>?_⟩
 show ObOK _ w j (upd (upd s.h b (.box (l.set i (.osl d)))) d (.row sz e []) j)
 by_cases hj:j=d
 ·subst hj;rw[Cu];exact .inl ⟨As _ _ _,rfl⟩
 ·rw[Dk _ _ hj]
  by_cases hjb:j=b
  ·subst hjb
   rw[Cu]
   have:=ObOK.step st hj _ (hs.obj j)
   rw[hb]at this
   obtain ⟨b',cs,T,fr,e1,e2,e3,e4,e5⟩:=this
   refine⟨b',cs,T,fr,e1,e2,e3,e4,Akk e5 fun y v hy hv=>?_⟩
   rw[h]at hy
   cases hy
   simp only[Rd]at hv
   simp only[Rd,As]
   exact hv
  ·rw[Dk _ _ hjb];exact ObOK.step st hj _ (hs.obj j)
theorem Qh {P:Program} (w:World) {t e:TypeId} (h:P.underlying t=some (.slice e)) (ad:Option Addr) (n cap c1 c2:Nat):(Op.equal t (.slice ad n cap) (.slice none c1 c2)).run P w=.ok ad.isNone w:=by
 have key:∀ d,(Op.equalIn (d+1) t (.slice ad n cap) (.slice none c1 c2)).run P w=.ok ad.isNone w:=fun d=>by
  cases ad<;>simp[Op.equalIn,run_underlying h]
 exact key 9999
inductive NilT (s:SS):SV→List Nat→Nat→Prop
 | sl {sz:Nat} {α:Type} {e:α→SV} {l:List α}:NilT s (.sl sz e l) [] l.length
 | row {k sz:Nat} {α:Type} {e:α→SV} {l:List α} (h:s.h k=.row sz e l):NilT s (.osl k) [k] l.length
theorem NilT.at {C:Cx} {s:SS} {κ:Ka} {a:Act} {w:World} {x:Operand} {rd:List Nat} {n:Nat} (hs:St C.F C.n s κ a w) (hx:NilT s (ev s x) rd n):∃ (ad:Option Addr) (m cap:Nat),a.eval x=.slice ad m cap∧(ad.isNone=true→n=0):=by
 have h1:Rd κ w (ev s x) (a.eval x):=hs.ev x
 generalize ev s x=y at *
 cases hx with
 | @sl sz α e l =>
  simp only[Rd,RdD]at h1
  rcases h1 with ⟨rfl,a',cap,h1⟩ | ⟨b,off,cap,h1,_⟩
  ·exact⟨_,_,_,h1,fun _=>rfl⟩
  ·exact⟨_,_,_,h1,fun h=>by cases h⟩
 | @row k' sz α e l hr =>
  have hob:=hs.obj k'
  rw[hr]at hob
  simp only[Rd]at h1
  rcases hob with ⟨hκ,hl⟩ | ⟨b,cap,_,_,_,hκ,_⟩
  ·rw[hκ]at h1
   exact⟨_,_,_,h1,fun _=>by rw[hl];rfl⟩
  ·rw[hκ]at h1
   exact⟨_,_,_,h1,fun h=>by cases h⟩
theorem Ig {C:Cx} {k:List KI} {s:SS} {all:Array Oper} {o:Oper} {rest:List Oper} {op:BinOp} {t yt:TypeId} {ti:TI} {et:TypeId} {sz eb n:Nat} {ez:List Value} {x y:Operand} {rd:List Nat} (h:o.op=.binOp op t x y yt) (hop:op=.eql∨op=.neq)
  (ht:C.Γ.get t=some ti) (hk:ti.k=.slice et sz eb ez) (hy:ev s y=.val (.slice none 0 0)) (hx:NilT s (ev s x) rd n) (hd:Q5 C.n o=true) (hw:Dy C.n all o s=some true)
  (hg:∀ b:Bool,(b=true→n=0)→G C (.ops all rest::k) (s.upd o.dst ⟨.val (.bool (if op=.eql then b else !b)),rd,[]⟩)):G C (.ops all (o::rest)::k) s:=fun κ a w hs=>by
 have h2:Rd κ w (ev s y) (a.eval y):=hs.ev y
 rw[hy]at h2
 obtain ⟨ad,m,cap,e1,e2⟩:=hx.at hs
 obtain ⟨d,info,z,k1,k2,_⟩:=C.Γ.ok t ti ht
 rw[hk]at k2
 simp only[TK.ok]at k2
 have hrun:=Qh (P:=C.P) w (t:=t) (e:=et) (by first | exact k2.1 ▸ k1 | (rw[k1,k2.1])) ad m cap 0 0
 have hG:=hg ad.isNone e2
 have hv:=h2.val
 refine wpList_step fun K hK=>?_
 rw[if_pos (O0 hs (Dm hw).2 (Dm hw).1)]
 have hx':(execOp a.eval o).run C.P w=.ok (.value (.bool (if op=.eql then ad.isNone else !ad.isNone))) w:=by
  rcases hop with rfl | rfl<;>simp[execOp,h,e1,hv,eqGuard,binOp,hrun]
 simp only[Oper.wp,hx',Oper.upon]
 exact hK _ _ (hG κ _ w (hs.put (U:=⟨.val (.bool (if op=.eql then ad.isNone else !ad.isNone)),rd,[]⟩) (Y6 hd) (Step.refl _ κ w) hs.inv (by simp[Rd]) (fun p hp=>by cases hp)))
def KeepL (s:SS):List (Nat × Ob)→Prop
 | []=>True
 | (k,o)::r=>s.h k=o∧KeepL s r
theorem KeepL.all {s:SS}:∀ {l:List (Nat × Ob)},KeepL s l→∀ p∈l,s.h p.1=p.2
 | [],_,p,hp=>by cases hp
 | (k,o)::r,h,p,hp=>by
  rcases List.mem_cons.1 hp with rfl | hp
  ·exact h.1
  ·exact KeepL.all h.2 p hp
theorem stepD2 {C:Cx} {k:List KI} {s:SS} {all:Array Oper} {done:List Stp} {o:Oper} {rest:List Oper} {U:Up} (hg:Good C.P o s U) (hk:KeepL s U.objs) (hi:all[done.length]? = some o) (hw:Dy C.n all o s=some true)
  (h:DR C k all (done++[⟨done.length,o,⟨U.v,U.rd++U.ws,[]⟩,true⟩]) rest (s.upd o.dst ⟨U.v,U.rd++U.ws,[]⟩)) (hn:(H7 o || Ld o)=false:=by rfl):DR C k all done (o::rest) s :=
 Ap0 _ (.of2 (hg.keep hk.all) hn) hi (Dm hw).1 h
theorem Aad {κ:Ka} {w w':World} (hi:Inv κ w) (g:Grew w w'):Step (fun _=>False) κ w κ w'∧Inv κ w' :=
 ⟨⟨g.size,g.os,g.tape,g.output,rfl,fun b hb=>g.blk b (hi.mbnd b hb),fun b hb _=>g.blk b hb,fun k b _ hb=>g.blk b (hi.bnd k b hb),fun _ _=>rfl,fun _ h=>h.elim,fun _ h=>.inl h⟩,
  ⟨hi.inj,fun k b h=>Nat.lt_of_lt_of_le (hi.bnd k b h) g.size,hi.apart,fun b h=>Nat.lt_of_lt_of_le (hi.mbnd b h) g.size⟩⟩
theorem Spec.of_calls {P:Program} {f:FuncId} {A:List SV} {H:Obs} {u:Value}
  (h:∀ (κ:Ka) (w:World) (vs:List Value),Inv κ w→RdL κ w A vs→H.ok κ w→Calls P f vs.toArray w fun e w'=>e=.returned u∧RowKit.Below w.heap.size w w'):Spec P f A H (.val u) H:=by
 intro κ w vs hi _ hr ho
 refine(h κ w vs hi hr ho).mono fun e w' hw=>?_
 obtain ⟨he,hw⟩:=hw
 have g:Grew w w':=⟨hw.os,hw.tape,hw.output,hw.size,hw.block⟩
 have st:=Aad hi g
 exact⟨u,κ,he,(Ctx.refl κ w).step st.2 st.1,st.2,by simp[Rd],fun p hp=>ObOK.step st.1 qe p.2 (ho p hp)⟩
theorem Agt {κ:Ka} {w:World} {l:List ByteArray} {v:Value} (h:Rd κ w (.sl 1 Ae l) v) :
  (l=[]∧∃ a c,v=.slice a 0 c)∨∃ b o c,v=.slice (some ⟨b,o,none⟩) l.length c∧l.length≤c∧b<w.heap.size∧∀ (j:Nat) x,l[j]? = some x→w.cell? ⟨b,o+j,none⟩=some (.string x):=by
 simp only[Rd,RdD]at h
 rcases h with ⟨h1,h2⟩ | ⟨b,off,cap,h1,h0,h2,h3,h4⟩
 ·exact .inl ⟨h1,h2⟩
 ·refine .inr ⟨b,off,cap,h1,h0,h3,fun j x hj=>?_⟩
  obtain ⟨hlt,he⟩:=List.getElem?_eq_some_iff.1 hj
  obtain ⟨u,h5,h6⟩:=h4 j hlt
  rw[he]at h5
  simp only[Ae,RdD]at h5
  subst h5
  have:=h6.2.2 0 j_
  simp only[Nat.mul_one,Nat.add_zero]at this
  exact this
theorem Yw {P:Program} {o:Oper} {s:SS} {x y:Operand} {at_:Array TypeId} {k k':IntKind} {m n:Int} (h:o.op=.call ⟨.builtin .min,#[x,y],at_⟩)
  (hx:ev s x=.val (.int k m)) (hy:ev s y=.val (.int k' n)):Good P o s ⟨.val (.int k (if n<m then n else m)),[],[]⟩ :=
 Good.pure fun κ a w _ hr ho=>by
  have h1:=hr x (by simp[h,Op.operands,Call.operands])
  have h2:=hr y (by simp[h,Op.operands,Call.operands])
  rw[hx]at h1
  rw[hy]at h2
  refine⟨.int k (if n<m then n else m),?_,by simp[Rd]⟩
  simp[execOp,h,resolve,invoke,builtin,Builtin.min_,Builtin.min2,h1.val,h2.val]
def Jo (l:List ByteArray) (sep:ByteArray):ByteArray:=⟨(Lib.join (l.map (·.data.toList)) sep.data.toList).toArray⟩
def Li (l:List ByteArray):Nat:=(l.map (·.size)).sum
theorem Aj5:∀ (l:List (List UInt8)) (sep:List UInt8),(Lib.join l sep).length≤(l.map (·.length)).sum+sep.length * l.length
 | [],_=>by simp[Lib.join_nil]
 | x::r,sep=>by
  rw[Lib.join_length]
  have:Lib.lens (x::r)=((x::r).map (·.length)).sum:=by
   clear sep
   induction (x::r) with
   | nil=>rfl
   | cons a t ih=>simp[Lib.lens,ih]
  rw[this,List.length_cons,Nat.mul_succ]
  omega
theorem Aop {l:List ByteArray} {sep:ByteArray} (h1:Li l≤70368744177664) (h2:sep.size * l.length≤70368744177664):(Lib.join (l.map (·.data.toList)) sep.data.toList).length≤140737488355328:=by
 have:=Aj5 (l.map (·.data.toList)) sep.data.toList
 have e:(l.map (·.data.toList)).map (·.length)=l.map (·.size):=by
  rw[List.map_map]
  apply List.map_congr_left
  intro a _
  rfl
 rw[e,List.length_map]at this
 have e2:sep.data.toList.length=sep.size:=rfl
 rw[e2]at this
 unfold Li at h1
 omega
end Go.Sy
namespace Go.Proofs
open Go.Shelf
def Tryz.lays156_ren:Go.Shelf.Ren:=⟨fun | 156=>117 | 165=>191 | 166=>192 | 169=>193 | 240=>243 | 241=>244 | 276=>261 | 277=>262 | n=>n,fun | 31=>79 | 9=>9 | 3=>3 | 4=>4 | 0=>0 | 20=>20 | 72=>252 | 76=>255 | 70=>250 | 37=>39 | 75=>254 | 127=>295 | 164=>261 | 5=>5 | 80=>110 | n=>n,fun | n=>n⟩
theorem Tryz.lays156:Go.Proofs.Lays.n156 Tryz.prog Tryz.lays156_ren:={
 mixed:=by kernel_rfl
 f156:=Tryz.func117.trans (congrArg some Go.Sy.y_)
 f165:=Tryz.func191.trans (congrArg some Go.Sy.y_)
 f166:=Tryz.func192.trans (congrArg some Go.Sy.y_)
 f169:=Tryz.func193.trans (congrArg some Go.Sy.y_)
 f240:=Tryz.func243.trans (congrArg some Go.Sy.y_)
 f241:=Tryz.func244.trans (congrArg some Go.Sy.y_)
 f276:=Tryz.func261.trans (congrArg some Go.Sy.y_)
 f277:=Tryz.func262.trans (congrArg some Go.Sy.y_)
 t0:=Tryz.underlying0
 a0:=Tryz.isAgg0
 z0:=Tryz.sizeOf0
 v0:=Tryz.zeroValue0
 t3:=Tryz.underlying3
 a3:=Tryz.isAgg3
 z3:=Tryz.sizeOf3
 v3:=Tryz.zeroValue3
 t4:=Tryz.underlying4
 a4:=Tryz.isAgg4
 z4:=Tryz.sizeOf4
 v4:=Tryz.zeroValue4
 t9:=Tryz.underlying9
 a9:=Tryz.isAgg9
 z9:=Tryz.sizeOf9
 v9:=Tryz.zeroValue9
 t20:=Tryz.underlying20
 a20:=Tryz.isAgg20
 z20:=Tryz.sizeOf20
 v20:=Tryz.zeroValue20
 t31:=Tryz.underlying79
 a31:=Tryz.isAgg79
 z31:=Tryz.sizeOf79
 v31:=Tryz.zeroValue79
 t37:=Tryz.underlying39
 a37:=Tryz.isAgg39
 z37:=Tryz.sizeOf39
 v37:=Tryz.zeroValue39
 t70:=Tryz.underlying250
 a70:=Tryz.isAgg250
 z70:=Tryz.sizeOf250
 v70:=Tryz.zeroValue250
 t72:=Tryz.underlying252
 a72:=Tryz.isAgg252
 z72:=Tryz.sizeOf252
 v72:=Tryz.zeroValue252
 t75:=Tryz.underlying254
 a75:=Tryz.isAgg254
 z75:=Tryz.sizeOf254
 v75:=Tryz.zeroValue254
 t76:=Tryz.underlying255
 a76:=Tryz.isAgg255
 z76:=Tryz.sizeOf255
 v76:=Tryz.zeroValue255
 t127:=Tryz.underlying295
 a127:=Tryz.isAgg295
 z127:=Tryz.sizeOf295
 v127:=Tryz.zeroValue295
 t164:=Tryz.underlying261
 a164:=Tryz.isAgg261
 z164:=Tryz.sizeOf261
 v164:=Tryz.zeroValue261 }
theorem Tryz.Builder_Extra_156:Builder.Extra Tryz.prog Tryz.lays156_ren:={
 sizeBuilder:=by kernel_rfl
 liesBuilder:=by kernel_rfl
 t5:=Tryz.underlying5
 a5:=Tryz.isAgg5
 z5:=Tryz.sizeOf5
 v5:=Tryz.zeroValue5
 infoByte:=by kernel_rfl
 cellsByte:=by kernel_rfl
 sizeByte:=by kernel_rfl
 neB5:=by decide }
open Go.RowKit in
theorem Tryz.strings_Join_none (a:Option Addr) (c:Nat) (sep:ByteArray) (w:World) :
  Calls Tryz.prog 117 #[.slice a 0 c,.string sep] w fun e w'=>e=.returned (.string ⟨#[]⟩)∧w'=w:=Any.strings_Join_none Tryz.lays156 Tryz.Builder_Extra_156 a c sep w
open Go.RowKit in
theorem Tryz.strings_Join (bk o c:Nat) (xs:List ByteArray) (sep:ByteArray) (w:World) (hcells:∀ (j:Nat) x,xs[j]? = some x→w.cell? ⟨bk,o+j,none⟩=some (.string x)) (hbk:bk<w.heap.size) (hN:xs.length≤140737488355328) (hcap:xs.length≤c) (hlen:(Lib.join (xs.map (·.data.toList)) sep.data.toList).length≤140737488355328) :
  Calls Tryz.prog 117 #[.slice (some ⟨bk,o,none⟩) xs.length c,.string sep] w fun e w'=>e=.returned (.string ⟨(Lib.join (xs.map (·.data.toList)) sep.data.toList).toArray⟩)∧Below w.heap.size w w':=Any.strings_Join Tryz.lays156 Tryz.Builder_Extra_156 bk o c xs sep w hcells hbk hN hcap hlen
def Tryz.lays219_ren:Go.Shelf.Ren:=⟨fun | 219=>174 | 217=>229 | 225=>230 | 224=>231 | 267=>232 | 266=>257 | 314=>258 | n=>n,fun | 9=>9 | 3=>3 | 4=>4 | 5=>5 | 46=>146 | 146=>302 | 51=>44 | n=>n,fun | 1=>0 | n=>n⟩
theorem Tryz.lays219:Go.Proofs.Lays.n219 Tryz.prog Tryz.lays219_ren:={
 mixed:=by kernel_rfl
 f217:=Tryz.func229.trans (congrArg some Go.Sy.y_)
 f219:=Tryz.func174.trans (congrArg some Go.Sy.y_)
 f224:=Tryz.func231.trans (congrArg some Go.Sy.y_)
 f225:=Tryz.func230.trans (congrArg some Go.Sy.y_)
 f266:=Tryz.func257.trans (congrArg some Go.Sy.y_)
 f267:=Tryz.func232.trans (congrArg some Go.Sy.y_)
 f314:=Tryz.func258.trans (congrArg some Go.Sy.y_)
 t3:=Tryz.underlying3
 a3:=Tryz.isAgg3
 z3:=Tryz.sizeOf3
 v3:=Tryz.zeroValue3
 t4:=Tryz.underlying4
 a4:=Tryz.isAgg4
 z4:=Tryz.sizeOf4
 v4:=Tryz.zeroValue4
 t5:=Tryz.underlying5
 a5:=Tryz.isAgg5
 z5:=Tryz.sizeOf5
 v5:=Tryz.zeroValue5
 t9:=Tryz.underlying9
 a9:=Tryz.isAgg9
 z9:=Tryz.sizeOf9
 v9:=Tryz.zeroValue9
 t46:=Tryz.underlying146
 a46:=Tryz.isAgg146
 z46:=Tryz.sizeOf146
 v46:=Tryz.zeroValue146
 t51:=Tryz.underlying44
 a51:=Tryz.isAgg44
 z51:=Tryz.sizeOf44
 v51:=Tryz.zeroValue44
 t146:=Tryz.underlying302
 a146:=Tryz.isAgg302
 z146:=Tryz.sizeOf302
 v146:=Tryz.zeroValue302
 g1:=by kernel_rfl }
open Go.RowKit Go.Lib in
theorem Tryz.stringslite_Index_one (s:ByteArray) (c:UInt8) (w:World) :
  Calls Tryz.prog 174 #[.string s,.string ⟨#[c]⟩] w fun e w'=>e=.returned (.int .i64 (Lib.indexByte s.data.toList c))∧w'=w:=Any.stringslite_Index_one Tryz.lays219 s c w
def Tryz.lays143_ren:Go.Shelf.Ren:=⟨fun | 143=>236 | 219=>174 | 217=>229 | 225=>230 | 224=>231 | 267=>232 | 266=>257 | 314=>258 | n=>n,fun | 9=>9 | 3=>3 | 4=>4 | 5=>5 | 46=>146 | 146=>302 | 51=>44 | n=>n,fun | 1=>0 | n=>n⟩
theorem Tryz.lays143:Go.Proofs.Lays.n143 Tryz.prog Tryz.lays143_ren:={
 mixed:=by kernel_rfl
 f143:=Tryz.func236.trans (congrArg some Go.Sy.y_)
 f217:=Tryz.func229.trans (congrArg some Go.Sy.y_)
 f219:=Tryz.func174.trans (congrArg some Go.Sy.y_)
 f224:=Tryz.func231.trans (congrArg some Go.Sy.y_)
 f225:=Tryz.func230.trans (congrArg some Go.Sy.y_)
 f266:=Tryz.func257.trans (congrArg some Go.Sy.y_)
 f267:=Tryz.func232.trans (congrArg some Go.Sy.y_)
 f314:=Tryz.func258.trans (congrArg some Go.Sy.y_)
 t3:=Tryz.underlying3
 a3:=Tryz.isAgg3
 z3:=Tryz.sizeOf3
 v3:=Tryz.zeroValue3
 t4:=Tryz.underlying4
 a4:=Tryz.isAgg4
 z4:=Tryz.sizeOf4
 v4:=Tryz.zeroValue4
 t5:=Tryz.underlying5
 a5:=Tryz.isAgg5
 z5:=Tryz.sizeOf5
 v5:=Tryz.zeroValue5
 t9:=Tryz.underlying9
 a9:=Tryz.isAgg9
 z9:=Tryz.sizeOf9
 v9:=Tryz.zeroValue9
 t46:=Tryz.underlying146
 a46:=Tryz.isAgg146
 z46:=Tryz.sizeOf146
 v46:=Tryz.zeroValue146
 t51:=Tryz.underlying44
 a51:=Tryz.isAgg44
 z51:=Tryz.sizeOf44
 v51:=Tryz.zeroValue44
 t146:=Tryz.underlying302
 a146:=Tryz.isAgg302
 z146:=Tryz.sizeOf302
 v146:=Tryz.zeroValue302
 g1:=by kernel_rfl }
open Go.RowKit Go.Lib in
theorem Tryz.strings_Index_one (s:ByteArray) (c:UInt8) (w:World) :
  Calls Tryz.prog 236 #[.string s,.string ⟨#[c]⟩] w fun e w'=>e=.returned (.int .i64 (Lib.indexByte s.data.toList c))∧w'=w:=Any.strings_Index_one Tryz.lays143 s c w
def Tryz.lays101_ren:Go.Shelf.Ren:=⟨fun | 101=>175 | 208=>233 | 206=>259 | n=>n,fun | 9=>9 | 4=>4 | 3=>3 | n=>n,fun | n=>n⟩
theorem Tryz.lays101:Go.Proofs.Lays.n101 Tryz.prog Tryz.lays101_ren:={
 mixed:=by kernel_rfl
 f101:=Tryz.func175.trans (congrArg some Go.Sy.y_)
 f206:=Tryz.func259.trans (congrArg some Go.Sy.y_)
 f208:=Tryz.func233.trans (congrArg some Go.Sy.y_)
 t3:=Tryz.underlying3
 a3:=Tryz.isAgg3
 z3:=Tryz.sizeOf3
 v3:=Tryz.zeroValue3
 t4:=Tryz.underlying4
 a4:=Tryz.isAgg4
 z4:=Tryz.sizeOf4
 v4:=Tryz.zeroValue4
 t9:=Tryz.underlying9
 a9:=Tryz.isAgg9
 z9:=Tryz.sizeOf9
 v9:=Tryz.zeroValue9 }
open Go.RowKit Go.Lib in
theorem Tryz.strings_TrimPrefix (s p:ByteArray) (w:World) :
  Calls Tryz.prog 175 #[.string s,.string p] w fun e w'=>e=.returned (.string ⟨(Lib.trimPrefix s.data.toList p.data.toList).toArray⟩)∧w'=w:=Any.strings_TrimPrefix Tryz.lays101 s p w
end Go.Proofs
namespace Go.Sy.YtdkfcckkkfghgaaGreatDoor
open Go.Proofs
theorem Xn (l:List ByteArray) (sep:ByteArray) (h0:l.length≤70368744177664) (h1:Li l≤70368744177664) (h2:sep.size * l.length≤70368744177664) :
  Sy.Spec Tryz.prog 117 [.sl 1 Ae l,Ae sep] [] (Ae (Jo l sep)) [] :=
 Spec.of_calls fun κ w vs hi hr _=>by
  simp only[RdL]at hr
  obtain ⟨v,r,rfl,h3,u,r',rfl,h4,rfl⟩:=hr
  have h4':u=.string sep:=by simpa only [Ae,Rd] using h4
  subst h4'
  rcases Agt h3 with ⟨rfl,a,c,rfl⟩ | ⟨b,o,c,rfl,hc,hb,hcell⟩
  ·exact(Tryz.strings_Join_none a c sep w).mono fun e w' ⟨he,hw⟩=>⟨he,hw ▸ RowKit.Below.refl _ _⟩
  ·exact Tryz.strings_Join b o c l sep w hcell hb j_ hc (Aop h1 h2)
def Jr (c:UInt8) (l:List UInt8):Nat:=(Lib.indexByte l c).toNat
def Cd (c:UInt8) (l:List UInt8):Nat→List UInt8
 | 0=>l
 | j+1=>(Cd c l j).drop (Jr c (Cd c l j)+1)
def M6 (c:UInt8) (l:List UInt8) (j:Nat):List UInt8:=(Cd c l j).take (Jr c (Cd c l j))
def mkT (l:List UInt8):ByteArray:=⟨l.toArray⟩
def B9 (c:UInt8) (s:ByteArray):List ByteArray :=
 (List.range (s.data.toList.count c)).map (fun j=>mkT (M6 c s.data.toList j))++[mkT (Cd c s.data.toList (s.data.toList.count c))]
theorem H8:∀ {l:List UInt8} {c:UInt8},c∈l→0≤Lib.indexByte l c∧(Lib.indexByte l c).toNat<l.length
 | b::l,c,h=>by
  unfold Lib.indexByte
  by_cases hb:b == c
  ·rw[if_pos hb];simp
  ·rw[if_neg hb]
   have hm':c∈l:=by
    rcases List.mem_cons.1 h with h | h
    ·exact absurd (by simp[h]) hb
    ·exact h
   have:=H8 hm'
   rw[if_neg (by simp;omega)]
   simp only[List.length_cons]
   omega
theorem Mf:∀ {l:List UInt8} {c:UInt8},c∈l→(l.drop (Jr c l+1)).count c+1=l.count c
 | b::l,c,h=>by
  unfold Jr Lib.indexByte
  by_cases hb:b == c
  ·rw[if_pos hb,List.count_cons,if_pos hb];simp
  ·rw[if_neg hb]
   have hm':c∈l:=by
    rcases List.mem_cons.1 h with h | h
    ·exact absurd (by simp[h]) hb
    ·exact h
   have h1:=H8 hm'
   rw[if_neg (by simp;omega),List.count_cons,if_neg hb,Nat.add_zero,← Mf hm']
   have e:(Lib.indexByte l c+1).toNat=Jr c l+1:=by unfold Jr;omega
   rw[e,List.drop_succ_cons]
theorem Sz (c:UInt8) (l:List UInt8):∀ j,j≤l.count c→(Cd c l j).count c+j=l.count c
 | 0,_=>rfl
 | j+1,h=>by
  have ih:=Sz c l j j_
  have hm':c∈Cd c l j:=List.count_pos_iff.1 j_
  have:=Mf hm'
  rw[Cd]
  omega
theorem Aht {c:UInt8} {l:List UInt8} {j:Nat} (h:j<l.count c):c∈Cd c l j :=
 List.count_pos_iff.1 (by have:=Sz c l j j_;omega)
def Ai1 (c:UInt8) (s:ByteArray):Nat:=s.data.toList.count c
theorem Qo (c:UInt8) (s:ByteArray):(B9 c s).length=Ai1 c s+1:=by simp only[B9,List.length_append,List.length_map,List.length_range,List.length_singleton];rfl
theorem Ad9 (c:UInt8) (l:List UInt8):∀ j,(Cd c l j).length≤l.length
 | 0=>Nat.le_refl _
 | j+1=>by rw[Cd,List.length_drop];have:=Ad9 c l j;omega
theorem Ud {a b:ByteArray} (h:a.data.toList=b.data.toList):a=b:=by
 cases a;cases b;simp only[ByteArray.mk.injEq];exact Array.toList_inj.1 h
theorem Dg (l:List UInt8):(mkT l).size=l.length:=by simp[mkT,ByteArray.size]
theorem Io (l:List UInt8):(mkT l).data.toList=l:=by simp[mkT]
theorem Dr (l:List UInt8) (i j:Nat):(mkT l).extract i j=mkT ((l.take j).drop i):=by
 apply Ud
 simp[mkT,ByteArray.data_extract,List.extract_eq_take_drop,List.drop_take]
theorem Im (s:ByteArray):mkT s.data.toList=s:=Ud (by simp[mkT])
theorem Anr {c:UInt8} {s:ByteArray} {j m:Nat} (h:Lib.indexByte (Cd c s.data.toList j) c=m):M6 c s.data.toList j=(Cd c s.data.toList j).take m:=by
 rw[M6,Jr,h,Int.toNat_natCast]
theorem Aqb {c:UInt8} {s:ByteArray} {j m:Nat} (h:Lib.indexByte (Cd c s.data.toList j) c=m):Cd c s.data.toList (j+1)=(Cd c s.data.toList j).drop (m+1):=by
 rw[Cd,Jr,h,Int.toNat_natCast]
end Go.Sy.YtdkfcckkkfghgaaGreatDoor
namespace Go.Sy.YtdkfcckkkfghgaaGreatDoor
open Go.Proofs
attribute [local irreducible] Go.Sy.G Go.Sy.DR
set_option maxRecDepth 20000
set_option maxHeartbeats 4000000
def I1 (c:UInt8):Bool:=decide (48≤c.toNat) && decide (c.toNat≤57)
def Sc (s:ByteArray):Nat→Int
 | 0=>0
 | j+1=>10 * Sc s j+((A5 s j).toNat-48)
def Af5 (s:ByteArray):Bool:=(List.range s.size).all fun i=>I1 (A5 s i)
def smallT (s:ByteArray) (most:Int):Int × Bool :=
 if s.size=0∨3<s.size∨(1<s.size∧(A5 s 0).toNat=48)∨Af5 s=false then (0,false) else (Sc s s.size,decide (Sc s s.size≤most))
theorem Uh {s:ByteArray} {i:Nat} (hi:i<s.size) (h:I1 (A5 s i)=false):Af5 s=false:=by
 rw[Af5,List.all_eq_false]
 exact⟨i,by simpa using hi,by simp[h]⟩
theorem Aa5 {s:ByteArray} (h:∀ i,i<s.size→I1 (A5 s i)=true):Af5 s=true:=by
 rw[Af5,List.all_eq_true]
 intro i hi
 exact h i (by simpa using hi)
theorem digB_iff {c:UInt8}:I1 c=true↔48≤c.toNat∧c.toNat≤57:=by simp[I1]
theorem Abi {s:ByteArray}:∀ {j:Nat},(∀ i,i<j→I1 (A5 s i)=true)→0≤Sc s j∧Sc s j<10 ^ j
 | 0,_=>by simp[Sc]
 | j+1,h=>by
  have ih:=Abi (s:=s) (j:=j) (fun i hi=>h i j_)
  have hd:=digB_iff.1 (h j j_)
  rw[Sc]
  have e:(10:Int) ^ (j+1)=10 * 10 ^ j:=by rw[Int.pow_succ];omega
  rw[e]
  omega
theorem Amy {n:Nat} (h:48≤n) (h2:n<256):IntKind.u8.wrap ((n:Int)-48)=(n:Int)-48:=by
 rw[IntKind.wrap_u8]
 omega
theorem Ao0 {n:Int} (h:0≤n) (h2:n<256):IntKind.i64.wrap n=n:=by
 rw[IntKind.wrap_i64]
 omega
theorem Zi (s:ByteArray) (most:Int):Sy.Spec Tryz.prog 103 [Ae s,Aa most] [] (.tup [Aa (smallT s most).1,Ab (smallT s most).2]) []:=cT F103 Tryz.ntmps103 fun F hF=>by
 have hlk:=smallT.eq_1 s most
 generalize smallT s most=res at *
 ((conv=>whnf);repeat((first|refine aF ?_|refine aT ?_);(first|refine rG Γ hm ?_|refine rD Γ hm y_ ?_);conv=>whnf))
 refine⟨fun h=>?_,fun h=>?_⟩
 ·have h1:s.size=0:=by simpa using h
  rw[if_pos (.inl h1)]at hlk
  subst hlk
  ((first|refine rG Γ hm ?_|refine rD Γ hm y_ ?_);(conv=>whnf);repeat((first|refine aF ?_|refine aT ?_);(first|refine rG Γ hm ?_|refine rD Γ hm y_ ?_);conv=>whnf))
  exact dN
 have h1:¬ s.size=0:=by simpa using h
 ((first|refine rG Γ hm ?_|refine rD Γ hm y_ ?_);(conv=>whnf);repeat((first|refine aF ?_|refine aT ?_);(first|refine rG Γ hm ?_|refine rD Γ hm y_ ?_);conv=>whnf))
 refine⟨fun h=>?_,fun h=>?_⟩
 ·have h2:3<s.size:=qA h
  rw[if_pos (.inr (.inl h2))]at hlk
  subst hlk
  ((first|refine rG Γ hm ?_|refine rD Γ hm y_ ?_);(conv=>whnf);repeat((first|refine aF ?_|refine aT ?_);(first|refine rG Γ hm ?_|refine rD Γ hm y_ ?_);conv=>whnf))
  exact dN
 have h2:¬ 3<s.size:=qB h
 ((first|refine rG Γ hm ?_|refine rD Γ hm y_ ?_);(conv=>whnf);repeat((first|refine aF ?_|refine aT ?_);(first|refine rG Γ hm ?_|refine rD Γ hm y_ ?_);conv=>whnf))
 refine⟨fun h=>?_,fun h=>?_⟩
 ·have h3:1<s.size:=qA h
  ((first|refine rG Γ hm ?_|refine rD Γ hm y_ ?_);(conv=>whnf);repeat((first|refine aF ?_|refine aT ?_);(first|refine rG Γ hm ?_|refine rD Γ hm y_ ?_);conv=>whnf))
  refine⟨by decide,by simp;omega,?_⟩
  ((conv=>whnf);repeat((first|refine aF ?_|refine aT ?_);(first|refine rG Γ hm ?_|refine rD Γ hm y_ ?_);conv=>whnf))
  refine⟨fun h=>?_,fun h=>?_⟩
  ·have h4:(A5 s 0).toNat=48:=by have:=h;simp at this;omega
   rw[if_pos (.inr (.inr (.inl ⟨h3,h4⟩)))]at hlk
   subst hlk
   ((first|refine rG Γ hm ?_|refine rD Γ hm y_ ?_);(conv=>whnf);repeat((first|refine aF ?_|refine aT ?_);(first|refine rG Γ hm ?_|refine rD Γ hm y_ ?_);conv=>whnf))
   exact dN
  have h34:¬ (1<s.size∧(A5 s 0).toNat=48):=by
   intro e
   have:=h
   simp at this
   omega
  ((first|refine rG Γ hm ?_|refine rD Γ hm y_ ?_);(conv=>whnf);repeat((first|refine aF ?_|refine aT ?_);(first|refine rG Γ hm ?_|refine rD Γ hm y_ ?_);conv=>whnf))
  refine Bf s.size (fun j=>∀ i,i<j→I1 (A5 s i)=true) (fun j=>[(0,Ae s),(1,Aa most),(6,Aa (Sc s j)),(27,Aa s.size),(28,Aa j)]) (fun _=>[]) [] (fun i hi=>absurd hi j_) ⟨⟨q_,q_,q_,q_,q_,q_,q_,q_,q_,q_,z_⟩,z_,q_,q_⟩ ?_
  intro j hj hI
  have hv:=Abi hI
  have hp:(10:Int) ^ j≤1000:=by
   have:j=0∨j=1∨j=2∨j=3:=by omega
   rcases this with rfl | rfl | rfl | rfl<;>decide
  have hsu:Sc s (j+1)=10 * Sc s j+((A5 s j).toNat-48):=rfl
  have hjn:((j:Nat):Int).toNat=j:=Int.toNat_natCast j
  have hb:=(A5 s j).toNat_lt
  generalize hvj:Sc s j=v at *
  ((first|refine rG Γ hm ?_|refine rD Γ hm y_ ?_);(conv=>whnf);repeat((first|refine aF ?_|refine aT ?_);(first|refine rG Γ hm ?_|refine rD Γ hm y_ ?_);conv=>whnf))
  refine⟨fun h=>?_,fun h=>?_⟩
  ·have hlt:j<s.size:=by simpa using h
   ((first|refine rG Γ hm ?_|refine rD Γ hm y_ ?_);(conv=>whnf);repeat((first|refine aF ?_|refine aT ?_);(first|refine rG Γ hm ?_|refine rD Γ hm y_ ?_);conv=>whnf))
   refine⟨by omega,by simpa using hlt,?_⟩
   rw[hjn]
   ((conv=>whnf);repeat((first|refine aF ?_|refine aT ?_);(first|refine rG Γ hm ?_|refine rD Γ hm y_ ?_);conv=>whnf))
   refine⟨fun h=>?_,fun h=>?_⟩
   ·have h5:¬ 48≤(A5 s j).toNat:=qA h
    rw[if_pos (.inr (.inr (.inr (Uh hlt (by simp only[I1,Bool.and_eq_false_iff,decide_eq_false_iff_not];exact .inl h5)))))]at hlk
    subst hlk
    ((first|refine rG Γ hm ?_|refine rD Γ hm y_ ?_);(conv=>whnf);repeat((first|refine aF ?_|refine aT ?_);(first|refine rG Γ hm ?_|refine rD Γ hm y_ ?_);conv=>whnf))
    exact dN
   have h5:48≤(A5 s j).toNat:=qB h
   ((first|refine rG Γ hm ?_|refine rD Γ hm y_ ?_);(conv=>whnf);repeat((first|refine aF ?_|refine aT ?_);(first|refine rG Γ hm ?_|refine rD Γ hm y_ ?_);conv=>whnf))
   refine⟨by omega,by simpa using hlt,?_⟩
   rw[hjn]
   ((conv=>whnf);repeat((first|refine aF ?_|refine aT ?_);(first|refine rG Γ hm ?_|refine rD Γ hm y_ ?_);conv=>whnf))
   refine⟨fun h=>?_,fun h=>?_⟩
   ·have h6:¬ (A5 s j).toNat≤57:=qA h
    rw[if_pos (.inr (.inr (.inr (Uh hlt (by simp only[I1,Bool.and_eq_false_iff,decide_eq_false_iff_not];exact .inr h6)))))]at hlk
    subst hlk
    ((first|refine rG Γ hm ?_|refine rD Γ hm y_ ?_);(conv=>whnf);repeat((first|refine aF ?_|refine aT ?_);(first|refine rG Γ hm ?_|refine rD Γ hm y_ ?_);conv=>whnf))
    exact dN
   have h6:(A5 s j).toNat≤57:=qB h
   ((first|refine rG Γ hm ?_|refine rD Γ hm y_ ?_);(conv=>whnf);repeat((first|refine aF ?_|refine aT ?_);(first|refine rG Γ hm ?_|refine rD Γ hm y_ ?_);conv=>whnf))
   refine iL ?_
   ((conv=>whnf);repeat((first|refine aF ?_|refine aT ?_);(first|refine rG Γ hm ?_|refine rD Γ hm y_ ?_);conv=>whnf))
   refine⟨by omega,by simpa using hlt,?_⟩
   rw[hjn]
   ((conv=>whnf);repeat((first|refine aF ?_|refine aT ?_);(first|refine rG Γ hm ?_|refine rD Γ hm y_ ?_);conv=>whnf))
   rw[Amy h5 hb,Ao0 j_ j_]
   refine iL ?_
   ((conv=>whnf);repeat((first|refine aF ?_|refine aT ?_);(first|refine rG Γ hm ?_|refine rD Γ hm y_ ?_);conv=>whnf))
   refine iL ?_
   ((conv=>whnf);repeat((first|refine aF ?_|refine aT ?_);(first|refine rG Γ hm ?_|refine rD Γ hm y_ ?_);conv=>whnf))
   refine Bi [] hI j_ (fun i hi=>?_) ⟨⟨q_,q_,q_,q_,congrArg Aa hsu,q_,q_,q_,q_,q_,z_⟩,z_,q_,q_⟩
   by_cases hij:i=j
   ·subst hij;exact digB_iff.2 ⟨h5,h6⟩
   ·exact hI i j_
  ·have:j=s.size:=qB h
   subst this
   rw[if_neg (by rw[Aa5 hI];simp only[h1,h2,false_or,Bool.true_eq_false,or_false];exact h34),hvj]at hlk
   subst hlk
   ((first|refine rG Γ hm ?_|refine rD Γ hm y_ ?_);(conv=>whnf);repeat((first|refine aF ?_|refine aT ?_);(first|refine rG Γ hm ?_|refine rD Γ hm y_ ?_);conv=>whnf))
   exact dN
 ·have h34:¬ (1<s.size∧(A5 s 0).toNat=48):=qB h
  ((first|refine rG Γ hm ?_|refine rD Γ hm y_ ?_);(conv=>whnf);repeat((first|refine aF ?_|refine aT ?_);(first|refine rG Γ hm ?_|refine rD Γ hm y_ ?_);conv=>whnf))
  refine Bf s.size (fun j=>∀ i,i<j→I1 (A5 s i)=true) (fun j=>[(0,Ae s),(1,Aa most),(6,Aa (Sc s j)),(27,Aa s.size),(28,Aa j)]) (fun _=>[]) [] (fun i hi=>absurd hi j_) ⟨⟨q_,q_,q_,q_,q_,q_,q_,q_,q_,q_,z_⟩,z_,q_,q_⟩ ?_
  intro j hj hI
  have hv:=Abi hI
  have hp:(10:Int) ^ j≤1000:=by
   have:j=0∨j=1∨j=2∨j=3:=by omega
   rcases this with rfl | rfl | rfl | rfl<;>decide
  have hsu:Sc s (j+1)=10 * Sc s j+((A5 s j).toNat-48):=rfl
  have hjn:((j:Nat):Int).toNat=j:=Int.toNat_natCast j
  have hb:=(A5 s j).toNat_lt
  generalize hvj:Sc s j=v at *
  ((first|refine rG Γ hm ?_|refine rD Γ hm y_ ?_);(conv=>whnf);repeat((first|refine aF ?_|refine aT ?_);(first|refine rG Γ hm ?_|refine rD Γ hm y_ ?_);conv=>whnf))
  refine⟨fun h=>?_,fun h=>?_⟩
  ·have hlt:j<s.size:=by simpa using h
   ((first|refine rG Γ hm ?_|refine rD Γ hm y_ ?_);(conv=>whnf);repeat((first|refine aF ?_|refine aT ?_);(first|refine rG Γ hm ?_|refine rD Γ hm y_ ?_);conv=>whnf))
   refine⟨by omega,by simpa using hlt,?_⟩
   rw[hjn]
   ((conv=>whnf);repeat((first|refine aF ?_|refine aT ?_);(first|refine rG Γ hm ?_|refine rD Γ hm y_ ?_);conv=>whnf))
   refine⟨fun h=>?_,fun h=>?_⟩
   ·have h5:¬ 48≤(A5 s j).toNat:=qA h
    rw[if_pos (.inr (.inr (.inr (Uh hlt (by simp only[I1,Bool.and_eq_false_iff,decide_eq_false_iff_not];exact .inl h5)))))]at hlk
    subst hlk
    ((first|refine rG Γ hm ?_|refine rD Γ hm y_ ?_);(conv=>whnf);repeat((first|refine aF ?_|refine aT ?_);(first|refine rG Γ hm ?_|refine rD Γ hm y_ ?_);conv=>whnf))
    exact dN
   have h5:48≤(A5 s j).toNat:=qB h
   ((first|refine rG Γ hm ?_|refine rD Γ hm y_ ?_);(conv=>whnf);repeat((first|refine aF ?_|refine aT ?_);(first|refine rG Γ hm ?_|refine rD Γ hm y_ ?_);conv=>whnf))
   refine⟨by omega,by simpa using hlt,?_⟩
   rw[hjn]
   ((conv=>whnf);repeat((first|refine aF ?_|refine aT ?_);(first|refine rG Γ hm ?_|refine rD Γ hm y_ ?_);conv=>whnf))
   refine⟨fun h=>?_,fun h=>?_⟩
   ·have h6:¬ (A5 s j).toNat≤57:=qA h
    rw[if_pos (.inr (.inr (.inr (Uh hlt (by simp only[I1,Bool.and_eq_false_iff,decide_eq_false_iff_not];exact .inr h6)))))]at hlk
    subst hlk
    ((first|refine rG Γ hm ?_|refine rD Γ hm y_ ?_);(conv=>whnf);repeat((first|refine aF ?_|refine aT ?_);(first|refine rG Γ hm ?_|refine rD Γ hm y_ ?_);conv=>whnf))
    exact dN
   have h6:(A5 s j).toNat≤57:=qB h
   ((first|refine rG Γ hm ?_|refine rD Γ hm y_ ?_);(conv=>whnf);repeat((first|refine aF ?_|refine aT ?_);(first|refine rG Γ hm ?_|refine rD Γ hm y_ ?_);conv=>whnf))
   refine iL ?_
   ((conv=>whnf);repeat((first|refine aF ?_|refine aT ?_);(first|refine rG Γ hm ?_|refine rD Γ hm y_ ?_);conv=>whnf))
   refine⟨by omega,by simpa using hlt,?_⟩
   rw[hjn]
   ((conv=>whnf);repeat((first|refine aF ?_|refine aT ?_);(first|refine rG Γ hm ?_|refine rD Γ hm y_ ?_);conv=>whnf))
   rw[Amy h5 hb,Ao0 j_ j_]
   refine iL ?_
   ((conv=>whnf);repeat((first|refine aF ?_|refine aT ?_);(first|refine rG Γ hm ?_|refine rD Γ hm y_ ?_);conv=>whnf))
   refine iL ?_
   ((conv=>whnf);repeat((first|refine aF ?_|refine aT ?_);(first|refine rG Γ hm ?_|refine rD Γ hm y_ ?_);conv=>whnf))
   refine Bi [] hI j_ (fun i hi=>?_) ⟨⟨q_,q_,q_,q_,congrArg Aa hsu,q_,q_,q_,q_,q_,z_⟩,z_,q_,q_⟩
   by_cases hij:i=j
   ·subst hij;exact digB_iff.2 ⟨h5,h6⟩
   ·exact hI i j_
  ·have:j=s.size:=qB h
   subst this
   rw[if_neg (by rw[Aa5 hI];simp only[h1,h2,false_or,Bool.true_eq_false,or_false];exact h34),hvj]at hlk
   subst hlk
   ((first|refine rG Γ hm ?_|refine rD Γ hm y_ ?_);(conv=>whnf);repeat((first|refine aF ?_|refine aT ?_);(first|refine rG Γ hm ?_|refine rD Γ hm y_ ?_);conv=>whnf))
   exact dN
end Go.Sy.YtdkfcckkkfghgaaGreatDoor
namespace Go.Sy.YtdkfcckkkfghgaaGreatDoor
open Go.Proofs
def Qj {α:Type} (l:List α) (j:Nat):List α:=List.ofFn fun i:Fin l.length=>if i.1<j∨l.length-j≤i.1 then l[l.length-1-i.1] else l[i.1]
theorem De {α:Type} (l:List α) (j:Nat):(Qj l j).length=l.length:=by simp[Qj]
theorem Lj {α:Type} (l:List α) (j i:Nat) (h:i<l.length):(Qj l j)[i]'(by rw[De];exact h)=if i<j∨l.length-j≤i then l[l.length-1-i] else l[i]:=by simp[Qj]
theorem Aag {α:Type} (l:List α):Qj l 0=l:=by
 apply List.ext_getElem (De l 0)
 intro i h1 h2
 rw[Lj l 0 i h2,if_neg j_]
theorem Ad7 {α:Type} (l:List α) (j:Nat) (h:l.length≤2 * j+1):Qj l j=l.reverse:=by
 apply List.ext_getElem (by rw[De,List.length_reverse])
 intro i h1 h2
 have hi:i<l.length:=by rw[De]at h1;exact h1
 rw[Lj l j i hi,List.getElem_reverse]
 split
 ·rfl
 ·congr 1;omega
theorem Ala {α:Type} (l:List α) (j:Nat) (h:2 * j+1<l.length) :
  ((Qj l j).set j ((Qj l j)[l.length-1-j]'(by rw[De];omega))).set (l.length-1-j) ((Qj l j)[j]'(by rw[De];omega))=Qj l (j+1):=by
 apply List.ext_getElem (by simp only[List.length_set,De])
 intro i h1 h2
 have hi:i<l.length:=by rw[De]at h2;exact h2
 rw[List.getElem_set,List.getElem_set,Lj l (j+1) i hi,Lj l j i hi,Lj l j _ j_,Lj l j _ j_]
 by_cases e1:l.length-1-j=i
 ·rw[if_pos e1,if_neg j_,if_pos j_]
  congr 1;omega
 ·rw[if_neg e1]
  by_cases e2:j=i
  ·rw[if_pos e2,if_neg j_,if_pos j_]
   congr 1;omega
  ·rw[if_neg e2]
   by_cases e3:i<j∨l.length-j≤i
   ·rw[if_pos e3,if_pos j_]
   ·rw[if_neg e3,if_neg j_]
theorem Aah {α:Type} {l u:List α} {j k:Nat} (hu:Qj l j=u) (h:2 * j+1<l.length) (hk:l.length-1-j=k) (h1:k<u.length) (h2:j<u.length):(u.set j u[k]).set k u[j]=Qj l (j+1):=by
 subst hu hk
 exact Ala l j h
def revDigs (u:Nat):List UInt8:=if u<10 then [UInt8.ofNat (48+u)] else UInt8.ofNat (48+u % 10)::revDigs (u / 10)
theorem K3 (u:Nat):0<(revDigs u).length:=by
 rw[revDigs];split<;>simp
theorem M1:∀ (j u:Nat),j+1<(revDigs u).length↔0<u / 10 ^ (j+1)
 | 0,u=>by
  rw[revDigs]
  split
  ·simp;omega
  ·have:=K3 (u / 10)
   simp only[List.length_cons];omega
 | j+1,u=>by
  rw[revDigs]
  have e:u / 10 ^ (j+1+1)=u / 10 / 10 ^ (j+1):=by rw[Nat.div_div_eq_div_mul,Nat.pow_succ 10 (j+1),Nat.mul_comm (10 ^ (j+1))]
  rw[e]
  split
  ·have:u / 10=0:=by omega
   rw[this];simp
  ·rw[List.length_cons,← M1 j (u / 10)];omega
theorem M2:∀ (j u:Nat) (h:j<(revDigs u).length),(revDigs u)[j]=UInt8.ofNat (48+u / 10 ^ j % 10)
 | 0,u,h=>by
  have e:(revDigs u)[0]=UInt8.ofNat (48+u % 10):=by
   simp only[revDigs.eq_1 u]
   split
   ·show UInt8.ofNat (48+u)=UInt8.ofNat (48+u % 10)
    rw[Nat.mod_eq_of_lt (by assumption)]
   ·rfl
  rw[e];simp
 | j+1,u,h=>by
  have hu:¬ u<10:=fun hu=>by rw[revDigs,if_pos hu]at h;simp at h
  have e0:revDigs u=UInt8.ofNat (48+u % 10)::revDigs (u / 10):=by rw[revDigs.eq_1 u,if_neg hu]
  have e:u / 10 ^ (j+1)=u / 10 / 10 ^ j:=by rw[Nat.div_div_eq_div_mul,Nat.pow_succ,Nat.mul_comm]
  have hl:j<(revDigs (u / 10)).length:=by rw[e0]at h;simpa using h
  have:=M2 j (u / 10) hl
  rw[e,← this]
  simp only[e0,List.getElem_cons_succ]
theorem Dx:∀ (k u:Nat),u<10 ^ k→(revDigs u).length≤k+1
 | 0,u,h=>by rw[revDigs,if_pos (by simp at h;omega)];simp
 | k+1,u,h=>by
  rw[revDigs]
  split
  ·simp
  ·have:=Dx k (u / 10) (by rw[Nat.pow_succ]at h;omega)
   simp only[List.length_cons];omega
def An1 (n:Int):List UInt8:=(revDigs n.natAbs++(if n<0 then [45] else [])).reverse
def Ci (n:Int):ByteArray:=mkT (An1 n)
theorem Ae0 (m:Nat):An1 m=(revDigs m).reverse:=by
 rw[An1,Int.natAbs_natCast,if_neg j_,List.append_nil]
set_option maxRecDepth 20000 in
theorem Anz (m:Nat) (hb:m<9223372036854775808):Sy.Spec Tryz.prog 109 [Aa m] [] (Ae (Ci m)) []:=cT F109 Tryz.ntmps109 fun F hF=>by
 have hpos:=K3 m
 have hlen:=fun j=>M1 j m
 have hget:=fun j=>M2 j m
 have hsh:(revDigs m).length≤20:=Dx 19 m j_
 rw[Ci,Ae0]
 generalize revDigs m=D at *
 ((conv=>whnf);repeat((first|refine aF ?_|refine aT ?_);(first|refine rG Γ hm ?_|refine rD Γ hm y_ ?_);conv=>whnf))
 refine C0 3 1000 1 A3 q_ q_ ?_
 refine Dj D.length (fun j=>[(0,Aa m),(3,.osl 1000),(4,Dp (m / 10 ^ j:Nat)),(5,Ab (decide (j<D.length)))]) (fun j=>[(1000,.row 1 A3 (D.take j))]) []
  ⟨⟨rfl,rfl,rfl,rfl,congrArg (fun z=>SV.val (.int .u64 z)) (by rw[IntKind.wrap_u64];omega),rfl,congrArg Ab (decide_eq_true hpos),rfl,trivial⟩,⟨.inl rfl,rfl,trivial⟩,rfl,rfl⟩ ?_
 intro j hj
 ((first|refine rG Γ hm ?_|refine rD Γ hm y_ ?_);(conv=>whnf);repeat((first|refine aF ?_|refine aT ?_);(first|refine rG Γ hm ?_|refine rD Γ hm y_ ?_);conv=>whnf))
 refine⟨fun h=>?_,fun h=>?_⟩
 ·have hlt:j<D.length:=of_decide_eq_true h
  have hgj:=hget j hlt
  have hlj:=hlen j
  have e:m / 10 ^ (j+1)=m / 10 ^ j / 10:=by rw[Nat.div_div_eq_div_mul,Nat.pow_succ]
  have hq:m / 10 ^ j≤m:=Nat.div_le_self _ _
  rw[e]at hlj
  ((first|refine rG Γ hm ?_|refine rD Γ hm y_ ?_);(conv=>whnf);repeat((first|refine aF ?_|refine aT ?_);(first|refine rG Γ hm ?_|refine rD Γ hm y_ ?_);conv=>whnf))
  refine⟨by decide,?_⟩
  ((conv=>whnf);repeat((first|refine aF ?_|refine aT ?_);(first|refine rG Γ hm ?_|refine rD Γ hm y_ ?_);conv=>whnf))
  refine Cj (Aj Γ.toTy 23 q_ q_ q_ q_ q_ (.row q_) (.lit (l:=[D[j]]) q_ ?_) qe ?_ ?_) q_ q_ ?_
  ·rw[hgj]
   simp only[List.map_cons,List.map_nil,A3]
   congr 3
   generalize m / 10 ^ j=q at *
   rw[Int.tmod_eq_emod_of_nonneg (Int.natCast_nonneg _),IntKind.wrap_u64,IntKind.wrap_u8]
   simp
  ·simp;omega
  ·simp;omega
  ((first|refine rG Γ hm ?_|refine rD Γ hm y_ ?_);(conv=>whnf);repeat((first|refine aF ?_|refine aT ?_);(first|refine rG Γ hm ?_|refine rD Γ hm y_ ?_);conv=>whnf))
  refine⟨by decide,?_⟩
  ((conv=>whnf);repeat((first|refine aF ?_|refine aT ?_);(first|refine rG Γ hm ?_|refine rD Γ hm y_ ?_);conv=>whnf))
  refine Dl [(1000,23)] hlt ⟨⟨q_,q_,q_,q_,congrArg (fun z=>SV.val (.int .u64 z)) ?_,q_,congrArg Ab ?_,q_,z_⟩,⟨.inl (congrArg (Ob.row 1 A3) (List.take_succ_eq_append_getElem hlt)),q_,z_⟩,q_,q_⟩
  ·rw[e,Int.tdiv_eq_ediv_of_nonneg (Int.natCast_nonneg _),IntKind.wrap_u64]
   generalize m / 10 ^ j=q at *
   omega
  ·rw[Int.tdiv_eq_ediv_of_nonneg (Int.natCast_nonneg _),IntKind.wrap_u64]
   generalize m / 10 ^ j=q at *
   refine decide_eq_decide.2 ?_
   omega
 ·have:j=D.length:=qB h
  subst this
  rw[List.take_length]
  ((first|refine rG Γ hm ?_|refine rD Γ hm y_ ?_);(conv=>whnf);repeat((first|refine aF ?_|refine aT ?_);(first|refine rG Γ hm ?_|refine rD Γ hm y_ ?_);conv=>whnf))
  refine iL ?_
  ((conv=>whnf);repeat((first|refine aF ?_|refine aT ?_);(first|refine rG Γ hm ?_|refine rD Γ hm y_ ?_);conv=>whnf))
  refine Dj (D.length / 2) (fun j=>[(3,.osl 1000),(6,Aa j),(7,Aa (D.length-1-j:Nat))]) (fun j=>[(1000,.row 1 A3 (Qj D j))]) []
   ⟨⟨rfl,rfl,rfl,rfl,congrArg (fun z=>SV.val (.int .i64 z)) j_,rfl,trivial⟩,⟨.inl (congrArg (Ob.row 1 A3) (Aag D)),rfl,trivial⟩,rfl,rfl⟩ ?_
  intro i hi
  have hul:=De D i
  ((first|refine rG Γ hm ?_|refine rD Γ hm y_ ?_);(conv=>whnf);repeat((first|refine aF ?_|refine aT ?_);(first|refine rG Γ hm ?_|refine rD Γ hm y_ ?_);conv=>whnf))
  refine⟨fun h2=>?_,fun h2=>?_⟩
  ·have hlt:2 * i+1<D.length:=by have:=of_decide_eq_true h2;omega
   obtain ⟨u,hu⟩:∃ u,Qj D i=u:=⟨_,rfl⟩
   obtain ⟨k,hk⟩:∃ k,D.length-1-i=k:=⟨_,rfl⟩
   rw[hu]at hul
   have hs:=Aah hu hlt hk j_ j_
   rw[hu,hk]
   ((first|refine rG Γ hm ?_|refine rD Γ hm y_ ?_);(conv=>whnf);repeat((first|refine aF ?_|refine aT ?_);(first|refine rG Γ hm ?_|refine rD Γ hm y_ ?_);conv=>whnf))
   refine⟨by omega,by omega,?_⟩
   ((conv=>whnf);repeat((first|refine aF ?_|refine aT ?_);(first|refine rG Γ hm ?_|refine rD Γ hm y_ ?_);conv=>whnf))
   refine⟨q_,by omega,?_⟩
   ((conv=>whnf);repeat((first|refine aF ?_|refine aT ?_);(first|refine rG Γ hm ?_|refine rD Γ hm y_ ?_);conv=>whnf))
   refine⟨by omega,by omega,?_⟩
   ((conv=>whnf);repeat((first|refine aF ?_|refine aT ?_);(first|refine rG Γ hm ?_|refine rD Γ hm y_ ?_);conv=>whnf))
   refine⟨q_,by omega,?_⟩
   ((conv=>whnf);repeat((first|refine aF ?_|refine aT ?_);(first|refine rG Γ hm ?_|refine rD Γ hm y_ ?_);conv=>whnf))
   refine⟨by omega,by omega,?_⟩
   ((conv=>whnf);repeat((first|refine aF ?_|refine aT ?_);(first|refine rG Γ hm ?_|refine rD Γ hm y_ ?_);conv=>whnf))
   refine⟨q_,by omega,u[k],q_,q_,?_⟩
   ((conv=>whnf);repeat((first|refine aF ?_|refine aT ?_);(first|refine rG Γ hm ?_|refine rD Γ hm y_ ?_);conv=>whnf))
   refine⟨by omega,by simp;omega,?_⟩
   ((conv=>whnf);repeat((first|refine aF ?_|refine aT ?_);(first|refine rG Γ hm ?_|refine rD Γ hm y_ ?_);conv=>whnf))
   refine⟨q_,by simp;omega,u[i],q_,q_,?_⟩
   ((conv=>whnf);repeat((first|refine aF ?_|refine aT ?_);(first|refine rG Γ hm ?_|refine rD Γ hm y_ ?_);conv=>whnf))
   refine⟨y_,?_⟩
   ((conv=>whnf);repeat((first|refine aF ?_|refine aT ?_);(first|refine rG Γ hm ?_|refine rD Γ hm y_ ?_);conv=>whnf))
   refine iL ?_
   ((conv=>whnf);repeat((first|refine aF ?_|refine aT ?_);(first|refine rG Γ hm ?_|refine rD Γ hm y_ ?_);conv=>whnf))
   refine iL ?_
   ((conv=>whnf);repeat((first|refine aF ?_|refine aT ?_);(first|refine rG Γ hm ?_|refine rD Γ hm y_ ?_);conv=>whnf))
   refine Dl [] j_ ⟨⟨q_,q_,q_,q_,congrArg (fun z=>SV.val (.int .i64 z)) j_,q_,z_⟩,⟨.inl (congrArg (Ob.row 1 A3) hs.symm),q_,z_⟩,q_,q_⟩
  ·have h3:D.length≤2 * i+1:=by have:=of_decide_eq_false h2;omega
   rw[Ad7 D i h3]
   ((first|refine rG Γ hm ?_|refine rD Γ hm y_ ?_);(conv=>whnf);repeat((first|refine aF ?_|refine aT ?_);(first|refine rG Γ hm ?_|refine rD Γ hm y_ ?_);conv=>whnf))
   refine Cj (Ee Γ.toTy (bs:=D.reverse) q_ q_ q_ q_ q_ q_ q_ (.row q_)) q_ q_ ?_
   ((first|refine rG Γ hm ?_|refine rD Γ hm y_ ?_);(conv=>whnf);repeat((first|refine aF ?_|refine aT ?_);(first|refine rG Γ hm ?_|refine rD Γ hm y_ ?_);conv=>whnf))
   exact dN
end Go.Sy.YtdkfcckkkfghgaaGreatDoor
namespace Go.Sy.YtdkfcckkkfghgaaGreatDoor
open Go.Proofs
attribute [local irreducible] Go.Sy.G Go.Sy.DR
set_option maxRecDepth 20000
set_option maxHeartbeats 4000000
theorem Apd {n:Net} (h:Ah n=true) {i:Nat} (hi:i<n.ports.length):Lk n i n.ports[i]=true:=by
 simp only[Ah,Bool.and_eq_true]at h
 exact allB_iff.1 h.1.1.1.1.1.2 i hi
theorem Ape {n:Net} (h:Ah n=true):n.devices.length≤8∧n.ports.length≤40∧n.links.length≤20∧n.domains.length≤48∧n.irbs.length≤48:=by
 simp only[Ah,Afy,Bool.and_eq_true,decide_eq_true_eq]at h
 omega
end Go.Sy.YtdkfcckkkfghgaaGreatDoor
