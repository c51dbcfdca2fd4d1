/- Parts of a proof. -/
import Derived.Test.YtedbfemmehbeoaaGreatDoorXC2
import Derived.Test.YtedbfemmehbeoaaGreatDoorProg
import Derived.Shelf.Strings.OnBuilder
import Derived.Shelf.Small.Strs
import Derived.Shelf.Strings.Cut
import Derived.Shelf.Strings.Count
import Derived.Shelf.Strings.Prefix
set_option maxHeartbeats 4000000
set_option linter.all false
namespace Go.Sy
inductive Axb{α:Type}(s:SS)(sz:Nat)(e:α->SV):SV->List Nat->List α->Prop
 |sl {l:List α}:Axb s sz e (.sl sz e l) [] l
 |row {k:Nat} {l:List α} (h:s.h k=.row sz e l):Axb s sz e (.osl k) [k] l
 |lit {k:Nat} {l:List α} {svs:List SV} (h:s.h k=.lit sz svs) (hl:l.map e=svs):Axb s sz e (.osl k) [k] l
 |nil:Axb s sz e (.val (.slice none 0 0)) [] []
inductive Agy{α:Type}(s:SS)(sz:Nat)(e:α->SV):SV->Option Nat->List α->Prop
 |nil:Agy s sz e (.val (.slice none 0 0)) none []
 |row {k:Nat} {l:List α} (h:s.h k=.row sz e l):Agy s sz e (.osl k) (some k) l
 |lit {k:Nat} {l:List α} {svs:List SV} (h:s.h k=.lit sz svs) (hl:l.map e=svs):Agy s sz e (.osl k) (some k) l
theorem Axb.src{a:Type}{s:SS}{sz:Nat}{e:a->SV}{x:SV}{p:List Nat}{m:List a}(h:Axb s sz e x p m):∃g,Tl s sz x p m.length g/\∀i x,U9 e m i x->g i x:=by
 cases h with
 |sl=>exact⟨_,.sl,λ_ _ h=>h⟩
 |row h=>exact⟨_,.row h,λ_ _ h=>h⟩
 | @lit k _ j h l=>exact⟨Al6 j,by have:=Tl.lit (sz:=sz) h;rwa [<-l,yS,l]at this,λi x o=>Yi l i x o⟩
 |nil=>exact⟨_,.nil,λi x o=>by obtain ⟨h,_⟩:=o;simp at h⟩
theorem Agy.base{a:Type}{s:SS}{sz:Nat}{e:a->SV}{x:SV}{k:Option Nat}{m:List a}(h:Agy s sz e x k m):∃g,Xt s sz x k m.length g/\∀i x,U9 e m i x->g i x:=by
 cases h with
 |row h=>exact⟨_,.row h,λ_ _ h=>h⟩
 | @lit k _ j h l=>exact⟨Al6 j,by have:=Xt.lit (sz:=sz) h;rwa [<-l,yS,l]at this,λi x o=>Yi l i x o⟩
 |nil=>exact⟨_,.nil,λi x o=>by obtain ⟨h,_⟩:=o;simp at h⟩
def Ah{P:Program}(Γ:Ty P){o:Oper}{s:SS}(d:Nat){b:Type}{e:b->SV}{l m:List b}{t:TypeId}{r:TI}{et:TypeId}{sz I:Nat}{J:List Value}{x y:Operand}{k:Option Nat}{R:List Nat}(h:o.op=.call ⟨.builtin .append,#[x,y],#[t,t]⟩)(hd:s.h d=.fresh)(ht:Γ.get t=some r)(hk:r.k=.slice et sz I J)(nq:J.length=sz)(i:Agy s sz e (ev s x) k l)(p:Axb s sz e (ev s y) R m)(pp:∀j,k=some j->j≠d)(bz:(l.length+m.length)*I<=140737488355328)(pn:l.length+m.length<=9223372036854775807):Good P o s ⟨.osl d,R,O9 k d (.row sz e (l++m))⟩:=by
 obtain ⟨f,i,hf⟩:=i.base;obtain ⟨g,p,hg⟩:=p.src;exact Agd Γ h hd ht hk nq i p pp bz pn λa w hr=>Aw1 hr qx (Atb hf hg)
def Cz{P:Program}(Γ:Ty P){o:Oper}{s:SS}{src dst:TypeId}{l p r:TI}{x:Operand}{et:TypeId}{I:Nat}{J:List Value}{t:List Nat}{bs:List UInt8}(h:o.op=.convert src dst x)(R:Γ.get src=some l)(zu:l.k=.slice et 1 I J)(he:Γ.get et=some r)(w7:r.k=.int .u8)(hd:Γ.get dst=some p)(xa:p.k=.string)(j:Axb s 1 Ae (ev s x) t bs):Good P o s ⟨Ap ⟨bs.toArray⟩,t,[]⟩:=by
 obtain ⟨g,j,hg⟩:=j.src;exact Ac0 Γ bs h R zu he w7 hd xa j q_ (λi hi=>hg i _ ⟨hi,q_⟩)
def A2b{C:Cx}{t:List KI}{s:SS}(k d:Nat)(r:List Nat){sz:Nat}{c:Type}{e:c->SV}{l:List c}(h:s.h k=.row sz e l)(hd:s.h d=.fresh)(cd:k≠d)(hr:∀i∈r,s.σ i=.osl k)(hg:G C t ⟨freezeσ s.σ (.osl d) r,upd (upd s.h k .non) d (.row sz e l)⟩):G C t s:=λm a w g=>by
 have J:=g.obj k;rw[h]at J;have R:m d=.new:=by have:=g.obj d;rwa [hd]at this
 have fin:∀m':Ka,En (λj=>j=k\/j=d) m w m' w->Inv m' w->(∀v,Rd m w (.osl k) v->Rd m' w (.osl d) v)->B3 m' w d (.row sz e l)->den C.P C.B t .normal a w:=by
  intro m' st inv p ho;refine hg m' a w ⟨g.defers,g.size,inv,g.ctx.step inv st,λj=>?_,λj=>?_⟩
  .refine freezeσ_ok r _ j (Rd.step st _ _ (g.ax j)) (λo=>p _ ?_);have:=g.ax j;rwa [hr j o]at this
  .show B3 _ w j (upd (upd s.h k .non) d (.row sz e l) j);by_cases o:j=d
   .subst o;rw[C2];exact ho
   .rw[D7 _ _ o];by_cases I:j=k
    .subst I;rw[C2];trivial
    .rw[D7 _ _ I];exact B3.step st (λe=>e.elim I o) _ (g.obj j)
 rcases J with ⟨h1,rfl⟩|⟨b,cap,cs,T,fr,e1,e2,e3,e4,e5,e6⟩
 .have st:=Lm (Oz g.inv (some k)) (by show H4 m k .dead d=.new;rw[C4 _ _ (Ne.symm cd)];exact R) (e:=.nil) (Kb.refl w) (λb hb=>by cases hb);refine fin _ (((Lx (some k)).weaken (λj o=>.inl (Option.some.inj o).symm)).trans (st.1.weaken (λj o=>.inr o))) st.2 (λv p=>?_) (.inl ⟨Az _ _ _,q_⟩);simp only[Rd,h1]at p;simp[Rd,Az,p]
 .obtain ⟨st,inv⟩:=Vm (n':=l.length) (w':=w) g.inv e1 R rfl rfl rfl rfl (λ_ _=>rfl);refine fin _ st inv (λv p=>?_) (.inr ⟨b,cap,cs,T,fr,Az _ _ _,e2,e3,e4,e5,λi x hx=>?_⟩)
  .simp only[Rd,e1]at p;simp[Rd,Az,p]
  .obtain ⟨q1,u,q2,q3⟩:=e6 i x hx;exact⟨q1,u,D3.keep st.keeps _ _ q2,q3⟩
mutual
def frz(d:Nat)(x:SV):SV->SV
 | .osl k=>bif Nat.beq k d then x else .osl k
 | .agg l=>.agg (Aj5 d x l)
 | .tup l=>.tup (Aj5 d x l)
 | .ifc t y=>.ifc t (frz d x y)
 | .clo f g l=>.clo f (Aj5 d x g) (Aj5 d x l)
 |y=>y
def Aj5(d:Nat)(x:SV):List SV->List SV
 |[]=>[]
 |y::l=>frz d x y::Aj5 d x l
end
mutual
theorem Aq5{a a':Ka}{w:World}{K:Nat->Prop}{d:Nat}{x:SV}(st:En K a w a' w)(r:∀v,Rd a w (.osl d) v->Rd a' w x v):∀(y:SV) (v:Value),Rd a w y v->Rd a' w (frz d x y) v
 | .osl k,v,h=>by
  unfold frz;by_cases J:k=d
  .subst J;rw[show Nat.beq k k=true from tT k];exact r v h
  .rw[show Nat.beq k d=false from by cases R:Nat.beq k d with|false=>rfl|true=>exact zW (yN R) J];exact Rd.step st _ _ h
 | .agg l,v,h=>by
  simp only[Rd]at h;unfold frz;simp only[Rd];obtain ⟨cs,j,I,p⟩:=h;exact⟨cs,j,I,Sl st r l cs p⟩
 | .tup l,v,h=>by
  simp only[Rd]at h;unfold frz;simp only[Rd];obtain ⟨cs,j,p⟩:=h;exact⟨cs,j,Sl st r l cs p⟩
 | .ifc t y,v,h=>by
  simp only[Rd]at h;unfold frz;simp only[Rd];obtain ⟨u,j,p⟩:=h;exact⟨u,j,Aq5 st r y u p⟩
 | .clo f g l,v,h=>by
  simp only[Rd]at h;unfold frz;simp only[Rd];obtain ⟨P,cs,j,I,p⟩:=h;exact⟨P,cs,j,Sl st r g P I,Sl st r l cs p⟩
 | .top,v,h=>by unfold frz;exact Rd.step st _ _ h
 | .val u,v,h=>by unfold frz;exact Rd.step st _ _ h
 | .sl sz e l,v,h=>by unfold frz;exact Rd.step st _ _ h
 | .ref sz z o,v,h=>by unfold frz;exact Rd.step st _ _ h
 | .ptr k o,v,h=>by unfold frz;exact Rd.step st _ _ h
 | .rpt k sz i o,v,h=>by unfold frz;exact Rd.step st _ _ h
theorem Sl{k k':Ka}{w:World}{K:Nat->Prop}{d:Nat}{x:SV}(st:En K k w k' w)(g:∀v,Rd k w (.osl d) v->Rd k' w x v):∀(l:List SV) (vs:List Value),B8 k w l vs->B8 k' w (Aj5 d x l) vs
 |[],vs,h=>by
  unfold Aj5;simpa [B8] using h
 |y::l,vs,h=>by
  simp only[B8]at h;unfold Aj5;simp only[B8];obtain ⟨v,r,i,j,o⟩:=h;exact⟨v,r,i,Aq5 st g y v j,Sl st g l r o⟩
end
def A7f(d:Nat)(x:SV):Ob->Ob
 | .box l=>.box (Aj5 d x l)
 | .rown sz e l i g=>.rown sz e l i (Aj5 d x g)
 | .tbox T l=>.tbox T (Aj5 d x l)
 |o=>o
def Ao{C:Cx}{k:List KI}{s:SS}(d:Nat){sz:Nat}{f:Type}{e:f->SV}{l:List f}(h:s.h d=.row sz e l)(hg:G C k ⟨λi=>frz d (.sl sz e l) (s.σ i),λj=>bif Nat.beq j d then .non else A7f d (.sl sz e l) (s.h j)⟩):G C k s:=λc a w o=>by
 have cz:=o.obj d;rw[h]at cz;have st:=Lx (κ:=c) (w:=w) (some d);have inv:=Oz o.inv (some d);have R:∀v,Rd c w (.osl d) v->Rd (H4 c d .dead) w (.sl sz e l) v:=λv hv=>by
  rcases cz with ⟨h1,rfl⟩|h1
  .simp only[Rd,h1]at hv;simp only[Rd,D3];exact .inl ⟨by simp,none,0,hv⟩
  .refine h1.freeze hv st.keeps.out (λb g=>⟨o.inv.bf d b g,?_⟩);rintro (⟨q,r⟩|r)
   .by_cases uy:q=d
    .subst uy;rw[Az]at r;cases r
    .rw[C4 _ _ uy]at r;exact uy (o.inv.inj q d b r g)
   .exact o.inv.apart d b g r
 refine hg (H4 c d .dead) a w ⟨o.defers,o.size,inv,o.ctx.step inv st,λj=>Aq5 st R _ _ (o.ax j),λj=>?_⟩;show B3 _ w j (bif Nat.beq j d then .non else A7f d (.sl sz e l) (s.h j));by_cases t:j=d
 .subst t;rw[show Nat.beq j j=true from tT j];trivial
 .rw[show Nat.beq j d=false from by cases g:Nat.beq j d with|false=>rfl|true=>exact zW (yN g) t];have g:=B3.step st (λe=>t (Option.some.inj e).symm) _ (o.obj j);have I:=o.obj j;show B3 _ w j (A7f d (.sl sz e l) (s.h j));cases p:s.h j with
  |box m=>
   rw[p]at I g;obtain ⟨b,cs,T,fr,e1,e2,e3,e4,e5⟩:=I;exact⟨b,cs,T,fr,by show H4 c d .dead j=_;rw[C4 _ _ t];exact e1,e2,e3,e4,Sl st R m cs e5⟩
  |tbox T m=>
   rw[p]at I g;obtain ⟨b,cs,fr,e1,e2,e3,e4,e5⟩:=I;exact⟨b,cs,fr,by show H4 c d .dead j=_;rw[C4 _ _ t];exact e1,e2,e3,e4,Sl st R m cs e5⟩
  |fresh=>rw[p]at g;exact g
  |non=>rw[p]at g;exact g
  |row J e' l'=>rw[p]at g;exact g
  |lit J a1=>rw[p]at g;exact g
  |glob J x' g'=>rw[p]at g;exact g
  |pin b' n' dy J e' l'=>rw[p]at g;exact g
  |dat v' J e' l'=>rw[p]at g;exact g
  |trow T' m'=>rw[p]at g;exact g
  |rown J e' l' i' a0=>
   rw[p]at I;obtain ⟨b2,pf,wa,T2,xm,f1,f2,f3,f4,f5,f6,f7,P,v1,v2,v3,v4⟩:=I;refine⟨b2,pf,wa,T2,xm,by show H4 c d .dead j=_;rw[C4 _ _ t];exact f1,f2,f3,f4,f5,λm y hm hy=>?_,f7,P,v1,v2,Sl st R a0 P v3,v4⟩;obtain ⟨g0,u,g1,g2⟩:=f6 m y hm hy;exact⟨g0,u,D3.keep st.keeps _ _ g1,g2⟩
def Apd(C:Cx)(n:Nat)(I:Nat->Prop)(L:Nat->List (Nat×SV))(O:Nat->It)(i:Nat)(a:Act)(w:World):Prop :=
 ∃g:{j:Nat // j<=n/\I j},∃k,n-g.1<n-i/\St C.F C.n (mkS (L g.1) (O g.1)) k a w
def Bb{C:Cx}{k:List KI}{s:SS}{body:Code}(n:Nat)(I:Nat->Prop)(L:Nat->List (Nat×SV))(O:Nat->It)(a:List (Nat×Nat))(g:I 0)(l:Sub C s a (L 0) (O 0))(h:∀i,i<=n->I i->G C (.code body::.inv (Apd C n I L O i)::k) (mkS (L i) (O i))):G C (.code (.loop body)::k) s :=
 eW (α:={j:Nat // j<=n/\I j}) (λx=>L x.1) (λx=>O x.1) (λx=>n-x.1) ⟨0,xV _,g⟩ a l (λx=>h x.1 x.2.1 x.2.2)
def A6{C:Cx}{k:List KI}{s:SS}{n:Nat}{I:Nat->Prop}{L:Nat->List (Nat×SV)}{O:Nat->It}{i:Nat}(a:List (Nat×Nat))(g:I i)(hi:i+1<=n)(l:I (i+1))(o:Sub C s a (L (i+1)) (O (i+1))):G C (.inv (Apd C n I L O i)::k) s :=
 oA (α:={j:Nat // j<=n/\I j}) (L:=λx=>L x.1) (O:=λx=>O x.1) (μ:=λx=>n-x.1) (x:=⟨i,by omega,g⟩) ⟨i+1,hi,l⟩ a (by simp only;omega) o
mutual
def frb(d sz:Nat)(x:SV):SV->SV
 | .ptr k o=>bif Nat.beq k d then .ref sz x o else .ptr k o
 | .agg l=>.agg (Aq7 d sz x l)
 | .tup l=>.tup (Aq7 d sz x l)
 | .ifc t y=>.ifc t (frb d sz x y)
 | .clo f g l=>.clo f (Aq7 d sz x g) (Aq7 d sz x l)
 |y=>y
def Aq7(d sz:Nat)(x:SV):List SV->List SV
 |[]=>[]
 |y::l=>frb d sz x y::Aq7 d sz x l
end
mutual
theorem A03{a a':Ka}{w:World}{K:Nat->Prop}{d sz:Nat}{x:SV}(st:En K a w a' w)(r:∀o v,Rd a w (.ptr d o) v->Rd a' w (.ref sz x o) v):∀(y:SV) (v:Value),Rd a w y v->Rd a' w (frb d sz x y) v
 | .ptr k o,v,h=>by
  unfold frb;by_cases J:k=d
  .subst J;rw[show Nat.beq k k=true from tT k];exact r o v h
  .rw[show Nat.beq k d=false from by cases R:Nat.beq k d with|false=>rfl|true=>exact zW (yN R) J];exact Rd.step st _ _ h
 | .agg l,v,h=>by
  simp only[Rd]at h;unfold frb;simp only[Rd];obtain ⟨cs,j,I,p⟩:=h;exact⟨cs,j,I,fQ st r l cs p⟩
 | .tup l,v,h=>by
  simp only[Rd]at h;unfold frb;simp only[Rd];obtain ⟨cs,j,p⟩:=h;exact⟨cs,j,fQ st r l cs p⟩
 | .ifc t y,v,h=>by
  simp only[Rd]at h;unfold frb;simp only[Rd];obtain ⟨u,j,p⟩:=h;exact⟨u,j,A03 st r y u p⟩
 | .clo f g l,v,h=>by
  simp only[Rd]at h;unfold frb;simp only[Rd];obtain ⟨P,cs,j,I,p⟩:=h;exact⟨P,cs,j,fQ st r g P I,fQ st r l cs p⟩
 | .top,v,h=>by unfold frb;exact Rd.step st _ _ h
 | .val u,v,h=>by unfold frb;exact Rd.step st _ _ h
 | .sl sz e l,v,h=>by unfold frb;exact Rd.step st _ _ h
 | .ref sz z o,v,h=>by unfold frb;exact Rd.step st _ _ h
 | .rpt k sz i o,v,h=>by unfold frb;exact Rd.step st _ _ h
 | .osl k,v,h=>by unfold frb;exact Rd.step st _ _ h
theorem fQ{k k':Ka}{w:World}{K:Nat->Prop}{d sz:Nat}{x:SV}(st:En K k w k' w)(g:∀o v,Rd k w (.ptr d o) v->Rd k' w (.ref sz x o) v):∀(l:List SV) (vs:List Value),B8 k w l vs->B8 k' w (Aq7 d sz x l) vs
 |[],vs,h=>by
  unfold Aq7;simpa [B8] using h
 |y::l,vs,h=>by
  simp only[B8]at h;unfold Aq7;simp only[B8];obtain ⟨v,r,i,j,p⟩:=h;exact⟨v,r,i,A03 st g y v j,fQ st g l r p⟩
end
def frbO(d sz:Nat)(x:SV):Ob->Ob
 | .box l=>.box (Aq7 d sz x l)
 |o=>o
def A1x{k k':Ka}{w:World}{d sz:Nat}{l:List SV}{x:SV}(h:B3 k w d (.box l))(i:cellsOf x=l)(I:x.boxed=true)(_hd:Y6 l=true)(J:l.length=sz)(P:∀b,b<w.heap.size->¬Own k b->¬Own k' b)(R:∀b,(k d).block? = some b->b<w.heap.size/\¬Own k' b)(tm:x.data=true)(o:Nat)(v:Value)(p:Rd k w (.ptr d o) v):Rd k' w (.ref sz x o) v:=by
 obtain ⟨b,cs,T,fr,r,e2,e3,t,g⟩:=h;simp only[Rd,r]at p;obtain ⟨h1,h2⟩:=R b (by rw[r];rfl);rw[<-i]at g;obtain ⟨u,f1,f2⟩:=Rd.of_cells I t g;simp only[Rd,D3];refine⟨b,0,u,by rw[xU];exact p,h2,h1,D3.keep ⟨yG _,λ_ _ _=>rfl,P⟩ _ _ (Rd.data _ _ tm f1),?_,by rw[f2];exact t,λj hj=>?_⟩
 .have:=g.length;rw[<-J,<-i,<-this,<-f2];simp
 .rw[xU,cell_of_row w b _ cs.toArray T fr e2,<-f2]
def Bi{C:Cx}{k:List KI}{s:SS}(d sz:Nat)(x:SV){l:List SV}(h:s.h d=.box l)(hl:cellsOf x=l)(hc:(x.boxed&&x.data&&Y6 l&&Nat.beq l.length sz)=true)(hg:G C k ⟨λi=>frb d sz x (s.σ i),λj=>bif Nat.beq j d then .non else frbO d sz x (s.h j)⟩):G C k s:=λc a w p=>by
 simp only[zG]at hc;obtain ⟨⟨⟨g,tm⟩,hd⟩,P⟩:=hc;have P:=yN P;have cz:=p.obj d;rw[h]at cz;have st:=Lx (κ:=c) (w:=w) (some d);have inv:=Oz p.inv (some d);have hx:∀o v,Rd c w (.ptr d o) v->Rd (H4 c d .dead) w (.ref sz x o) v:=λo v hv=>
  A1x cz hl g hd P st.keeps.out (λ b g=>⟨p.inv.bf d b g,by
   rintro (⟨q,t⟩|t)
   .by_cases R:q=d
    .subst R;change (H4 c q .dead q).block? = some b at t;rw[Az]at t;cases t
    .change (H4 c d .dead q).block? = some b at t;rw[C4 _ _ R]at t;exact R (p.inv.inj q d b t g)
   .exact p.inv.apart d b g t⟩) tm o v hv
 refine hg (H4 c d .dead) a w ⟨p.defers,p.size,inv,p.ctx.step inv st,λj=>A03 st hx _ _ (p.ax j),λj=>?_⟩;show B3 _ w j (bif Nat.beq j d then .non else frbO d sz x (s.h j));by_cases J:j=d
 .subst J;rw[show Nat.beq j j=true from tT j];trivial
 .rw[show Nat.beq j d=false from by cases g:Nat.beq j d with|false=>rfl|true=>exact zW (yN g) J];have g:=B3.step st (λe=>J (Option.some.inj e).symm) _ (p.obj j);have h0:=p.obj j;show B3 _ w j (frbO d sz x (s.h j));cases r:s.h j with
  |box m=>
   rw[r]at h0 g;obtain ⟨b,cs,T,fr,e1,e2,e3,e4,e5⟩:=h0;exact⟨b,cs,T,fr,by show H4 c d .dead j=_;rw[C4 _ _ J];exact e1,e2,e3,e4,fQ st hx m cs e5⟩
  |fresh=>rw[r]at g;exact g
  |non=>rw[r]at g;exact g
  |row I e' l'=>rw[r]at g;exact g
  |lit I a0=>rw[r]at g;exact g
  |glob I x' g'=>rw[r]at g;exact g
  |pin b' n' dy I e' l'=>rw[r]at g;exact g
  |dat v' I e' l'=>rw[r]at g;exact g
  |trow T' m'=>rw[r]at g;exact g
  |rown I e' l' i' a1=>rw[r]at g;exact g
  |tbox T' m'=>rw[r]at g;exact g
def Ar{C:Cx}{k:List KI}{s:SS}(d sz:Nat){b:Type}(e:b->SV)(h:s.σ d=.val (.slice none 0 0))(i:G C k ⟨upd s.σ d (.sl sz e []),s.h⟩):G C k s :=
 G_set d (λ a w v g=>by
  rw[h]at g;simp only[Rd]at g;simp only[Rd,D3];exact .inl ⟨z_,none,0,g⟩) i
end Go.Sy
namespace Go.Sy.Zaa
open Go.Proofs Go.Proofs.Tryz
set_option maxRecDepth 100000
def ndO{a:Type}{f:Nat->Option a}{k:Nat}{v:a}{l r:Tr a}(h:f k=some v)(g:l.all (λt i=>f t=some i))(j:r.all (λt i=>f t=some i)):(Tr.nd k v l r).all (λt i=>f t=some i):=⟨h,g,j⟩
abbrev Ag:Value:=.int .i64 0
abbrev Aw:Value:=.slice none 0 0
abbrev J8:Value:=.string .empty
def tab:Tr TI:=(.nd 200 (⟨.func,1,[.nilFunc]⟩) (.nd 95 (⟨.int .u32,1,[.int .u32 0]⟩) (.nd 34 (⟨.slice 221 5 40 [Ag,Ag,Ag,.int .u32 0,Ag],1,[Aw]⟩) (.nd 24 (⟨.slice 9 1 16 [J8],1,[Aw]⟩) (.nd 5 (⟨.int .u8,1,[.int .u8 0]⟩) (.nd 3 (⟨.int .i64,1,[Ag]⟩) (.nd 2 (⟨.int .i64,1,[Ag]⟩) (.nd 1 (⟨.func,1,[.nilFunc]⟩) .lf .lf) .lf) (.nd 4 (⟨.bool,1,[.bool false]⟩) .lf .lf)) (.nd 20 (⟨.iface,1,[.nilIface]⟩) (.nd 9 (⟨.string,1,[J8]⟩) .lf .lf) (.nd 22 (⟨.slice 5 1 1 [.int .u8 0],1,[Aw]⟩) .lf .lf))) (.nd 30 (⟨.slice 101 6 64 [Ag,Ag,Ag,Ag,Ag,Aw],1,[Aw]⟩) (.nd 28 (⟨.slice 99 7 80 [Ag,Ag,Ag,Ag,Ag,J8,Aw],1,[Aw]⟩) (.nd 27 (⟨.slice 97 5 48 [Ag,Ag,J8,.int .u64 0,.int .u32 0],1,[Aw]⟩) .lf .lf) (.nd 29 (⟨.slice 205 3 24 [Ag,Ag,Ag],1,[Aw]⟩) .lf .lf)) (.nd 32 (⟨.slice 117 4 48 [Ag,Ag,Ag,Aw],1,[Aw]⟩) (.nd 31 (⟨.slice 209 4 32 [Ag,Ag,Ag,.int .u64 0],1,[Aw]⟩) .lf .lf) (.nd 33 (⟨.slice 119 5 80 [Ag,Ag,J8,Aw,Aw],1,[Aw]⟩) .lf .lf)))) (.nd 64 (⟨.slice 71 3 40 [Ag,Ag,Aw],1,[Aw]⟩) (.nd 43 (⟨.slice 89 4 72 [Ag,J8,Aw,Aw],1,[Aw]⟩) (.nd 39 (⟨.slice 69 6 80 [Ag,Ag,Ag,Ag,Aw,Aw],1,[Aw]⟩) (.nd 38 (⟨.int .i64,1,[Ag]⟩) (.nd 36 (⟨.struct [(0,1),(1,1),(2,1),(3,1),(4,1),(5,1),(6,1),(7,1)],8,[Aw,Aw,Aw,Aw,Aw,Aw,Aw,Aw]⟩) .lf .lf) .lf) (.nd 41 (⟨.struct [(0,1),(1,1),(2,1),(3,1),(4,1),(5,1),(6,1)],7,[Ag,Ag,Ag,Ag,Ag,Ag,Aw]⟩) .lf .lf)) (.nd 61 (⟨.int .u64,1,[.int .u64 0]⟩) (.nd 48 (⟨.slice 3 1 8 [Ag],1,[Aw]⟩) .lf .lf) (.nd 63 (⟨.struct [(0,1),(1,1),(2,1),(3,1)],4,[.int .u64 0,.int .u64 0,Ag,Aw]⟩) .lf .lf))) (.nd 71 (⟨.struct [(0,1),(1,1),(2,1)],3,[Ag,Ag,Aw]⟩) (.nd 69 (⟨.struct [(0,1),(1,1),(2,1),(3,1),(4,1),(5,1)],6,[Ag,Ag,Ag,Ag,Aw,Aw]⟩) (.nd 67 (⟨.slice 4 1 1 [.bool false],1,[Aw]⟩) .lf .lf) (.nd 70 (⟨.struct [(0,1),(1,1),(2,1)],3,[Ag,Ag,Aw]⟩) .lf .lf)) (.nd 76 (⟨.slice 391 3 24 [.int .u64 0,Ag,Ag],1,[Aw]⟩) (.nd 73 (⟨.slice 76 1 24 [Aw],1,[Aw]⟩) .lf .lf) (.nd 89 (⟨.struct [(0,1),(1,1),(2,1),(3,1)],4,[Ag,J8,Aw,Aw]⟩) .lf .lf))))) (.nd 145 (⟨.struct [(0,8)],8,[Aw,Aw,Aw,Aw,Aw,Aw,Aw,Aw]⟩) (.nd 119 (⟨.struct [(0,1),(1,1),(2,1),(3,1),(4,1)],5,[Ag,Ag,J8,Aw,Aw]⟩) (.nd 109 (⟨.int .u64,1,[.int .u64 0]⟩) (.nd 101 (⟨.struct [(0,1),(1,1),(2,1),(3,1),(4,1),(5,1)],6,[Ag,Ag,Ag,Ag,Ag,Aw]⟩) (.nd 99 (⟨.struct [(0,1),(1,1),(2,1),(3,1),(4,1),(5,1),(6,1)],7,[Ag,Ag,Ag,Ag,Ag,J8,Aw]⟩) (.nd 97 (⟨.struct [(0,1),(1,1),(2,1),(3,1),(4,1)],5,[Ag,Ag,J8,.int .u64 0,.int .u32 0]⟩) .lf .lf) .lf) (.nd 104 (⟨.slice 152 17 240 [Ag,Ag,J8,J8,J8,J8,J8,.int .u64 0,.int .u32 0,Ag,Ag,Ag,Ag,Aw,Aw,Aw,Aw],1,[Aw]⟩) .lf .lf)) (.nd 115 (⟨.slice 95 1 4 [.int .u32 0],1,[Aw]⟩) (.nd 110 (⟨.ptr,1,[.pointer none]⟩) .lf .lf) (.nd 117 (⟨.struct [(0,1),(1,1),(2,1),(3,1)],4,[Ag,Ag,Ag,Aw]⟩) .lf .lf))) (.nd 132 (⟨.slice 188 7 72 [Ag,Ag,Ag,.int .u64 0,.int .u64 0,Ag,Aw],1,[Aw]⟩) (.nd 127 (⟨.slice 137 4 32 [Ag,Ag,Ag,.int .u32 0],1,[Aw]⟩) (.nd 123 (⟨.func,1,[.nilFunc]⟩) .lf .lf) (.nd 131 (⟨.func,1,[.nilFunc]⟩) .lf .lf)) (.nd 139 (⟨.func,1,[.nilFunc]⟩) (.nd 137 (⟨.struct [(0,1),(1,1),(2,1),(3,1)],4,[Ag,Ag,Ag,.int .u32 0]⟩) .lf .lf) (.nd 140 (⟨.array 9 2 1,2,[J8,J8]⟩) .lf .lf)))) (.nd 175 (⟨.ptr,1,[.pointer none]⟩) (.nd 160 (⟨.struct [(0,0),(0,1)],1,[.int .u32 0]⟩) (.nd 152 (⟨.struct [(0,1),(1,1),(2,1),(3,1),(4,1),(5,1),(6,1),(7,1),(8,1),(9,1),(10,1),(11,1),(12,1),(13,1),(14,1),(15,1),(16,1)],17,[Ag,Ag,J8,J8,J8,J8,J8,.int .u64 0,.int .u32 0,Ag,Ag,Ag,Ag,Aw,Aw,Aw,Aw]⟩) (.nd 147 (⟨.func,1,[.nilFunc]⟩) .lf .lf) (.nd 155 (⟨.ptr,1,[.pointer none]⟩) .lf .lf)) (.nd 166 (⟨.struct [(0,0),(0,1),(1,2)],3,[.int .u32 0,.int .i32 0,.int .u32 0]⟩) (.nd 164 (⟨.struct [(0,0),(0,2)],2,[.int .i32 0,.int .u32 0]⟩) .lf .lf) (.nd 168 (⟨.struct [(0,3),(3,1),(4,8),(12,1),(13,1)],14,[.int .u32 0,.int .i32 0,.int .u32 0,Aw,Aw,Aw,Aw,Aw,Aw,Aw,Aw,Aw,Ag,Ag]⟩) .lf .lf))) (.nd 182 (⟨.array 181 64 1,64,[Ag,Ag,Ag,Ag,Ag,Ag,Ag,Ag,Ag,Ag,Ag,Ag,Ag,Ag,Ag,Ag,Ag,Ag,Ag,Ag,Ag,Ag,Ag,Ag,Ag,Ag,Ag,Ag,Ag,Ag,Ag,Ag,Ag,Ag,Ag,Ag,Ag,Ag,Ag,Ag,Ag,Ag,Ag,Ag,Ag,Ag,Ag,Ag,Ag,Ag,Ag,Ag,Ag,Ag,Ag,Ag,Ag,Ag,Ag,Ag,Ag,Ag,Ag,Ag]⟩) (.nd 178 (⟨.slice 132 1 24 [Aw],1,[Aw]⟩) (.nd 177 (⟨.struct [(0,1),(1,3),(4,1)],5,[Aw,.int .u32 0,.int .i32 0,.int .u32 0,Aw]⟩) .lf .lf) (.nd 181 (⟨.struct [(0,0),(0,0),(0,1)],1,[Ag]⟩) .lf .lf)) (.nd 188 (⟨.struct [(0,1),(1,1),(2,1),(3,4)],7,[Ag,Ag,Ag,.int .u64 0,.int .u64 0,Ag,Aw]⟩) (.nd 184 (⟨.struct [(0,8),(8,1),(9,1),(10,1),(11,1),(12,1),(13,64)],77,[Aw,Aw,Aw,Aw,Aw,Aw,Aw,Aw,.pointer none,Aw,Aw,Ag,Ag,Ag,Ag,Ag,Ag,Ag,Ag,Ag,Ag,Ag,Ag,Ag,Ag,Ag,Ag,Ag,Ag,Ag,Ag,Ag,Ag,Ag,Ag,Ag,Ag,Ag,Ag,Ag,Ag,Ag,Ag,Ag,Ag,Ag,Ag,Ag,Ag,Ag,Ag,Ag,Ag,Ag,Ag,Ag,Ag,Ag,Ag,Ag,Ag,Ag,Ag,Ag,Ag,Ag,Ag,Ag,Ag,Ag,Ag,Ag,Ag,Ag,Ag,Ag,Ag]⟩) .lf .lf) (.nd 198 (⟨.struct [(0,8)],8,[Aw,Aw,Aw,Aw,Aw,Aw,Aw,Aw]⟩) .lf .lf)))))) (.nd 342 (⟨.func,1,[.nilFunc]⟩) (.nd 246 (⟨.array 3 6 1,6,[Ag,Ag,Ag,Ag,Ag,Ag]⟩) (.nd 221 (⟨.struct [(0,1),(1,1),(2,1),(3,2)],5,[Ag,Ag,Ag,.int .u32 0,Ag]⟩) (.nd 210 (⟨.func,1,[.nilFunc]⟩) (.nd 206 (⟨.func,1,[.nilFunc]⟩) (.nd 205 (⟨.struct [(0,1),(1,1),(2,1)],3,[Ag,Ag,Ag]⟩) (.nd 202 (⟨.func,1,[.nilFunc]⟩) .lf .lf) .lf) (.nd 209 (⟨.struct [(0,1),(1,1),(2,1),(3,1)],4,[Ag,Ag,Ag,.int .u64 0]⟩) .lf .lf)) (.nd 216 (⟨.func,1,[.nilFunc]⟩) (.nd 213 (⟨.func,1,[.nilFunc]⟩) .lf .lf) (.nd 219 (⟨.struct [(0,1),(1,1)],2,[.int .u32 0,Ag]⟩) .lf .lf))) (.nd 231 (⟨.slice 238 7 56 [Ag,Ag,Ag,Ag,Ag,.int .u32 0,Ag],1,[Aw]⟩) (.nd 229 (⟨.ptr,1,[.pointer none]⟩) (.nd 222 (⟨.func,1,[.nilFunc]⟩) .lf .lf) (.nd 230 (⟨.array 67 2 1,2,[Aw,Aw]⟩) .lf .lf)) (.nd 236 (⟨.struct [(0,1),(1,1)],2,[Ag,Ag]⟩) (.nd 233 (⟨.struct [(0,8),(8,2),(10,1)],11,[Aw,Aw,Aw,Aw,Aw,Aw,Aw,Aw,Aw,Aw,Aw]⟩) .lf .lf) (.nd 238 (⟨.struct [(0,2),(2,4),(6,1)],7,[Ag,Ag,Ag,Ag,Ag,.int .u32 0,Ag]⟩) .lf .lf)))) (.nd 278 (⟨.ptr,1,[.pointer none]⟩) (.nd 261 (⟨.struct [(0,1),(1,1),(2,1)],3,[Aw,Ag,Ag]⟩) (.nd 257 (⟨.func,1,[.nilFunc]⟩) (.nd 255 (⟨.array 9 6 1,6,[J8,J8,J8,J8,J8,J8]⟩) (.nd 248 (⟨.func,1,[.nilFunc]⟩) .lf .lf) .lf) (.nd 259 (⟨.ptr,1,[.pointer none]⟩) .lf .lf)) (.nd 268 (⟨.ptr,1,[.pointer none]⟩) (.nd 264 (⟨.func,1,[.nilFunc]⟩) .lf .lf) (.nd 270 (⟨.func,1,[.nilFunc]⟩) .lf .lf))) (.nd 316 (⟨.func,1,[.nilFunc]⟩) (.nd 302 (⟨.struct [(0,1),(1,1),(2,1),(3,1),(4,4),(8,1)],9,[Ag,Ag,Ag,Aw,.int .u64 0,.int .u64 0,Ag,Aw,Ag]⟩) (.nd 296 (⟨.slice 302 9 104 [Ag,Ag,Ag,Aw,.int .u64 0,.int .u64 0,Ag,Aw,Ag],1,[Aw]⟩) .lf .lf) (.nd 307 (⟨.struct [(0,1),(1,1)],2,[.pointer none,Aw]⟩) .lf .lf)) (.nd 335 (⟨.slice 338 3 24 [Ag,Ag,.int .u32 0],1,[Aw]⟩) (.nd 330 (⟨.func,1,[.nilFunc]⟩) .lf .lf) (.nd 338 (⟨.struct [(0,1),(1,1),(2,1)],3,[Ag,Ag,.int .u32 0]⟩) .lf .lf))))) (.nd 446 (⟨.struct [(0,8),(8,1),(9,1),(10,1),(11,1)],12,[Aw,Aw,Aw,Aw,Aw,Aw,Aw,Aw,Aw,Ag,Ag,Aw]⟩) (.nd 415 (⟨.ptr,1,[.pointer none]⟩) (.nd 393 (⟨.func,1,[.nilFunc]⟩) (.nd 370 (⟨.struct [(0,8),(8,1),(9,1),(10,1),(11,1)],12,[Aw,Aw,Aw,Aw,Aw,Aw,Aw,Aw,Aw,Aw,Aw,Aw]⟩) (.nd 363 (⟨.ptr,1,[.pointer none]⟩) (.nd 345 (⟨.struct [(0,1),(1,1),(2,1),(3,1),(4,1),(5,1),(6,1)],7,[Ag,Ag,Ag,Ag,.int .u32 0,.int .u32 0,Aw]⟩) .lf .lf) .lf) (.nd 391 (⟨.struct [(0,1),(1,1),(2,1)],3,[.int .u64 0,Ag,Ag]⟩) .lf .lf)) (.nd 412 (⟨.func,1,[.nilFunc]⟩) (.nd 400 (⟨.func,1,[.nilFunc]⟩) .lf .lf) (.nd 413 (⟨.ptr,1,[.pointer none]⟩) .lf .lf))) (.nd 432 (⟨.struct [(0,1),(1,1),(2,1)],3,[Ag,Ag,Ag]⟩) (.nd 427 (⟨.ptr,1,[.pointer none]⟩) (.nd 419 (⟨.slice 3 1 8 [Ag],1,[Aw]⟩) .lf .lf) (.nd 429 (⟨.slice 432 3 24 [Ag,Ag,Ag],1,[Aw]⟩) .lf .lf)) (.nd 437 (⟨.struct [(0,1),(1,1),(2,1),(3,1),(4,1)],5,[Ag,Ag,Ag,Ag,Ag]⟩) (.nd 435 (⟨.slice 437 5 40 [Ag,Ag,Ag,Ag,Ag],1,[Aw]⟩) .lf .lf) (.nd 441 (⟨.ptr,1,[.pointer none]⟩) .lf .lf)))) (.nd 493 (⟨.func,1,[.nilFunc]⟩) (.nd 473 (⟨.func,1,[.nilFunc]⟩) (.nd 459 (⟨.ptr,1,[.pointer none]⟩) (.nd 455 (⟨.struct [(0,8)],8,[Aw,Aw,Aw,Aw,Aw,Aw,Aw,Aw]⟩) .lf .lf) (.nd 461 (⟨.ptr,1,[.pointer none]⟩) .lf .lf)) (.nd 482 (⟨.struct [(0,8)],8,[Aw,Aw,Aw,Aw,Aw,Aw,Aw,Aw]⟩) (.nd 478 (⟨.ptr,1,[.pointer none]⟩) .lf .lf) (.nd 486 (⟨.array 3 2 1,2,[Ag,Ag]⟩) .lf .lf))) (.nd 519 (⟨.struct [(0,8),(8,1)],9,[Ag,Ag,Ag,Ag,.int .u32 0,.int .u32 0,Aw,Ag,Ag]⟩) (.nd 515 (⟨.ptr,1,[.pointer none]⟩) (.nd 496 (⟨.iface,1,[.nilIface]⟩) .lf .lf) (.nd 517 (⟨.struct [(0,7),(7,1)],8,[Ag,Ag,Ag,Ag,.int .u32 0,.int .u32 0,Aw,Ag]⟩) .lf .lf)) (.nd 538 (⟨.func,1,[.nilFunc]⟩) (.nd 535 (⟨.func,1,[.nilFunc]⟩) .lf .lf) (.nd 541 (⟨.array 3 4 1,4,[Ag,Ag,Ag,Ag]⟩) .lf .lf)))))))
def etab:Tr (List EK):=(.nd 236 ([.int .i64,.int .i64]) (.nd 205 ([.int .i64,.int .i64,.int .i64]) (.nd 137 ([.int .i64,.int .i64,.int .i64,.int .u32]) (.nd 97 ([.int .i64,.int .i64,.string,.int .u64,.int .u32]) .lf .lf) .lf) (.nd 219 ([.int .u32,.int .i64]) (.nd 209 ([.int .i64,.int .i64,.int .i64,.int .u64]) .lf .lf) .lf)) (.nd 432 ([.int .i64,.int .i64,.int .i64]) (.nd 391 ([.int .u64,.int .i64,.int .i64]) (.nd 338 ([.int .i64,.int .i64,.int .u32]) .lf .lf) .lf) (.nd 437 ([.int .i64,.int .i64,.int .i64,.int .i64,.int .i64]) .lf .lf)))
def tab_ok:tab.all (λt i=>tiOf prog t=some i):=by
 unfold tab
 repeat' (first|exact trivial|refine ndO y_ ?_ ?_)
def Bfp:etab.all (λt i=>Bcn prog t=some i):=by
 unfold etab
 repeat' (first|exact trivial|refine ndO y_ ?_ ?_)
def Γ:TyE prog:=⟨⟨λt=>tab.look t,λ_ _ h=>Bec (Tr.look_ok tab_ok h)⟩,λt=>etab.look t,λ_ _ h=>Bcm (Tr.look_ok Bfp h)⟩
theorem hm:prog.follows .mixedOrders=true:=by kernel_rfl
abbrev Sq:=Sy.Spec prog
abbrev Sp(f:FuncId)(A:List SV)(R:SV):Prop:=Sy.Spec prog f A [] R []
abbrev fT(i:Nat)(fn:Func):Prop:=Fun prog i fn (Aky fn)
def fN{P : Program}{f : FuncId}{fn : Func}(h : P.funcs[f]? = some fn)(g : fn.body = some (Aky fn) := by exact rfl)(i : (fn.name == "runtime.NumGoroutine") = false := by kernel_rfl) : Fun P f fn (Aky fn) := ⟨h, g, i⟩
def cT{f:FuncId}{fn:Func}{c:Code}{A:List SV}{H:It}{R:SV}{i:It}(g:Fun prog f fn c){n:Nat}(j:fn.ntmps=n)(h:∀(F:Fr) (g:∀k,F.k0 k≠.new->k∈H.keys),Wx ⟨prog,Γ.toTy,F,n,lK prog fn F R i,H.keys,g⟩ Γ 100 [.code c] ⟨argσ A,mkh H⟩)(l:Au5 A n=true:=by exact rfl):Sy.Spec prog f A H R i:=Y7 Γ hm 100 g j l h
def F3:=fN func3
def F5:=fN func5
def F6:=fN func6
def F7:=fN func7
def F8:=fN func8
def F9:=fN func9
def F10:=fN func10
def F11:=fN func11
def F12:=fN func12
def F13:=fN func13
def F14:=fN func14
def F16:=fN func16
def F18:=fN func18
def F19:=fN func19
def F20:=fN func20
def F21:=fN func21
def F22:=fN func22
def F23:=fN func23
def F24:=fN func24
def F25:=fN func25
def F26:=fN func26
def F27:=fN func27
def F28:=fN func28
def F29:=fN func29
def F30:=fN func30
def F31:=fN func31
def F32:=fN func32
def F33:=fN func33
def F35:=fN func35
def F37:=fN func37
def F38:=fN func38
def F39:=fN func39
def F40:=fN func40
def F41:=fN func41
def F42:=fN func42
def F44:=fN func44
def F45:=fN func45
def F46:=fN func46
def F47:=fN func47
def F48:=fN func48
def F49:=fN func49
def F50:=fN func50
def F51:=fN func51
def F52:=fN func52
def F53:=fN func53
def F54:=fN func54
def F55:=fN func55
def F56:=fN func56
def F57:=fN func57
def F58:=fN func58
def F59:=fN func59
def F60:=fN func60
def F61:=fN func61
def F62:=fN func62
def F63:=fN func63
def F64:=fN func64
def F65:=fN func65
def F66:=fN func66
def F67:=fN func67
def F68:=fN func68
def F69:=fN func69
def F71:=fN func71
def F74:=fN func74
def F75:=fN func75
def F76:=fN func76
def F77:=fN func77
def F78:=fN func78
def F79:=fN func79
def F80:=fN func80
def F81:=fN func81
def F82:=fN func82
def F83:=fN func83
def F84:=fN func84
def F88:=fN func88
def F89:=fN func89
def F90:=fN func90
def F91:=fN func91
def F92:=fN func92
def F93:=fN func93
def F94:=fN func94
def F95:=fN func95
def F96:=fN func96
def F97:=fN func97
def F98:=fN func98
def F99:=fN func99
def F100:=fN func100
def F101:=fN func101
def F102:=fN func102
def F103:=fN func103
def F104:=fN func104
def F105:=fN func105
def F106:=fN func106
def F107:=fN func107
def F108:=fN func108
def F109:=fN func109
def F110:=fN func110
def F111:=fN func111
def F112:=fN func112
def F113:=fN func113
def F114:=fN func114
def F115:=fN func115
def F116:=fN func116
def F117:=fN func117
def F118:=fN func118
def F119:=fN func119
def F120:=fN func120
def F121:=fN func121
def F122:=fN func122
def F123:=fN func123
def F124:=fN func124
def F125:=fN func125
def F126:=fN func126
def F127:=fN func127
def F128:=fN func128
def F129:=fN func129
def F130:=fN func130
def F131:=fN func131
def F136:=fN func136
def F137:=fN func137
def F138:=fN func138
def F139:=fN func139
def F140:=fN func140
def F141:=fN func141
def F142:=fN func142
def F143:=fN func143
def F144:=fN func144
def F145:=fN func145
def F146:=fN func146
def F147:=fN func147
def F148:=fN func148
def F149:=fN func149
def F150:=fN func150
def F151:=fN func151
def F152:=fN func152
def F153:=fN func153
def F154:=fN func154
def F155:=fN func155
def F156:=fN func156
def F157:=fN func157
def F158:=fN func158
def F159:=fN func159
def F160:=fN func160
def F161:=fN func161
def F162:=fN func162
def F163:=fN func163
def F164:=fN func164
def F165:=fN func165
def F166:=fN func166
def F167:=fN func167
def F168:=fN func168
def F169:=fN func169
def F170:=fN func170
def F171:=fN func171
def F176:=fN func176
def F177:=fN func177
def F178:=fN func178
def F179:=fN func179
def F180:=fN func180
def F181:=fN func181
def F182:=fN func182
def F183:=fN func183
def F184:=fN func184
def F185:=fN func185
def F186:=fN func186
def F187:=fN func187
def F189:=fN func189
def F190:=fN func190
def F191:=fN func191
def F192:=fN func192
def F193:=fN func193
def F194:=fN func194
def F195:=fN func195
def F196:=fN func196
def F197:=fN func197
def F198:=fN func198
def F199:=fN func199
def F200:=fN func200
def F201:=fN func201
def F202:=fN func202
def F203:=fN func203
def F204:=fN func204
def F205:=fN func205
def F206:=fN func206
def F207:=fN func207
def F208:=fN func208
def F209:=fN func209
def F210:=fN func210
def F213:=fN func213
def F214:=fN func214
def F215:=fN func215
def F217:=fN func217
def F218:=fN func218
def F219:=fN func219
def F220:=fN func220
def F221:=fN func221
def F222:=fN func222
def F223:=fN func223
def F224:=fN func224
def F225:=fN func225
def F226:=fN func226
def F227:=fN func227
def F228:=fN func228
def F229:=fN func229
def F230:=fN func230
def F231:=fN func231
def F232:=fN func232
def F233:=fN func233
def F234:=fN func234
def F235:=fN func235
def F236:=fN func236
def F237:=fN func237
def F238:=fN func238
def F239:=fN func239
def F240:=fN func240
def F241:=fN func241
def F242:=fN func242
def F243:=fN func243
def F244:=fN func244
def F245:=fN func245
def F246:=fN func246
def F247:=fN func247
def F248:=fN func248
def F249:=fN func249
def F250:=fN func250
def F251:=fN func251
def F252:=fN func252
def F253:=fN func253
def F256:=fN func256
def F257:=fN func257
def F258:=fN func258
def F259:=fN func259
def F260:=fN func260
def F261:=fN func261
def F262:=fN func262
def F263:=fN func263
def F264:=fN func264
def F265:=fN func265
def F266:=fN func266
def F267:=fN func267
def F268:=fN func268
def F270:=fN func270
def F271:=fN func271
def F273:=fN func273
def F274:=fN func274
def F275:=fN func275
def F276:=fN func276
def F281:=fN func281
def F282:=fN func282
def F283:=fN func283
def F284:=fN func284
def F285:=fN func285
def F286:=fN func286
def F287:=fN func287
def F288:=fN func288
def F289:=fN func289
def F290:=fN func290
def F291:=fN func291
def F292:=fN func292
def F293:=fN func293
def F294:=fN func294
def F295:=fN func295
def F296:=fN func296
def F297:=fN func297
def F298:=fN func298
def F299:=fN func299
def F300:=fN func300
def F301:=fN func301
def F302:=fN func302
def F303:=fN func303
def F304:=fN func304
def F305:=fN func305
def F306:=fN func306
def F307:=fN func307
def F308:=fN func308
def F309:=fN func309
def F310:=fN func310
def F311:=fN func311
def F312:=fN func312
def F313:=fN func313
def F314:=fN func314
def F315:=fN func315
def F316:=fN func316
def F317:=fN func317
def F318:=fN func318
def F319:=fN func319
def F320:=fN func320
def F321:=fN func321
def F322:=fN func322
def F323:=fN func323
def F324:=fN func324
def F326:=fN func326
def F327:=fN func327
def F328:=fN func328
def F329:=fN func329
def F332:=fN func332
def F333:=fN func333
def F334:=fN func334
def F335:=fN func335
def F336:=fN func336
def F337:=fN func337
def F344:=fN func344
def F345:=fN func345
def F346:=fN func346
def F347:=fN func347
def F348:=fN func348
def F349:=fN func349
def F350:=fN func350
def F351:=fN func351
def F352:=fN func352
def F353:=fN func353
def F354:=fN func354
def F355:=fN func355
def F356:=fN func356
def F357:=fN func357
def F358:=fN func358
def F359:=fN func359
def F360:=fN func360
def F361:=fN func361
def F362:=fN func362
def F363:=fN func363
def F364:=fN func364
def F365:=fN func365
def F366:=fN func366
def F367:=fN func367
def F368:=fN func368
def F369:=fN func369
def F370:=fN func370
def F371:=fN func371
def F372:=fN func372
def F373:=fN func373
def F374:=fN func374
def F375:=fN func375
def F376:=fN func376
def F377:=fN func377
def F378:=fN func378
def F379:=fN func379
def F380:=fN func380
def F381:=fN func381
def F382:=fN func382
def F383:=fN func383
def F384:=fN func384
def F385:=fN func385
def F386:=fN func386
def F387:=fN func387
def F388:=fN func388
def F389:=fN func389
def F390:=fN func390
def F391:=fN func391
def F392:=fN func392
def F393:=fN func393
def F394:=fN func394
def F395:=fN func395
def F396:=fN func396
def F405:=fN func405
def F406:=fN func406
def F407:=fN func407
def F408:=fN func408
def F409:=fN func409
def F410:=fN func410
def F411:=fN func411
def F412:=fN func412
def F413:=fN func413
def F414:=fN func414
def F416:=fN func416
def F417:=fN func417
def F418:=fN func418
def F419:=fN func419
def F420:=fN func420
def F428:=fN func428
def F429:=fN func429
def F430:=fN func430
def F431:=fN func431
def F432:=fN func432
def F433:=fN func433
def F435:=fN func435
def F436:=fN func436
def F459:=fN func459
def F460:=fN func460
def F461:=fN func461
def F462:=fN func462
def rg{F:Fr}{n:Nat}{B:Exit->Act->World->Prop}{i:List Nat}{g:∀k,F.k0 k≠.new->k∈i}{k:List KI}{s:SS}(h:Wx ⟨prog,Γ.toTy,F,n,B,i,g⟩ Γ 400 k s):G ⟨prog,Γ.toTy,F,n,B,i,g⟩ k s:=rG Γ hm h
def rd{F:Fr}{n:Nat}{B:Exit->Act->World->Prop}{j:List Nat}{i:∀k,F.k0 k≠.new->k∈j}{k:List KI}{s:SS}{all:Array Oper}{done:List Tu}{g:List Oper}(l:all.toList=done.map (·.o)++g)(h:Ac6 ⟨prog,Γ.toTy,F,n,B,j,i⟩ Γ 400 k all done g s):DR ⟨prog,Γ.toTy,F,n,B,j,i⟩ k all done g s:=rD Γ hm l h
structure Bq(Q:Prop):Prop where out:Q
def oO{P Q:Prop}(h:Q)(e:Bq Q->P:=by intro g;refine rg ?_;(conv=>whnf);exact g.out):P:=e ⟨h⟩
def oF{P Q:Prop}(h:Q)(e:Bq Q->P:=by intro g;refine rg ?_;(conv=>whnf);refine aF ?_;refine rg ?_;(conv=>whnf);exact g.out):P:=e ⟨h⟩
def oT{P Q:Prop}(h:Q)(e:Bq Q->P:=by intro g;refine rg ?_;(conv=>whnf);refine aT ?_;refine rg ?_;(conv=>whnf);exact g.out):P:=e ⟨h⟩
def bF{P Q:Prop}(h:Q)(e:Bq Q->P:=by intro g;refine aF ?_;refine rg ?_;(conv=>whnf);exact g.out):P:=e ⟨h⟩
def bT{P Q:Prop}(h:Q)(e:Bq Q->P:=by intro g;refine aT ?_;refine rg ?_;(conv=>whnf);exact g.out):P:=e ⟨h⟩
def oD{P Q:Prop}(h:Q)(e:Bq Q->P:=by intro g;refine rd y_ ?_;(conv=>whnf);exact g.out):P:=e ⟨h⟩
def dN{P:Prop}(h:P:=by
 apply Av
 .exact q_
 ·(repeat (first|exact S1.nil|(apply S1.cons;(first|exact .tmp|exact .cell rfl rfl rfl rfl))))
 .exact q_
 .exact q_):P:=h
def iL{a:Int}{K:Prop}(h:K)(e:S2 a:=by unfold S2;omega):S2 a/\K:=⟨e,h⟩
def iW{a:Int}{K Q:Prop}(h:Q)(e:S2 a:=by unfold S2;omega)(g:Bq Q->K:=by intro i;(conv=>whnf);exact i.out):S2 a/\K:=⟨e,g ⟨h⟩⟩
def kW{k:Sort _}{a b:k}{K Q:Prop}(h:Q)(e:a=b:=by kernel_rfl)(g:Bq Q->K:=by intro i;(conv=>whnf);exact i.out):a=b/\K:=⟨e,g ⟨h⟩⟩
def c0{C:Cx}{k:List KI}{s:SS}{all:Array Oper}{o:Oper}{g:List Oper}{f:FuncId}{fn:Func}{c:Code}{xs:List Operand}{i:Array TypeId}{A:List SV}{R:SV}(j:Sy.Spec C.P f A [] R [])(l:Fun C.P f fn c)(p:G C (.ops all g::k) (s.upd o.dst ⟨R,[],[]⟩))(h:o.op=.call ⟨.value (.func f),xs.toArray,i⟩:=by exact rfl)(r:A=xs.map (ev s):=by exact rfl)(t:(C7 [] A&&R.inn [])=true:=by exact rfl)(I:eC C.n o=true:=by exact rfl)(J:Jg C.n all o s=some true:=by exact rfl):G C (.ops all (o::g)::k) s:=U3 j l h r t I J p
def cD{C:Cx}{k:List KI}{s:SS}{all:Array Oper}{done:List Tu}{o:Oper}{g:List Oper}{f:FuncId}{fn:Func}{c:Code}{xs:List Operand}{i:Array TypeId}{A:List SV}{R:SV}(j:Sy.Spec C.P f A [] R [])(l:Fun C.P f fn c)(p:DR C k all (done++[⟨done.length,o,⟨R,[],[]⟩,true⟩]) g (s.upd o.dst ⟨R,[],[]⟩))(h:o.op=.call ⟨.value (.func f),xs.toArray,i⟩:=by exact rfl)(r:A=xs.map (ev s):=by exact rfl)(t:(C7 [] A&&R.inn [])=true:=by exact rfl)(hi:all[done.length]? = some o:=by kernel_rfl)(I:Jg C.n all o s=some true:=by exact rfl):DR C k all done (o::g) s:=Bc5 j l h r t hi I p
def fU{P Q:Prop}(h:Q)(e:Bq Q->P:=by intro g;((first|refine rG Γ hm ?_|refine rD Γ hm y_ ?_);(conv=>whnf);repeat((first|refine aF ?_|refine aT ?_);(first|refine rG Γ hm ?_|refine rD Γ hm y_ ?_);conv=>whnf));exact g.out):P:=e ⟨h⟩
def fW{P Q:Prop}(h:Q)(e:Bq Q->P:=by intro g;((conv=>whnf);repeat((first|refine aF ?_|refine aT ?_);(first|refine rG Γ hm ?_|refine rD Γ hm y_ ?_);conv=>whnf));exact g.out):P:=e ⟨h⟩
def vL{s:SS}{V:List Nat}{l m:List SV}(h:VwL s V l m:=by repeat (first|exact VwL.nil|refine VwL.cons (Vw.refl _) ?_|refine VwL.cons Vw.nil ?_)):VwL s V l m:=h
def qA{p q:Prop}[Decidable p](h:decide p=true)(e:p->q:=by intro _h;omega):q:=e (zO h)
def qB{p q:Prop}[Decidable p](h:decide p=false)(e:¬p->q:=by intro _h;omega):q:=e (zQ h)
def gC{P:Prop}(e:P:=by refine fU ?_;exact dN):P:=e
def gE{P Q:Prop}(h:Q)(e:Bq Q->P:=by intro b;refine fU ?_;refine iL ?_;refine fW ?_;exact b.out):P:=e ⟨h⟩
def gF{i F0 P Q:Prop}(g:i)(t0:F0)(h:Q)(e:i->F0->Bq Q->P:=by intro g t0 b;refine c0 g t0 ?_;refine oO ?_;exact b.out):P:=e g t0 ⟨h⟩
def gG{P Q:Prop}(h:Q)(e:Bq Q->P:=by intro b;refine oO ?_;refine iW ?_;exact b.out):P:=e ⟨h⟩
def gH{P Q R:Prop}(h:Q)(k:R)(e:Bq (Q/\R)->P:=by intro b;refine fU ?_;exact b.out):P:=e ⟨⟨h,k⟩⟩
def gI{P Q R:Prop}(h:Q)(k:R)(e:Bq (Q/\R)->P:=by intro b;refine oO ?_;exact b.out):P:=e ⟨⟨h,k⟩⟩
def gJ{P Q:Prop}(h:Q)(e:Bq Q->P:=by intro b;refine fW ?_;refine iL ?_;refine fW ?_;exact b.out):P:=e ⟨h⟩
def gK{i F0 P Q:Prop}(g:i)(t0:F0)(h:Q)(e:i->F0->Bq Q->P:=by intro g t0 b;refine fU ?_;refine cD g t0 ?_;refine fU ?_;exact b.out):P:=e g t0 ⟨h⟩
def gL{i F0 P Q:Prop}(g:i)(t0:F0)(h:Q)(e:i->F0->Bq Q->P:=by intro g t0 b;refine fU ?_;refine c0 g t0 ?_;exact b.out):P:=e g t0 ⟨h⟩
def gM{P:Prop}(e:P:=by refine oO ?_;exact dN):P:=e
def gO{P Q:Prop}(h:Q)(e:Bq Q->P:=by intro b;refine oD ?_;refine kW ?_;exact b.out):P:=e ⟨h⟩
def gQ{i F0 P Q:Prop}(g:i)(t0:F0)(h:Q)(e:i->F0->Bq Q->P:=by intro g t0 b;refine fW ?_;refine c0 g t0 ?_;exact b.out):P:=e g t0 ⟨h⟩
def gR{P Q R:Prop}(h:Q)(k:R)(e:Bq (Q/\R)->P:=by intro b;refine fW ?_;exact b.out):P:=e ⟨⟨h,k⟩⟩
structure Device where
 (row prio:Int) (name:ByteArray) (an aq:Int)
structure D4 where
 (row q native aj ah:Int) (name:ByteArray) (u:List Int)
structure eT where
 (row a b:Int)
structure A0 where
 (q z ao ar row:Int) (ae:List Int)
structure I2 where
 (row l ac an:Int)
structure Mg where
 (row q ao:Int) (aa:List Int)
structure Vrf where
 (row q:Int) (name:ByteArray) (ak am:List Int)
structure Irb where
 (row l bb addr bits:Int)
structure Ai where
 (j:List Device) (g:List D4) (x:List eT) (c:List A0) (ab:List I2) (y:List Mg) (ag:List Vrf) (r:List Irb)
def Bh(d:Device):SV:=.agg [Aa d.row,Aa d.prio,Ap d.name,B1 d.an,Bo d.aq]
def Bm(p:D4):SV:=.agg [Aa p.row,Aa p.q,Aa p.native,Aa p.aj,Aa p.ah,Ap p.name,.sl 1 Aa p.u]
def Dq(l:eT):SV:=.agg [Aa l.row,Aa l.a,Aa l.b]
def Ax(d:A0):SV:=.agg [Aa d.q,Aa d.z,Aa d.ao,Aa d.ar,Aa d.row,.sl 1 Aa d.ae]
def Bp(s:I2):SV:=.agg [Aa s.row,Aa s.l,Aa s.ac,B1 s.an]
def B6(f:Mg):SV:=.agg [Aa f.row,Aa f.q,Aa f.ao,.sl 1 Bo f.aa]
def D5(v:Vrf):SV:=.agg [Aa v.row,Aa v.q,Ap v.name,.sl 1 Aa v.ak,.sl 1 Aa v.am]
def Dx(i:Irb):SV:=.agg [Aa i.row,Aa i.l,Aa i.bb,Bo i.addr,Aa i.bits]
def Eo(n:Ai):List SV:=[.sl 5 Bh n.j,.sl 7 Bm n.g,.sl 3 Dq n.x,.sl 6 Ax n.c,.sl 4 Bp n.ab,.sl 4 B6 n.y,.sl 5 D5 n.ag,.sl 5 Dx n.r]
def Aq(n:Ai):SV:=.agg [.sl 5 Bh n.j,.sl 7 Bm n.g,.sl 3 Dq n.x,.sl 6 Ax n.c,.sl 4 Bp n.ab,.sl 4 B6 n.y,.sl 5 D5 n.ag,.sl 5 Dx n.r]
instance:Inhabited Device:=⟨⟨0,0,.empty,0,0⟩⟩
instance:Inhabited D4:=⟨⟨0,0,0,0,0,.empty,[]⟩⟩
instance:Inhabited eT:=⟨⟨0,0,0⟩⟩
instance:Inhabited A0:=⟨⟨0,0,0,0,0,[]⟩⟩
instance:Inhabited I2:=⟨⟨0,0,0,0⟩⟩
instance:Inhabited Mg:=⟨⟨0,0,0,[]⟩⟩
instance:Inhabited Vrf:=⟨⟨0,0,.empty,[],[]⟩⟩
instance:Inhabited Irb:=⟨⟨0,0,0,0,0⟩⟩
def Am(i:Int)(n:Nat):Bool:=decide (0<=i)&&decide (i<n)
def Li(l:List Int)(x:Int):Bool:=l.any (·==x)
def Af{k:Type}[Inhabited k](l:List k)(i:Int):k:=(l[i.toNat]?).getD default
theorem Aj{k:Type}[Inhabited k]{l:List k}{i:Int}(h:i.toNat<l.length):Af l i=l[i.toNat]:=by
 simp[Af,h]
def Bt{k:Type}(p:k->Bool)(l:List k):Int:=match l.findIdx? p with|some i=>(i:Int)|none=>-1
def Dz{k:Type}{p:k->Bool}{l:List k}{j:Nat}(h:j<l.length)(g:∀i (hi:i<l.length),i<j->p l[i]=false)(o:p l[j]=true):Bt p l=j:=by
 have:l.findIdx? p=some j:=by
  rw[wJ];exact⟨h,o,λi hi=>by simp[g i j_ hi]⟩
 simp[Bt,this]
def Ez{k:Type}{p:k->Bool}{l:List k}(g:∀i (hi:i<l.length),p l[i]=false):Bt p l=-1:=by
 have:l.findIdx? p=none:=by
  rw[List.findIdx?_eq_none_iff];intro x j;obtain ⟨i,hi,rfl⟩:=yY.1 j;exact g i hi
 simp[Bt,this]
def Kf{k:Type}(p:k->Bool)(l:List k):Bt p l<l.length:=by
 unfold Bt;split
 .rename_i i h;rw[wJ]at h;obtain ⟨h,_⟩:=h;omega
 .omega
def Bff{k:Type}(p:k->Bool)(l:List k):-1<=Bt p l:=by
 unfold Bt;split<;>omega
def Mr{k:Type}(p:k->Bool)(l:List k):decide (0<=Bt p l)=l.any p:=by
 unfold Bt;split
 .rename_i i h;rw[wJ]at h;obtain ⟨h,g,_⟩:=h;have:l.any p=true:=wA.2 ⟨_,zI h,g⟩;rw[this];simp
 .rename_i h;rw[List.findIdx?_eq_none_iff]at h;have:l.any p=false:=by
   rw[wE];intro x j;simp[h x j]
  rw[this];simp
def Lu{k:Type}(p:Nat->k->Bool)(l:List k):Bool:=l.zipIdx.all λq=>p q.2 q.1
def Cm{k:Type}{p:Nat->k->Bool}{l:List k}:Lu p l=true↔∀i (h:i<l.length),p i l[i]=true:=by
 simp only[Lu,yX];constructor
 .intro h i hi;exact h (l[i],i) (by rw[tI];simp[hi])
 .rintro h ⟨x,i⟩ g;rw[tI]at g;obtain ⟨hi,rfl⟩:=uZ.1 g;exact h i hi
def A8a{k:Type}{p:Nat->k->Bool}{l:List k}(h:∀i (h:i<l.length),p i l[i]=true):Lu p l=true:=Cm.2 h
def Ew{k:Type}{p:Nat->k->Bool}{l:List k}{i:Nat}(h:i<l.length)(g:p i l[i]=false):Lu p l=false:=by
 cases j:Lu p l with
 |false=>rfl
 |true=>have:=Cm.1 j i h;rw[g]at this;cases this
def Ic{k:Type}(p:Nat->k->Bool)(l:List k)(j:Nat):Prop:=∀i (h:i<l.length),i<j->p i l[i]=true
def Bn{k:Type}(p:Nat->k->Bool)(l:List k):Ic p l 0:=λi h g=>zW g j_
def Bk{k:Type}{p:Nat->k->Bool}{l:List k}{j:Nat}(o:Ic p l j)(r:j<l.length)(h:p j l[j]=true):Ic p l (j+1):=by
 intro i hi t;rcases vD i j with g|g
 .exact o i hi g
 .have:i=j:=by omega
  subst this;exact h
def Ki{k:Type}{p:Nat->k->Bool}{l:List k}{j:Nat}(g:Ic p l j)(o:l.length<=j):Lu p l=true:=A8a λi hi=>g i hi j_
def At{k:Type}(l:List k):Prop:=l.length<2147483648
end Go.Sy.Zaa
namespace Go.Sy
def Ald{M:Nat->Prop}{w:World}{sz:Nat}{k:Type}{e:k->SV}{v:Value}(h:v=.slice none 0 0):D3 M w (.sl sz e []) v:=by
 simp only[D3];exact .inl ⟨z_,none,0,h⟩
def Axf{C:Cx}{k:List KI}{s:SS}(d:Nat){sz:Nat}{c f:Type}{e:c->SV}{l:List c}{e':f->SV}{l':List f}(h:s.h d=.row sz e l)(j:l'.length=l.length)(r:∀(M:Nat->Prop) (w:World) (i:Nat) (o:i<l.length) (h2:i<l'.length) (v:Value),D3 M w (e l[i]) v->D3 M w (e' l'[i]) v)(t:G C k ⟨s.σ,upd s.h d (.row sz e' l')⟩):G C k s:=λm a w g=>
 t m a w ⟨g.defers,g.size,g.inv,g.ctx,g.ax,λ i=>by
  show B3 m w i (upd s.h d (.row sz e' l') i);by_cases hi:i=d
  .subst hi;rw[C2];have:=g.obj i;rw[h]at this;rcases this with ⟨o,rfl⟩|⟨b,cap,cs,T,I,J,P,R,e4,e5,e6⟩
   .exact .inl ⟨o,yF (kS j)⟩
   .refine .inr ⟨b,cap,cs,T,I,by rw[j];exact J,P,R,e4,by omega,λi x hx=>?_⟩;obtain ⟨p,rfl⟩:=hx;obtain ⟨_,u,hu,dt⟩:=e6 i (e (l[i]'j_)) ⟨by omega,rfl⟩;exact⟨p,u,r _ _ i j_ p u hu,dt⟩
  .rw[D7 _ _ hi];exact g.obj i⟩
def A3z{k:Ka}{w:World}{x:SV}:∀{l:List SV} {cs:List Value} {i:Nat},B8 k w l cs->(∀y v,l[i]? = some y->Rd k w y v->Rd k w x v)->B8 k w (l.set i x) cs
 |[],_,_,h,_=>h
 |y::l,cs,0,h,g=>by
  simp only[B8,uA]at h|-;obtain ⟨v,r,j,o,p⟩:=h;exact⟨v,r,j,g y v q_ o,p⟩
 |y::l,cs,i+1,h,g=>by
  simp only[B8,List.set_cons_succ]at h|-;obtain ⟨v,r,j,o,p⟩:=h;exact⟨v,r,j,o,A3z p (λz u t I=>g z u t I)⟩
def Zb{C:Cx}{k:List KI}{s:SS}(b i d sz:Nat){c:Type}(e:c->SV){l:List SV}(t:s.h b=.box l)(h:l[i]? = some (.val (.slice none 0 0)))(P:s.h d=.fresh)(o:Nat.beq b d=false)(R:G C k ⟨s.σ,upd (upd s.h b (.box (l.set i (.osl d)))) d (.row sz e [])⟩):G C k s:=λm a w g=>by
 have ag:b≠d:=λe=>by rw[e,tT]at o;cases o
 have ay:m d=.new:=by have:=g.obj d;rwa [P]at this
 obtain ⟨st,inv⟩:=Lm g.inv ay (e:=.nil) (Kb.refl w) (λb t=>by cases t);refine R (H4 m d .nil) a w ⟨g.defers,g.size,inv,g.ctx.step inv st,λj=>Rd.step st _ _ (g.ax j),λj=>?_⟩;show B3 _ w j (upd (upd s.h b (.box (l.set i (.osl d)))) d (.row sz e []) j);by_cases r:j=d
 .subst r;rw[C2];exact .inl ⟨Az _ _ _,rfl⟩
 .rw[D7 _ _ r];by_cases p:j=b
  .subst p;rw[C2];have:=B3.step st r _ (g.obj j);rw[t]at this;obtain ⟨b',cs,T,fr,e1,e2,e3,e4,e5⟩:=this;refine⟨b',cs,T,fr,e1,e2,e3,e4,A3z e5 λy v I J=>?_⟩;rw[h]at I;cases I;simp only[Rd]at J;simp only[Rd,Az];exact J
  .rw[D7 _ _ p];exact B3.step st r _ (g.obj j)
def lD{P:Program}(w:World){t e:TypeId}(h:P.underlying t=some (.slice e))(g:Option Addr)(n cap i j:Nat):(Op.equal t (.slice g n cap) (.slice none i j)).run P w=.ok g.isNone w:=by
 have key:∀d,(Op.equalIn (d+1) t (.slice g n cap) (.slice none i j)).run P w=.ok g.isNone w:=λd=>by
  cases g<;>simp[Op.equalIn,run_underlying h]
 exact key 9999
inductive Bdr(s:SS):SV->List Nat->Nat->Prop
 |sl {sz:Nat} {α:Type} {e:α->SV} {l:List α}:Bdr s (.sl sz e l) [] l.length
 |row {k sz:Nat} {α:Type} {e:α->SV} {l:List α} (h:s.h k=.row sz e l):Bdr s (.osl k) [k] l.length
theorem Bdr.at{C:Cx}{s:SS}{k:Ka}{a:Act}{w:World}{x:Operand}{rd:List Nat}{n:Nat}(i:St C.F C.n s k a w)(p:Bdr s (ev s x) rd n):∃(j:Option Addr) (m cap:Nat),a.eval x=.slice j m cap/\(j.isNone=true->n=0):=by
 have g:Rd k w (ev s x) (a.eval x):=i.ev x;generalize ev s x=y at *;cases p with
 | @sl sz c e l=>
  simp only[Rd,D3]at g;rcases g with ⟨rfl,J,cap,g⟩|⟨b,off,cap,g,_⟩
  .exact⟨_,_,_,g,λ_=>rfl⟩
  .exact⟨_,_,_,g,λh=>by cases h⟩
 | @row r sz c e l t=>
  have o:=i.obj r;rw[t]at o;simp only[Rd]at g;rcases o with ⟨hκ,I⟩|⟨b,cap,_,_,_,hκ,_⟩
  .rw[hκ]at g;exact⟨_,_,_,g,λ_=>by rw[I];rfl⟩
  .rw[hκ]at g;exact⟨_,_,_,g,λh=>by cases h⟩
def K5{C:Cx}{k:List KI}{s:SS}{all:Array Oper}{o:Oper}{g:List Oper}{op:BinOp}{t J:TypeId}{l:TI}{et:TypeId}{sz R n:Nat}{ez:List Value}{x y:Operand}{rd:List Nat}(h:o.op=.binOp op t x y J)(hop:op=.eql\/op=.neq)(ht:C.Γ.get t=some l)(hk:l.k=.slice et sz R ez)(hy:ev s y=.val (.slice none 0 0))(hx:Bdr s (ev s x) rd n)(hd:eC C.n o=true)(r:Jg C.n all o s=some true)(hg:∀b:Bool,(b=true->n=0)->G C (.ops all g::k) (s.upd o.dst ⟨.val (.bool (if op=.eql then b else !b)),rd,[]⟩)):G C (.ops all (o::g)::k) s:=λc a w j=>by
 have I:Rd c w (ev s y) (a.eval y):=j.ev y;rw[hy]at I;obtain ⟨i,m,cap,e1,e2⟩:=hx.at j;obtain ⟨d,info,z,k1,k2,_⟩:=C.Γ.ok t l ht;rw[hk]at k2;simp only[TK.ok]at k2;have an:=lD (P:=C.P) w (t:=t) (e:=et) (by first|exact k2.1▸k1|(rw[k1,k2.1])) i m cap 0 0;have hG:=hg i.isNone e2;have hv:=I.val;refine wpList_step λK hK=>?_
 rw[zE (eY j (I9 r).2 (I9 r).1)];have pc:(execOp a.eval o).run C.P w=.ok (.value (.bool (if op=.eql then i.isNone else !i.isNone))) w:=by
  rcases hop with rfl|rfl<;>simp[execOp,h,e1,hv,eqGuard,binOp,an]
 simp only[Oper.wp,pc,Oper.upon];exact hK _ _ (hG c _ w (j.put (U:=⟨.val (.bool (if op=.eql then i.isNone else !i.isNone)),rd,[]⟩) (Akf hd) (En.refl _ c w) j.inv (by simp[Rd]) (λp hp=>by cases hp)))
def Apc(s:SS):List (Nat×Ob)->Prop
 |[]=>True
 |(k,o)::r=>s.h k=o/\Apc s r
theorem Apc.all{s:SS}:∀{l:List (Nat×Ob)},Apc s l->∀p∈l,s.h p.1=p.2
 |[],_,p,hp=>by cases hp
 |(k,o)::r,h,p,hp=>by
  rcases yH.1 hp with rfl|hp
  .exact h.1
  .exact Apc.all h.2 p hp
def stepD2{C:Cx}{k:List KI}{s:SS}{all:Array Oper}{done:List Tu}{o:Oper}{g:List Oper}{U:Up}(i:Good C.P o s U)(j:Apc s U.bp)(hi:all[done.length]? = some o)(l:Jg C.n all o s=some true)(h:DR C k all (done++[⟨done.length,o,⟨U.v,U.rd++U.ws,[]⟩,true⟩]) g (s.upd o.dst ⟨U.v,U.rd++U.ws,[]⟩))(p:(Qn o||X8 o)=false:=by rfl):DR C k all done (o::g) s :=
 A33 _ (.of2 (i.keep j.all) p) hi (I9 l).1 h
def Aec{a:Ka}{w w':World}(hi:Inv a w)(g:Kb w w'):En (λ_=>False) a w a w'/\Inv a w' :=
 ⟨⟨g.size,g.os,g.tape,g.output,rfl,λ b i=>g.blk b (hi.bh b i),λ b i _=>g.blk b i,λ k b _ i=>g.blk b (hi.bf k b i),λ _ _=>rfl,λ _ h=>h.elim,λ _ h=>.inl h⟩,
  ⟨hi.inj,λ k b h=>xB (hi.bf k b h) g.size,hi.apart,λ b h=>xB (hi.bh b h) g.size⟩⟩
theorem Spec.of_calls{P:Program}{f:FuncId}{A:List SV}{H:It}{u:Value}(h:∀(k:Ka) (w:World) (vs:List Value),Inv k w->B8 k w A vs->H.ok k w->Calls P f vs.toArray w λe w'=>e=.returned u/\RowKit.Below w.heap.size w w'):Spec P f A H (.val u) H:=by
 intro k w vs hi _ l j;refine(h k w vs hi l j).mono λe w' i=>?_
 obtain ⟨o,i⟩:=i;have g:Kb w w':=⟨i.os,i.tape,i.output,i.size,i.block⟩
 have st:=Aec hi g;exact⟨u,k,o,(bG.refl k w).step st.2 st.1,st.2,by simp[Rd],λp hp=>B3.step st.1 qx p.2 (j p hp)⟩
def Ax0{k:Ka}{w:World}{l:List ByteArray}{v:Value}(h:Rd k w (.sl 1 Ap l) v):(l=[]/\∃a c,v=.slice a 0 c)\/∃b o c,v=.slice (some ⟨b,o,none⟩) l.length c/\l.length<=c/\b<w.heap.size/\∀(j:Nat) x,l[j]? = some x->w.cell? ⟨b,o+j,none⟩=some (.string x):=by
 simp only[Rd,D3]at h;rcases h with ⟨g,p⟩|⟨b,off,cap,g,r,p,t,I⟩
 .exact .inl ⟨g,p⟩
 .refine .inr ⟨b,off,cap,g,r,t,λj x J=>?_⟩;obtain ⟨P,R⟩:=uZ.1 J;obtain ⟨u,i,h6⟩:=I j P;rw[R]at i;simp only[Ap,D3]at i;subst i;have:=h6.2.2 0 j_;simp only[tD,uO]at this;exact this
def dU{P:Program}{o:Oper}{s:SS}{x y:Operand}{at_:Array TypeId}{k l:IntKind}{m n:Int}(h:o.op=.call ⟨.builtin .min,#[x,y],at_⟩)(p:ev s x=.val (.int k m))(r:ev s y=.val (.int l n)):Good P o s ⟨.val (.int k (if n<m then n else m)),[],[]⟩ :=
 Good.pure λb a w _ g t=>by
  have i:=g x (by simp[h,Op.operands,Call.operands]);have j:=g y (by simp[h,Op.operands,Call.operands]);rw[p]at i;rw[r]at j;refine⟨.int k (if n<m then n else m),?_,by simp[Rd]⟩;simp[execOp,h,resolve,invoke,builtin,Builtin.min_,Builtin.min2,i.val,j.val]
def Avs{P:Program}{o:Oper}{s:SS}{x y:Operand}{at_:Array TypeId}{k g:IntKind}{m n:Int}(h:o.op=.call ⟨.builtin .min,#[x,y],at_⟩)(i:ev s x=.val (.int k m))(j:ev s y=.val (.int g n))(l:m<=n):Good P o s ⟨.val (.int k m),[],[]⟩:=by
 have:=dU (P:=P) h i j;rwa [zD j_]at this
def Hs(l:List ByteArray)(sep:ByteArray):ByteArray:=⟨(Lib.join (l.map (·.data.toList)) sep.data.toList).toArray⟩
def bV(l:List ByteArray):Nat:=(l.map (·.size)).sum
def join_le:∀(l:List (List UInt8)) (sep:List UInt8),(Lib.join l sep).length<=(l.map (·.length)).sum+sep.length*l.length
 |[],_=>by simp[Lib.join_nil]
 |x::r,sep=>by
  rw[Lib.join_length];have:Lib.lens (x::r)=((x::r).map (·.length)).sum:=by
   clear sep
   induction (x::r) with
   |nil=>rfl
   |cons a t g=>simp[Lib.lens,g]
  rw[this,yI,Nat.mul_succ];omega
def Bbv{l:List ByteArray}{sep:ByteArray}(g:bV l<=70368744177664)(j:sep.size*l.length<=70368744177664):(Lib.join (l.map (·.data.toList)) sep.data.toList).length<=140737488355328:=by
 have:=join_le (l.map (·.data.toList)) sep.data.toList;have e:(l.map (·.data.toList)).map (·.length)=l.map (·.size):=by
  rw[tR];apply vR;intro a _;rfl
 rw[e,yS]at this;have i:sep.data.toList.length=sep.size:=rfl;rw[i]at this;unfold bV at g;omega
end Go.Sy
namespace Go.Proofs
open Go.Shelf
def Tryz.lays156_ren:Go.Shelf.Ren:=⟨fun|156=>88|165=>173|166=>174|169=>175|240=>254|241=>255|276=>330|277=>331|n=>n,fun|31=>24|9=>9|3=>3|4=>4|0=>0|20=>20|72=>307|76=>310|70=>305|37=>22|75=>309|127=>398|164=>468|5=>5|80=>262|n=>n,fun|n=>n⟩
theorem Tryz.lays156:Go.Proofs.Lays.n156 Tryz.prog Tryz.lays156_ren:={
 mixed:=by kernel_rfl
 f156:=Tryz.func88.trans (zH some Go.Sy.y_)
 f165:=Tryz.func173.trans (zH some Go.Sy.y_)
 f166:=Tryz.func174.trans (zH some Go.Sy.y_)
 f169:=Tryz.func175.trans (zH some Go.Sy.y_)
 f240:=Tryz.func254.trans (zH some Go.Sy.y_)
 f241:=Tryz.func255.trans (zH some Go.Sy.y_)
 f276:=Tryz.func330.trans (zH some Go.Sy.y_)
 f277:=Tryz.func331.trans (zH some Go.Sy.y_)
 t0:=Tryz.underlying0
 a0:=Tryz.isAgg0
 z0:=Tryz.sizeOf0
 v0:=Tryz.zeroValue0
 t3:=Tryz.underlying3
 a3:=Tryz.isAgg3
 z3:=Tryz.sizeOf3
 v3:=Tryz.zeroValue3
 t4:=Tryz.underlying4
 a4:=Tryz.isAgg4
 z4:=Tryz.sizeOf4
 v4:=Tryz.zeroValue4
 t9:=Tryz.underlying9
 a9:=Tryz.isAgg9
 z9:=Tryz.sizeOf9
 v9:=Tryz.zeroValue9
 t20:=Tryz.underlying20
 a20:=Tryz.isAgg20
 z20:=Tryz.sizeOf20
 v20:=Tryz.zeroValue20
 t31:=Tryz.underlying24
 a31:=Tryz.isAgg24
 z31:=Tryz.sizeOf24
 v31:=Tryz.zeroValue24
 t37:=Tryz.underlying22
 a37:=Tryz.isAgg22
 z37:=Tryz.sizeOf22
 v37:=Tryz.zeroValue22
 t70:=Tryz.underlying305
 a70:=Tryz.isAgg305
 z70:=Tryz.sizeOf305
 v70:=Tryz.zeroValue305
 t72:=Tryz.underlying307
 a72:=Tryz.isAgg307
 z72:=Tryz.sizeOf307
 v72:=Tryz.zeroValue307
 t75:=Tryz.underlying309
 a75:=Tryz.isAgg309
 z75:=Tryz.sizeOf309
 v75:=Tryz.zeroValue309
 t76:=Tryz.underlying310
 a76:=Tryz.isAgg310
 z76:=Tryz.sizeOf310
 v76:=Tryz.zeroValue310
 t127:=Tryz.underlying398
 a127:=Tryz.isAgg398
 z127:=Tryz.sizeOf398
 v127:=Tryz.zeroValue398
 t164:=Tryz.underlying468
 a164:=Tryz.isAgg468
 z164:=Tryz.sizeOf468
 v164:=Tryz.zeroValue468 }
theorem Tryz.Builder_Extra_156:Builder.Extra Tryz.prog Tryz.lays156_ren:={
 sizeBuilder:=by kernel_rfl
 liesBuilder:=by kernel_rfl
 t5:=Tryz.underlying5
 a5:=Tryz.isAgg5
 z5:=Tryz.sizeOf5
 v5:=Tryz.zeroValue5
 infoByte:=by kernel_rfl
 cellsByte:=by kernel_rfl
 sizeByte:=by kernel_rfl
 neB5:=by decide }
open Go.RowKit in
theorem Tryz.strings_Join_none(a:Option Addr)(c:Nat)(sep:ByteArray)(w:World):Calls Tryz.prog 88 #[.slice a 0 c,.string sep] w λe w'=>e=.returned (.string ⟨#[]⟩)/\w'=w:=Any.strings_Join_none Tryz.lays156 Tryz.Builder_Extra_156 a c sep w
open Go.RowKit in
theorem Tryz.strings_Join(i o c:Nat)(xs:List ByteArray)(sep:ByteArray)(w:World)(p:∀(j:Nat) x,xs[j]? = some x->w.cell? ⟨i,o+j,none⟩=some (.string x))(l:i<w.heap.size)(r:xs.length<=140737488355328)(t:xs.length<=c)(g:(Lib.join (xs.map (·.data.toList)) sep.data.toList).length<=140737488355328):Calls Tryz.prog 88 #[.slice (some ⟨i,o,none⟩) xs.length c,.string sep] w λe w'=>e=.returned (.string ⟨(Lib.join (xs.map (·.data.toList)) sep.data.toList).toArray⟩)/\Below w.heap.size w w':=Any.strings_Join Tryz.lays156 Tryz.Builder_Extra_156 i o c xs sep w p l r t g
def Tryz.lays137_ren:Go.Shelf.Ren:=⟨fun|137=>208|217=>132|266=>211|n=>n,fun|9=>9|5=>5|3=>3|n=>n,fun|n=>n⟩
theorem Tryz.lays137:Go.Proofs.Lays.n137 Tryz.prog Tryz.lays137_ren:={
 mixed:=by kernel_rfl
 f137:=Tryz.func208.trans (zH some Go.Sy.y_)
 f217:=Tryz.func132.trans (zH some Go.Sy.y_)
 f266:=Tryz.func211.trans (zH some Go.Sy.y_)
 t3:=Tryz.underlying3
 a3:=Tryz.isAgg3
 z3:=Tryz.sizeOf3
 v3:=Tryz.zeroValue3
 t5:=Tryz.underlying5
 a5:=Tryz.isAgg5
 z5:=Tryz.sizeOf5
 v5:=Tryz.zeroValue5
 t9:=Tryz.underlying9
 a9:=Tryz.isAgg9
 z9:=Tryz.sizeOf9
 v9:=Tryz.zeroValue9 }
open Go.RowKit in
theorem Tryz.strings_IndexByte(s:ByteArray)(c:Int)(w:World):Calls Tryz.prog 208 #[.string s,.int .u8 c] w λe w'=>e=.returned (.int .i64 (Lib.indexByte s.data.toList c.toNat.toUInt8))/\w'=w:=Any.strings_IndexByte Tryz.lays137 s c w
def Tryz.lays219_ren:Go.Shelf.Ren:=⟨fun|219=>72|217=>132|225=>133|224=>134|267=>135|266=>211|314=>212|n=>n,fun|9=>9|3=>3|4=>4|5=>5|46=>109|146=>323|51=>95|n=>n,fun|1=>2|n=>n⟩
theorem Tryz.lays219:Go.Proofs.Lays.n219 Tryz.prog Tryz.lays219_ren:={
 mixed:=by kernel_rfl
 f217:=Tryz.func132.trans (zH some Go.Sy.y_)
 f219:=Tryz.func72.trans (zH some Go.Sy.y_)
 f224:=Tryz.func134.trans (zH some Go.Sy.y_)
 f225:=Tryz.func133.trans (zH some Go.Sy.y_)
 f266:=Tryz.func211.trans (zH some Go.Sy.y_)
 f267:=Tryz.func135.trans (zH some Go.Sy.y_)
 f314:=Tryz.func212.trans (zH some Go.Sy.y_)
 t3:=Tryz.underlying3
 a3:=Tryz.isAgg3
 z3:=Tryz.sizeOf3
 v3:=Tryz.zeroValue3
 t4:=Tryz.underlying4
 a4:=Tryz.isAgg4
 z4:=Tryz.sizeOf4
 v4:=Tryz.zeroValue4
 t5:=Tryz.underlying5
 a5:=Tryz.isAgg5
 z5:=Tryz.sizeOf5
 v5:=Tryz.zeroValue5
 t9:=Tryz.underlying9
 a9:=Tryz.isAgg9
 z9:=Tryz.sizeOf9
 v9:=Tryz.zeroValue9
 t46:=Tryz.underlying109
 a46:=Tryz.isAgg109
 z46:=Tryz.sizeOf109
 v46:=Tryz.zeroValue109
 t51:=Tryz.underlying95
 a51:=Tryz.isAgg95
 z51:=Tryz.sizeOf95
 v51:=Tryz.zeroValue95
 t146:=Tryz.underlying323
 a146:=Tryz.isAgg323
 z146:=Tryz.sizeOf323
 v146:=Tryz.zeroValue323
 g1:=by kernel_rfl }
open Go.RowKit Go.Lib in
theorem Tryz.stringslite_Index_one(s:ByteArray)(c:UInt8)(w:World):Calls Tryz.prog 72 #[.string s,.string ⟨#[c]⟩] w λe w'=>e=.returned (.int .i64 (Lib.indexByte s.data.toList c))/\w'=w:=Any.stringslite_Index_one Tryz.lays219 s c w
def Tryz.lays143_ren:Go.Shelf.Ren:=⟨fun|143=>37|219=>72|217=>132|225=>133|224=>134|267=>135|266=>211|314=>212|n=>n,fun|9=>9|3=>3|4=>4|5=>5|46=>109|146=>323|51=>95|n=>n,fun|1=>2|n=>n⟩
theorem Tryz.lays143:Go.Proofs.Lays.n143 Tryz.prog Tryz.lays143_ren:={
 mixed:=by kernel_rfl
 f143:=Tryz.func37.trans (zH some Go.Sy.y_)
 f217:=Tryz.func132.trans (zH some Go.Sy.y_)
 f219:=Tryz.func72.trans (zH some Go.Sy.y_)
 f224:=Tryz.func134.trans (zH some Go.Sy.y_)
 f225:=Tryz.func133.trans (zH some Go.Sy.y_)
 f266:=Tryz.func211.trans (zH some Go.Sy.y_)
 f267:=Tryz.func135.trans (zH some Go.Sy.y_)
 f314:=Tryz.func212.trans (zH some Go.Sy.y_)
 t3:=Tryz.underlying3
 a3:=Tryz.isAgg3
 z3:=Tryz.sizeOf3
 v3:=Tryz.zeroValue3
 t4:=Tryz.underlying4
 a4:=Tryz.isAgg4
 z4:=Tryz.sizeOf4
 v4:=Tryz.zeroValue4
 t5:=Tryz.underlying5
 a5:=Tryz.isAgg5
 z5:=Tryz.sizeOf5
 v5:=Tryz.zeroValue5
 t9:=Tryz.underlying9
 a9:=Tryz.isAgg9
 z9:=Tryz.sizeOf9
 v9:=Tryz.zeroValue9
 t46:=Tryz.underlying109
 a46:=Tryz.isAgg109
 z46:=Tryz.sizeOf109
 v46:=Tryz.zeroValue109
 t51:=Tryz.underlying95
 a51:=Tryz.isAgg95
 z51:=Tryz.sizeOf95
 v51:=Tryz.zeroValue95
 t146:=Tryz.underlying323
 a146:=Tryz.isAgg323
 z146:=Tryz.sizeOf323
 v146:=Tryz.zeroValue323
 g1:=by kernel_rfl }
open Go.RowKit Go.Lib in
theorem Tryz.strings_Index_one(s:ByteArray)(c:UInt8)(w:World):Calls Tryz.prog 37 #[.string s,.string ⟨#[c]⟩] w λe w'=>e=.returned (.int .i64 (Lib.indexByte s.data.toList c))/\w'=w:=Any.strings_Index_one Tryz.lays143 s c w
open Go.RowKit Go.Lib in
def Tryz.lays138_ren:Go.Shelf.Ren:=⟨fun|138=>44|195=>85|218=>87|143=>37|219=>72|217=>132|225=>133|224=>134|267=>135|266=>211|314=>212|n=>n,fun|9=>9|3=>3|4=>4|5=>5|0=>0|46=>109|146=>323|51=>95|n=>n,fun|1=>2|n=>n⟩
theorem Tryz.lays138:Go.Proofs.Lays.n138 Tryz.prog Tryz.lays138_ren:={
 mixed:=by kernel_rfl
 f138:=Tryz.func44.trans (zH some Go.Sy.y_)
 f143:=Tryz.func37.trans (zH some Go.Sy.y_)
 f195:=Tryz.func85.trans (zH some Go.Sy.y_)
 f217:=Tryz.func132.trans (zH some Go.Sy.y_)
 f218:=Tryz.func87.trans (zH some Go.Sy.y_)
 f219:=Tryz.func72.trans (zH some Go.Sy.y_)
 f224:=Tryz.func134.trans (zH some Go.Sy.y_)
 f225:=Tryz.func133.trans (zH some Go.Sy.y_)
 f266:=Tryz.func211.trans (zH some Go.Sy.y_)
 f267:=Tryz.func135.trans (zH some Go.Sy.y_)
 f314:=Tryz.func212.trans (zH some Go.Sy.y_)
 t0:=Tryz.underlying0
 a0:=Tryz.isAgg0
 z0:=Tryz.sizeOf0
 v0:=Tryz.zeroValue0
 t3:=Tryz.underlying3
 a3:=Tryz.isAgg3
 z3:=Tryz.sizeOf3
 v3:=Tryz.zeroValue3
 t4:=Tryz.underlying4
 a4:=Tryz.isAgg4
 z4:=Tryz.sizeOf4
 v4:=Tryz.zeroValue4
 t5:=Tryz.underlying5
 a5:=Tryz.isAgg5
 z5:=Tryz.sizeOf5
 v5:=Tryz.zeroValue5
 t9:=Tryz.underlying9
 a9:=Tryz.isAgg9
 z9:=Tryz.sizeOf9
 v9:=Tryz.zeroValue9
 t46:=Tryz.underlying109
 a46:=Tryz.isAgg109
 z46:=Tryz.sizeOf109
 v46:=Tryz.zeroValue109
 t51:=Tryz.underlying95
 a51:=Tryz.isAgg95
 z51:=Tryz.sizeOf95
 v51:=Tryz.zeroValue95
 t146:=Tryz.underlying323
 a146:=Tryz.isAgg323
 z146:=Tryz.sizeOf323
 v146:=Tryz.zeroValue323
 g1:=by kernel_rfl }
open Go.RowKit Go.Lib in
theorem Tryz.strings_Count_one(s:ByteArray)(c:UInt8)(w:World):Calls Tryz.prog 44 #[.string s,.string ⟨#[c]⟩] w λe w'=>e=.returned (.int .i64 (Lib.countByte s.data.toList c))/\w'=w:=Any.strings_Count_one Tryz.lays138 s c w
def Tryz.lays101_ren:Go.Shelf.Ren:=⟨fun|101=>210|208=>269|206=>338|n=>n,fun|9=>9|4=>4|3=>3|n=>n,fun|n=>n⟩
theorem Tryz.lays101:Go.Proofs.Lays.n101 Tryz.prog Tryz.lays101_ren:={
 mixed:=by kernel_rfl
 f101:=Tryz.func210.trans (zH some Go.Sy.y_)
 f206:=Tryz.func338.trans (zH some Go.Sy.y_)
 f208:=Tryz.func269.trans (zH some Go.Sy.y_)
 t3:=Tryz.underlying3
 a3:=Tryz.isAgg3
 z3:=Tryz.sizeOf3
 v3:=Tryz.zeroValue3
 t4:=Tryz.underlying4
 a4:=Tryz.isAgg4
 z4:=Tryz.sizeOf4
 v4:=Tryz.zeroValue4
 t9:=Tryz.underlying9
 a9:=Tryz.isAgg9
 z9:=Tryz.sizeOf9
 v9:=Tryz.zeroValue9 }
open Go.RowKit Go.Lib in
theorem Tryz.strings_TrimPrefix(s p:ByteArray)(w:World):Calls Tryz.prog 210 #[.string s,.string p] w λe w'=>e=.returned (.string ⟨(Lib.trimPrefix s.data.toList p.data.toList).toArray⟩)/\w'=w:=Any.strings_TrimPrefix Tryz.lays101 s p w
def Tryz.lays102_ren:Go.Shelf.Ren:=⟨fun|102=>13|209=>34|207=>70|n=>n,fun|9=>9|4=>4|3=>3|n=>n,fun|n=>n⟩
theorem Tryz.lays102:Go.Proofs.Lays.n102 Tryz.prog Tryz.lays102_ren:={
 mixed:=by kernel_rfl
 f102:=Tryz.func13.trans (zH some Go.Sy.y_)
 f207:=Tryz.func70.trans (zH some Go.Sy.y_)
 f209:=Tryz.func34.trans (zH some Go.Sy.y_)
 t3:=Tryz.underlying3
 a3:=Tryz.isAgg3
 z3:=Tryz.sizeOf3
 v3:=Tryz.zeroValue3
 t4:=Tryz.underlying4
 a4:=Tryz.isAgg4
 z4:=Tryz.sizeOf4
 v4:=Tryz.zeroValue4
 t9:=Tryz.underlying9
 a9:=Tryz.isAgg9
 z9:=Tryz.sizeOf9
 v9:=Tryz.zeroValue9 }
open Go.RowKit Go.Lib in
theorem Tryz.strings_TrimSuffix(s p:ByteArray)(w:World)(g:s.size<=9223372036854775807):Calls Tryz.prog 13 #[.string s,.string p] w λe w'=>e=.returned (.string ⟨(Lib.trimSuffix s.data.toList p.data.toList).toArray⟩)/\w'=w:=Any.strings_TrimSuffix Tryz.lays102 s p w g
end Go.Proofs
namespace Go.Sy.Zaa
open Go.Proofs Go.Proofs.Tryz
attribute [local irreducible]G DR
set_option maxRecDepth 20000
theorem iI{f0 o:Nat}{g:Func}(F0:fT f0 g)(j:g.ntmps=o)(h:fT f0 g->g.ntmps=o->∀ ⦃k:Type⦄ (sz:Nat) (e:k->SV) (l:List k) (i:Int),Sp f0 [.sl sz e l,Aa i] (Ab (Am i l.length)):=by
 intro F0 j k sz e l i
 refine cT F0 j λF p=>?_
 conv=>whnf
 (repeat' (first|(refine⟨λh=>?_,λh=>?_⟩<;>(repeat (first|simp only[zK]at h|simp only[yC]at h))<;>((refine oO ?_)))|(refine Av rfl As ?_ rfl)))
 all_goals (refine zH Ab ?_)
 all_goals grind [Am]):∀ ⦃k:Type⦄ (sz:Nat) (e:k->SV) (l:List k) (i:Int),Sp f0 [.sl sz e l,Aa i] (Ab (Am i l.length)):=h F0 j
def Oq:=iI F101 ntmps101
def Azp:=iI F176 ntmps176
def Atv:=iI F182 ntmps182
def cR:=iI F183 ntmps183
def Tq:=iI F184 ntmps184
def Azo:=iI F187 ntmps187
def Bb0(l:List Int)(x:Int)(r:At l):Sp 181 [.sl 1 Aa l,Aa x] (Aa (Bt (·==x) l)):=cT F181 ntmps181 λF t=>by
 unfold At at r
 conv=>whnf
 refine Bb l.length (λj=>∀i (h:i<l.length),i<j->(l[i]==x)=false) (λj=>[(0,.sl 1 Aa l),(1,Aa x),(7,Aa l.length),(8,Aa j)]) (λ_=>[]) [] (λi h o=>zW o j_) kU ?_;intro j o g;refine oO ?_
 (repeat' (first|(refine⟨λh=>?_,λh=>?_⟩<;>(repeat (first|simp only[zK]at h|simp only[yC]at h|simp only[yL]at h|simp only[zU]at h))<;>((refine oO ?_)))|(refine Av rfl As ?_ rfl)|(refine⟨y_,?_⟩;((conv=>whnf)))|(refine⟨by (omega),by (omega),?_⟩;((conv=>whnf)))|(refine⟨by (unfold S2;omega),?_⟩;((conv=>whnf)))|refine A6 [] g j_ ?_ kU))
 all_goals try (refine zH Aa ?_)
 .exact Dz j_ g (kS h.symm)
 .intro i hi I;rcases vD i j with p|p
  .exact g i hi p
  .have:i=j:=by omega
   subst this;simpa using Ne.symm h
 .exact Ez (λi hi=>g i hi j_)
def Ij(l:List Int)(x:Int)(g:At l):Sp 114 [.sl 1 Aa l,Aa x] (Ab (Li l x)):=cT F114 ntmps114 λF i=>by
 conv=>whnf
 (repeat' (first|(refine Av rfl As ?_ rfl)|(refine c0 (Bb0 _ _ g) F181 ?_;((refine oO ?_)))))
 exact zH Ab (Mr _ _).symm
def Hk(p:D4)(v:Int):Bool:=v != 0&&(v==p.native||Li p.u v)
def Aci(p:D4)(v:Int)(g:At p.u):Sp 185 [Bm p,Aa v] (Ab (Hk p v)):=cT F185 ntmps185 λF i=>by
 conv=>whnf
 (repeat' (first|(refine⟨λh=>?_,λh=>?_⟩<;>(repeat (first|simp only[yL]at h|simp only[zU]at h|simp only[xF]at h|simp only[bne_eq_false_iff_eq]at h))<;>((refine oO ?_)))|(refine Av rfl As ?_ rfl)|(refine c0 (Ij _ _ g) F114 ?_;((refine oO ?_)))))
 all_goals (refine zH Ab ?_)
 all_goals grind [Hk]
def lT(l:List Int)(g j:Int)(i:Nat)(x:Int):Bool:=decide (g<=x)&&decide (x<=j)&&(i==0||decide (Af l ((i:Int)-1)<x))
def O4(l:List Int)(g i:Int):Bool:=decide (0<l.length)&&decide (l.length<=16)&&Lu (lT l g i) l
def Ai3(l:List Int)(g o:Int)(r:At l):Sp 186 [.sl 1 Aa l,Aa g,Aa o] (Ab (O4 l g o)):=cT F186 ntmps186 λF t=>by
 unfold At at r
 conv=>whnf
 refine Bb l.length (λj=>Ic (lT l g o) l j) (λj=>[(0,.sl 1 Aa l),(1,Aa g),(2,Aa o),(9,.sl 1 Aa l),(10,Aa l.length),(11,Aa j)]) (λ_=>[]) [] (Bn _ _) kU ?_;intro j I p;refine oO ?_
 (repeat' (first|(refine⟨λh=>?_,λh=>?_⟩<;>(repeat (first|simp only[zK]at h|simp only[yC]at h))<;>((refine oO ?_);repeat((first|refine aF ?_|refine aT ?_);(refine oO ?_))))|(refine Av rfl As ?_ rfl)|(refine⟨y_,?_⟩;((conv=>whnf)))|(refine⟨by (first|(unfold S2;omega)|omega),by (omega),?_⟩;((conv=>whnf)))|(refine⟨by (unfold S2;omega),?_⟩;((conv=>whnf)))|refine A6 [] p j_ ?_ kU))
 all_goals try (refine zH Ab ?_)
 all_goals try simp only[yA,Int.pred_toNat]at *
 .rw[O4,Ew (i:=j) j_ (by simp[lT];omega)];simp
 .rw[O4,Ew (i:=j) j_ (by simp[lT];omega)];simp
 .rw[O4,Ew (i:=j) j_ (by simp only[lT,Aj (show ((j:Int)-1).toNat<l.length by omega),Int.pred_toNat,yA];simp;omega)];simp
 .exact Bk p j_ (by simp only[lT,Aj (show ((j:Int)-1).toNat<l.length by omega),Int.pred_toNat,yA];simp;omega)
 .exact Bk p j_ (by simp[lT];omega)
 .rw[O4,Ki p j_,xY];simp;omega
 .rw[O4];simp;omega
def Ap3(l:List Int)(g:Int)(i:At l):Sp 104 [.sl 1 Aa l,Aa g] (Ab (decide (l.length=0)||O4 l 1 g)):=cT F104 ntmps104 λF j=>by
 conv=>whnf
 (repeat' (first|(refine⟨λh=>?_,λh=>?_⟩<;>(repeat (first|simp only[yL]at h|simp only[zU]at h))<;>((refine oO ?_)))|(refine Av rfl As ?_ rfl)|(refine c0 (Ai3 l 1 g i) F186 ?_;((refine oO ?_)))))
 all_goals (refine zH Ab ?_)
 all_goals grind
def Mn{K:List Nat}:∀(a b:List SV),C7 K (a++b)=(C7 K a&&C7 K b)
 |[],b=>by simp[C7]
 |x::a,b=>by simp[C7,Mn a b,Bool.and_assoc]
def El{f:FuncId}{first cap xs:List SV}(g:(SV.clo (.func f) first cap).inn []=true)(i:C7 [] xs=true):C7 [] (first++xs++cap)=true:=by
 simp only[SV.inn,zG]at g;rw[Mn,Mn,g.1,g.2,i];rfl
theorem iD{A0:Type}(v0:A0->SV)(g:Nat){f0 m0:Nat}{r:Func}(F0:fT f0 r)(J:r.ntmps=m0)(h:let A0:Type:=A0;let v0:A0->SV:=v0;let g:=g;fT f0 r->r.ntmps=m0->∀ (l:List A0) (p:A0->Bool) (f:FuncId) (first cap:List SV) (o:(SV.clo (.func f) first cap).inn []=true) (P:∀ x∈l,J3 prog f (first++[v0 x]++cap) (Ab (p x))) (R:At l),Sp f0 [.sl g v0 l,.clo (.func f) first cap] (Aa (Bt p l)):=by
 intro A0 v0 g F0 J l p f first cap o P R
 refine cT F0 J λF hF=>?_
 unfold At at R;have br:∀x:A0,C7 [] (first++[v0 x]++cap)=true:=λx=>El o rfl
 conv=>whnf
 refine Bb l.length (λj=>Ic (λ_ x=>!(p x)) l j) (λj=>[(0,.sl g v0 l),(1,.clo (.func f) first cap),(7,Aa l.length),(8,Aa j)]) (λ_=>[]) [] (Bn _ _) ⟨⟨q_,q_,Br _,o,q_,q_,q_,q_,z_⟩,z_,q_,q_⟩ ?_;intro j hj t;refine gI ?_ ?_<;>intro h
 .have h:=zO h;have I:j<l.length:=by omega
  refine oO ?_;refine⟨q_,by omega,by omega,?_⟩
  conv=>whnf
  refine Is (P l[j] (zI I)) q_ q_ q_ (by simp only[br];rfl) q_ q_ ?_;refine oO ?_;constructor<;>intro h2
  .refine oO ?_;refine Av q_ As (zH Aa ?_) q_;exact Dz I (λi hi df=>kS (t i hi df)) h2
  .refine gG ?_;exact A6 [] t I (Bk t I (by simp[h2])) ⟨⟨q_,q_,Br _,o,q_,q_,q_,q_,z_⟩,z_,q_,q_⟩
 .have h:=zQ h;refine oO ?_;refine Av q_ As (zH Aa ?_) q_;exact Ez (λ i hi=>kS (t i hi j_))):∀ (l:List A0) (p:A0->Bool) (f:FuncId) (first cap:List SV) (o:(SV.clo (.func f) first cap).inn []=true) (P:∀ x∈l,J3 prog f (first++[v0 x]++cap) (Ab (p x))) (R:At l),Sp f0 [.sl g v0 l,.clo (.func f) first cap] (Aa (Bt p l)):=h F0 J
def Jz:=iD Ax 6 F256 ntmps256
def Ut:=iD Bm 7 F125 ntmps125
theorem iB{A0:Type}(v0:A0->SV)(g:Nat){f0 m0:Nat}{r:Func}(F0:fT f0 r)(I:r.ntmps=m0)(h:let A0:Type:=A0;let v0:A0->SV:=v0;let g:=g;fT f0 r->r.ntmps=m0->∀ (l:List A0) (p:Nat->A0->Bool) (f:FuncId) (first cap:List SV) (o:(SV.clo (.func f) first cap).inn []=true) (J:∀ i (h:i<l.length),J3 prog f (first++[Aa i,v0 l[i]]++cap) (Ab (p i l[i]))) (P:At l),Sp f0 [.sl g v0 l,.clo (.func f) first cap] (Ab (Lu p l)):=by
 intro A0 v0 g F0 I l p f first cap o J P
 refine cT F0 I λF hF=>?_
 unfold At at P;have br:∀(i:Nat) (x:A0),C7 [] (first++[Aa i,v0 x]++cap)=true:=λi x=>El o rfl
 conv=>whnf
 refine Bb l.length (λj=>Ic p l j) (λj=>[(0,.sl g v0 l),(1,.clo (.func f) first cap),(7,.sl g v0 l),(8,Aa l.length),(9,Aa j)]) (λ_=>[]) [] (Bn _ _) ⟨⟨q_,q_,Br _,o,q_,q_,q_,q_,q_,q_,z_⟩,z_,q_,q_⟩ ?_;intro j hj R;refine gI ?_ ?_<;>intro h
 .have h:=zO h;have t:j<l.length:=by omega
  refine oO ?_;refine⟨q_,by omega,by omega,?_⟩
  conv=>whnf
  refine Is (J j t) q_ q_ q_ (by simp only[br];rfl) q_ q_ ?_;refine oO ?_;constructor<;>intro h2
  .refine oO ?_;refine Av q_ As (zH Ab ?_) q_;exact Ew t (kS h2)
  .refine gG ?_;exact A6 [] R t (Bk R t (kS h2)) ⟨⟨q_,q_,Br _,o,q_,q_,q_,q_,q_,q_,z_⟩,z_,q_,q_⟩
 .have h:=zQ h;refine oO ?_;refine Av q_ As (zH Ab ?_) q_;exact Ki R j_):∀ (l:List A0) (p:Nat->A0->Bool) (f:FuncId) (first cap:List SV) (o:(SV.clo (.func f) first cap).inn []=true) (J:∀ i (h:i<l.length),J3 prog f (first++[Aa i,v0 l[i]]++cap) (Ab (p i l[i]))) (P:At l),Sp f0 [.sl g v0 l,.clo (.func f) first cap] (Ab (Lu p l)):=h F0 I
def A78:=iB Bm 7 F93 ntmps93
def A79:=iB Dq 3 F95 ntmps95
def Agq:=iB Ax 6 F90 ntmps90
def Aw4:=iB Bp 4 F97 ntmps97
def A14:=iB B6 4 F99 ntmps99
def Bdg:=iB D5 5 F102 ntmps102
def Bdh:=iB Dx 5 F105 ntmps105
def Bdf:=iB Aa 1 F178 ntmps178
structure Ai.Fin(n:Ai):Prop where
 j:At n.j
 g:At n.g
 x:At n.x
 c:At n.c
 ab:At n.ab
 y:At n.y
 ag:At n.ag
 r:At n.r
 u:∀p∈n.g,At p.u
 ae:∀d∈n.c,At d.ae
 aa:∀f∈n.y,At f.aa
 ak:∀v∈n.ag,At v.ak
 am:∀v∈n.ag,At v.am
def Ep(n:Ai)(dev g:Int):Int:=Bt (λd=>d.q==dev&&d.z==g) n.c
def Bfs(dev g:Int)(d:A0):Sp 257 [Ax d,.ref 1 (Aa dev) 0,.ref 1 (Aa g) 0] (Ab (d.q==dev&&d.z==g)):=cT F257 ntmps257 λF i=>by
 conv=>whnf
 (repeat' (first|(refine⟨λh=>?_,λh=>?_⟩<;>(repeat (first|simp only[yL]at h|simp only[zU]at h))<;>((refine oO ?_)))|(refine Av rfl As ?_ rfl)))
 all_goals (refine zH Ab ?_)
 all_goals simp_all
def Z6(n:Ai)(dev g:Int)(i:At n.c):Sp 177 [Aq n,Aa dev,Aa g] (Aa (Ep n dev g)):=cT F177 ntmps177 λF j=>by
 conv=>whnf
 refine Bi 4 1 (Aa dev) q_ q_ q_ (Bi 5 1 (Aa g) q_ q_ q_ ?_);refine gF (Jz n.c (λd=>d.q==dev&&d.z==g) 257 [] [.ref 1 (Aa dev) 0,.ref 1 (Aa g) 0] q_ (λd _=>⟨⟨_,_,F257⟩,Bfs dev g d⟩) i) F256 ?_;exact dN
def Amh(n:Ai):Bool:=decide (n.j.length<=8)&&decide (n.g.length<=40)&&decide (n.x.length<=20)&&decide (n.c.length<=48)&&decide (n.ab.length<=64)&&decide (n.y.length<=48)&&decide (n.ag.length<=16)&&decide (n.r.length<=48)
def fewS(n:Ai):Sp 89 [Aq n] (Ab (Amh n)):=cT F89 ntmps89 λF g=>by
 conv=>whnf
 (repeat' (first|(refine⟨λh=>?_,λh=>?_⟩<;>(repeat (first|simp only[zK]at h|simp only[yC]at h))<;>((refine oO ?_);repeat((refine aF ?_);(refine oO ?_))))|(refine Av rfl As ?_ rfl)))
 all_goals (refine zH Ab ?_)
 all_goals (unfold Amh;rw[xY];simp;omega)
def Wq(n:Ai)(i:Nat)(d:A0):Bool :=
 Am d.q n.j.length&&decide (1<=d.z)&&decide (d.z<=4094)&&decide (0<=d.ao)&&decide (d.ao<=16777215)&&(d.ar == -1||Am d.ar n.r.length&&(Af n.r d.ar).l==i)&&Ep n d.q d.z==i
def bareS(n:Ai)(i:Nat)(d:A0)(g:At n.c):Sp 91 [Aq n,Aa i,Ax d] (Ab (Wq n i d)):=cT F91 ntmps91 λF j=>by
 conv=>whnf
 (repeat' (first|(refine⟨λh=>?_,λh=>?_⟩<;>(repeat (first|simp only[Am]at h|simp only[zK]at h|simp only[yC]at h|simp only[yL]at h|simp only[zU]at h|simp only[zG]at h|simp only[xC]at h))<;>((refine oO ?_);repeat((first|refine aF ?_|refine aT ?_);(refine oO ?_))))|(refine Av rfl As ?_ rfl)|(refine⟨y_,?_⟩;((conv=>whnf)))|(refine⟨by (omega),by (omega),?_⟩;((conv=>whnf)))|(refine c0 (Oq 5 Bh n.j d.q) F101 ?_;((refine oO ?_)))|(refine c0 (Azp 5 Dx n.r d.ar) F176 ?_;((refine oO ?_)))|(refine c0 (Z6 n d.q d.z g) F177 ?_;((refine oO ?_)))))
 all_goals (refine zH Ab ?_)
 all_goals (clear j;grind [Wq,Am,Aj])
def U0(n:Ai)(d:A0):Bool:=(Af n.j d.q).aq != 0
def Bgq(n:Ai)(d:A0)(g:Am d.q n.j.length=true):Sp 258 [Aq n,Ax d] (Ab (U0 n d)):=cT F258 ntmps258 λF i=>by
 simp only[Am,zG,zK]at g
 conv=>whnf
 (repeat' (first|(refine Av rfl As ?_ rfl)|(refine⟨y_,?_⟩;((conv=>whnf)))|(refine⟨by (omega),by (omega),?_⟩;((conv=>whnf)))))
 all_goals (refine zH Ab ?_)
 all_goals (clear i;grind [U0,Aj])
def Yn(n:Ai)(i:Nat)(d:A0)(k:Int):Bool :=
 Am k n.c.length&&k != i&&Am (Af n.c k).q n.j.length&&(Af n.c k).q != d.q&&(Af n.c k).ao==d.ao&&d.ao != 0&&U0 n (Af n.c k)&&U0 n d&&Li (Af n.c k).ae i
def peerS(n:Ai)(i:Nat)(d:A0)(k:Int)(g:n.Fin)(j:Am d.q n.j.length=true):Sp 180 [Aq n,Aa i,Ax d,Aa k] (Ab (Yn n i d k)):=cT F180 ntmps180 λF l=>by
 conv=>whnf
 (repeat' (first|(refine⟨λh=>?_,λh=>?_⟩<;>(repeat (first|simp only[Am]at h|simp only[zK]at h|simp only[yC]at h|simp only[yL]at h|simp only[zU]at h|simp only[xF]at h|simp only[bne_eq_false_iff_eq]at h|simp only[zG]at h|simp only[xC]at h|simp only[xH]at h|simp only[vE]at h))<;>((refine oO ?_);repeat((first|refine aF ?_|refine aT ?_);(refine oO ?_))))|(refine Av rfl As ?_ rfl)|(refine⟨y_,?_⟩;((conv=>whnf)))|(refine⟨by (omega),by (omega),?_⟩;((conv=>whnf)))|(refine c0 (Tq 6 Ax n.c k) F184 ?_;((refine oO ?_)))|(refine c0 (Oq 5 Bh n.j (n.c[k.toNat]'j_).q) F101 ?_;((refine oO ?_)))|(refine c0 (Bgq n (n.c[k.toNat]'j_) (by simp only[Am,zG,zK];omega)) F258 ?_;((refine oO ?_)))|(refine c0 (Bgq n d j) F258 ?_;((refine oO ?_)))|(refine c0 (Ij (n.c[k.toNat]'j_).ae i (g.ae _ (zI _))) F114 ?_;((refine oO ?_)))))
 all_goals (refine zH Ab ?_;clear l;grind [Yn,Am,Aj])
def X2(n:Ai)(i:Nat)(d:A0):Bool:=Lu (λat_ k=>Yn n i d k&&Bt (·==k) d.ae==at_) d.ae
def peers1(n:Ai)(i:Nat)(d:A0)(at_:Nat)(k:Int)(g:n.Fin)(hp:At d.ae)(j:Am d.q n.j.length=true):Sp 179 [Aa at_,Aa k,.ref 8 (Aq n) 0,.ref 1 (Aa i) 0,.ref 6 (Ax d) 0] (Ab (Yn n i d k&&Bt (·==k) d.ae==at_)):=cT F179 ntmps179 λF l=>by
 conv=>whnf
 (repeat' (first|(refine⟨λh=>?_,λh=>?_⟩<;>((refine oO ?_)))|(refine Av rfl As ?_ rfl)|(refine c0 (peerS n i d k g j) F180 ?_;((refine oO ?_)))|(refine c0 (Bb0 d.ae k hp) F181 ?_;((refine oO ?_)))))
 all_goals (refine zH Ab ?_;clear l;grind)
def peersS(n:Ai)(i:Nat)(d:A0)(g:n.Fin)(hp:At d.ae)(j:Am d.q n.j.length=true):Sp 92 [Aq n,Aa i,Ax d] (Ab (X2 n i d)):=cT F92 ntmps92 λF l=>by
 conv=>whnf
 refine Bi 3 8 (Aq n) q_ q_ q_ ?_;refine Bi 4 1 (Aa i) q_ q_ q_ (Bi 5 6 (Ax d) q_ q_ q_ ?_);refine gF (Bdf d.ae (λat_ k=>Yn n i d k&&Bt (·==k) d.ae==at_) 179 [] [.ref 8 (Aq n) 0,.ref 1 (Aa i) 0,.ref 6 (Ax d) 0] q_ (λa o=>⟨⟨_,_,F179⟩,peers1 n i d a d.ae[a] g hp j⟩) hp) F178 ?_;exact dN
def I8(n:Ai)(dev g:Int):Bool:=decide (0<=Ep n dev g)
def Qj(n:Ai)(i:Nat)(p:D4):Bool :=
 Am p.q n.j.length&&decide (0<=p.native)&&decide (p.native<=4094)&&(decide (p.u.length=0)||O4 p.u 1 4094)&&!Li p.u p.native&&!(p.native==0&&decide (p.u.length=0)) &&
  Lu (λ_ v=>I8 n p.q v) p.u&&!(decide (0<p.native)&&!I8 n p.q p.native) &&
  (p.ah == -1||Am p.ah n.x.length&&((Af n.x p.ah).a==i||(Af n.x p.ah).b==i))
def A0l(n:Ai)(i:Nat)(p:D4)(o:n.Fin)(hp:At p.u):Sp 94 [Aq n,Aa i,Bm p] (Ab (Qj n i p)):=cT F94 ntmps94 λF l=>by
 conv=>whnf
 (repeat' (first|(refine⟨λh=>?_,λh=>?_⟩<;>(repeat (first|simp only[Am]at h|simp only[zK]at h|simp only[yC]at h|simp only[yL]at h|simp only[zU]at h|simp only[zG]at h|simp only[yR]at h|simp only[xC]at h|simp only[wY]at h|simp only[xH]at h|simp only[vE]at h))<;>((refine oO ?_);repeat((first|refine aF ?_|refine aT ?_);(refine oO ?_))))|(refine Av rfl As ?_ rfl)|(refine c0 (Oq 5 Bh n.j p.q) F101 ?_;((refine oO ?_)))|(refine c0 (Ap3 p.u 4094 hp) F104 ?_;((refine oO ?_)))|(refine c0 (Ij p.u p.native hp) F114 ?_;((refine oO ?_)))))
 all_goals first|(refine zH Ab ?_;clear l;grind [Qj,Am])|skip
 all_goals (
  refine Bi 3 8 (Aq n) q_ q_ q_ (Bi 5 7 (Bm p) q_ q_ q_ ?_);refine Bb p.u.length (λj=>Ic (λ_ v=>I8 n p.q v) p.u j) (λj=>[(1,Aa i),(3,.ref 8 (Aq n) 0),(5,.ref 7 (Bm p) 0),(51,.sl 1 Aa p.u),(52,Aa p.u.length),(53,Aa j)]) (λ_=>[]) [] (Bn _ _) kU ?_;intro j I g;have r:=hp;unfold At at r
  (refine fU ?_))
 all_goals (
  (repeat' (first | (refine⟨λ h=>?_,λ h=>?_⟩<;>(repeat (first | simp only[Am]at h | simp only[zK]at h | simp only[yC]at h | simp only[yL]at h | simp only[zU]at h | simp only[zG]at h | simp only[xC]at h))<;>((refine oO ?_);repeat((refine aF ?_);(refine oO ?_)))) | (refine Av rfl As ?_ rfl) | (refine⟨y_,?_⟩;((conv=>whnf))) | (refine⟨by (omega),by (omega),?_⟩;((conv=>whnf))) | (refine⟨by (unfold S2;omega),?_⟩;((conv=>whnf))) | (refine c0 (Z6 n p.q (p.u[j]'j_) o.c) F177 ?_;((refine oO ?_))) | (refine c0 (Z6 n p.q p.native o.c) F177 ?_;((refine oO ?_))) | (refine c0 (Atv 3 Dq n.x p.ah) F182 ?_;((refine oO ?_))) | refine A6 [] g j_ ?_ kU)))
 all_goals first
  |exact Bk g j_ (by simp only[I8,zK];omega)
  | (refine zH Ab ?_
     have t:Lu (λ _ v=>I8 n p.q v) p.u=false:=Ew (i:=j) j_ (by simp only[I8,yC];omega);clear l g;grind [Qj])
  | (refine zH Ab ?_
     have t:Lu (λ _ v=>I8 n p.q v) p.u=true:=Ki g j_;clear l g;grind [Qj,Am,I8,Aj])
def aU(n:Ai)(i:Nat)(l:eT):Bool :=
 Am l.a n.g.length&&Am l.b n.g.length&&(Af n.g l.a).q != (Af n.g l.b).q&&(Af n.g l.a).ah==i&&(Af n.g l.b).ah==i
def A0m(n:Ai)(i:Nat)(l:eT):Sp 96 [Aq n,Aa i,Dq l] (Ab (aU n i l)):=cT F96 ntmps96 λF g=>by
 conv=>whnf
 (repeat' (first|(refine⟨λh=>?_,λh=>?_⟩<;>(repeat (first|simp only[Am]at h|simp only[zK]at h|simp only[yC]at h|simp only[yL]at h|simp only[zU]at h|simp only[xF]at h|simp only[bne_eq_false_iff_eq]at h|simp only[zG]at h|simp only[xC]at h|simp only[xH]at h|simp only[vE]at h))<;>((refine oO ?_);repeat((first|refine aF ?_|refine aT ?_);(refine oO ?_))))|(refine Av rfl As ?_ rfl)|(refine⟨y_,?_⟩;((conv=>whnf)))|(refine⟨by (omega),by (omega),?_⟩;((conv=>whnf)))|(refine c0 (cR 7 Bm n.g l.a) F183 ?_;((refine oO ?_)))|(refine c0 (cR 7 Bm n.g l.b) F183 ?_;((refine oO ?_)))))
 all_goals (refine zH Ab ?_;clear g;grind [aU,Am,Aj])
def Tm(n:Ai)(s:I2):Bool :=
 Am s.l n.c.length&&Am s.ac n.g.length&&(Af n.g s.ac).q==(Af n.c s.l).q&&Hk (Af n.g s.ac) (Af n.c s.l).z
def Aqt(n:Ai)(i:Nat)(s:I2)(g:n.Fin):Sp 98 [Aq n,Aa i,Bp s] (Ab (Tm n s)):=cT F98 ntmps98 λF j=>by
 conv=>whnf
 (repeat' (first|(refine⟨λh=>?_,λh=>?_⟩<;>(repeat (first|simp only[Am]at h|simp only[zK]at h|simp only[yC]at h|simp only[yL]at h|simp only[zU]at h|simp only[zG]at h|simp only[xC]at h|simp only[xH]at h|simp only[vE]at h))<;>((refine oO ?_);repeat((refine aT ?_);(refine oO ?_))))|(refine Av rfl As ?_ rfl)|(refine⟨y_,?_⟩;((conv=>whnf)))|(refine⟨by (omega),by (omega),?_⟩;((conv=>whnf)))|(refine c0 (Tq 6 Ax n.c s.l) F184 ?_;((refine oO ?_)))|(refine c0 (cR 7 Bm n.g s.ac) F183 ?_;((refine oO ?_)))|(refine c0 (Aci (n.g[s.ac.toNat]'j_) (n.c[s.l.toNat]'j_).z (g.u _ (zI _))) F185 ?_;((refine oO ?_)))))
 all_goals (refine zH Ab ?_;clear j;grind [Tm,Am,Aj])
def Ajq(n:Ai)(i:Nat)(x:Irb):Bool :=
 Am x.l n.c.length&&Am x.bb n.ag.length&&(Af n.c x.l).q==(Af n.ag x.bb).q&&(Af n.c x.l).ar==i&&decide (1<=x.bits)&&decide (x.bits<=30)
def A65(n:Ai)(i:Nat)(x:Irb):Sp 106 [Aq n,Aa i,Dx x] (Ab (Ajq n i x)):=cT F106 ntmps106 λF g=>by
 conv=>whnf
 (repeat' (first|(refine⟨λh=>?_,λh=>?_⟩<;>(repeat (first|simp only[Am]at h|simp only[zK]at h|simp only[yC]at h|simp only[yL]at h|simp only[zU]at h|simp only[zG]at h|simp only[xC]at h))<;>((refine rd y_ ?_);(conv=>whnf);repeat((refine aF ?_);(refine rd y_ ?_);(conv=>whnf))))|(refine Av rfl As ?_ rfl)|(refine⟨y_,?_⟩;((conv=>whnf)))|(refine⟨by (omega),by (omega),?_⟩;((conv=>whnf)))|(refine cD (Tq 6 Ax n.c x.l) F184 ?_;((refine rd y_ ?_);(conv=>whnf)))|(refine cD (Azo 5 D5 n.ag x.bb) F187 ?_;((refine rd y_ ?_);(conv=>whnf)))))
 all_goals (refine zH Ab ?_;clear g;grind [Ajq,Am,Aj])
def Wn(n:Ai)(f:Mg):Bool:=Am f.q n.j.length&&decide (f.aa.length<=16)
def right1(n:Ai)(i:Nat)(f:Mg):Sp 100 [Aa i,B6 f,.ref 8 (Aq n) 0] (Ab (Wn n f)):=cT F100 ntmps100 λF g=>by
 conv=>whnf
 (repeat' (first|(refine⟨λh=>?_,λh=>?_⟩<;>(repeat (first|simp only[Am]at h|simp only[zK]at h|simp only[yC]at h|simp only[zG]at h|simp only[xC]at h))<;>((refine oO ?_)))|(refine Av rfl As ?_ rfl)|(refine c0 (Oq 5 Bh n.j f.q) F101 ?_;((refine oO ?_)))))
 all_goals (refine zH Ab ?_;clear g;grind [Wn,Am])
def cA(l:List Int)(g:Int):Bool:=decide (l.length=0)||O4 l 1 g
def Ar7(n:Ai)(v:Vrf):Bool:=Am v.q n.j.length&&cA v.ak 65535&&cA v.am 65535
def right2(n:Ai)(i:Nat)(v:Vrf)(g:At v.ak)(j:At v.am):Sp 103 [Aa i,D5 v,.ref 8 (Aq n) 0] (Ab (Ar7 n v)):=cT F103 ntmps103 λF l=>by
 conv=>whnf
 (repeat' (first|(refine⟨λh=>?_,λh=>?_⟩<;>(repeat (first|simp only[Am]at h|simp only[zK]at h|simp only[yC]at h|simp only[zG]at h|simp only[yR]at h|simp only[xC]at h|simp only[wY]at h))<;>((refine oO ?_);repeat((refine aF ?_);(refine oO ?_))))|(refine Av rfl As ?_ rfl)|(refine c0 (Oq 5 Bh n.j v.q) F101 ?_;((refine oO ?_)))|(refine c0 (Ap3 v.ak 65535 g) F104 ?_;((refine oO ?_)))|(refine c0 (Ap3 v.am 65535 j) F104 ?_;((refine oO ?_)))))
 all_goals (refine zH Ab ?_;clear l;grind [Ar7,cA,Am])
def Ac(n:Ai):Bool :=
 Amh n&&Lu (Wq n) n.c&&Lu (X2 n) n.c&&Lu (Qj n) n.g&&Lu (aU n) n.x&&Lu (λ_=>Tm n) n.ab&&Lu (λ_=>Wn n) n.y&&Lu (λ_=>Ar7 n) n.ag&&Lu (Ajq n) n.r
def Awx{n:Ai}(h:Lu (Wq n) n.c=true){i:Nat}(hi:i<n.c.length):Am n.c[i].q n.j.length=true:=by
 have:=Cm.1 h i hi;simp only[Wq,zG]at this;exact this.1.1.1.1.1.1
def A7(n:Ai)(g:n.Fin):Sp 49 [Aq n] (Ab (Ac n)):=cT F49 ntmps49 λF j=>by
 conv=>whnf
 refine Bi 1 8 (Aq n) q_ q_ q_ ?_
 (repeat' (first|(refine⟨λh=>?_,λh=>?_⟩<;>((refine oO ?_);repeat((refine aF ?_);(refine oO ?_))))|(refine Av rfl As ?_ rfl)|(refine c0 (fewS n) F89 ?_;((refine oO ?_)))|(refine c0 (Agq n.c (Wq n) 91 [Aq n] [] rfl (λi h=>⟨⟨_,_,F91⟩,bareS n i n.c[i] g.c⟩) g.c) F90 ?_;((refine oO ?_)))|(refine U3 (Agq n.c (X2 n) 92 [Aq n] [] rfl (λi h=>⟨⟨_,_,F92⟩,peersS n i n.c[i] g (g.ae _ (zI _)) (Awx ‹_› h)⟩) g.c) F90 rfl rfl rfl rfl rfl ?_;((refine oO ?_)))|(refine U3 (A78 n.g (Qj n) 94 [Aq n] [] rfl (λi h=>⟨⟨_,_,F94⟩,A0l n i n.g[i] g (g.u _ (zI _))⟩) g.g) F93 rfl rfl rfl rfl rfl ?_;((refine oO ?_)))|(refine c0 (A79 n.x (aU n) 96 [Aq n] [] rfl (λi h=>⟨⟨_,_,F96⟩,A0m n i n.x[i]⟩) g.x) F95 ?_;((refine oO ?_)))|(refine c0 (Aw4 n.ab (λ_=>Tm n) 98 [Aq n] [] rfl (λi h=>⟨⟨_,_,F98⟩,Aqt n i n.ab[i] g⟩) g.ab) F97 ?_;((refine oO ?_)))|(refine c0 (A14 n.y (λ_=>Wn n) 100 [] [.ref 8 (Aq n) 0] rfl (λi h=>⟨⟨_,_,F100⟩,right1 n i n.y[i]⟩) g.y) F99 ?_;((refine oO ?_)))|(refine U3 (Bdg n.ag (λ_=>Ar7 n) 103 [] [.ref 8 (Aq n) 0] rfl (λi h=>⟨⟨_,_,F103⟩,right2 n i n.ag[i] (g.ak _ (zI _)) (g.am _ (zI _))⟩) g.ag) F102 rfl rfl rfl rfl rfl ?_;((refine oO ?_)))|(refine c0 (Bdh n.r (Ajq n) 106 [Aq n] [] rfl (λi h=>⟨⟨_,_,F106⟩,A65 n i n.r[i]⟩) g.r) F105 ?_;((refine oO ?_)))))
 all_goals (refine zH Ab ?_)
 all_goals (clear j;simp_all[Ac])
end Go.Sy.Zaa
namespace Go.Sy
def Axa(C:Cx){b:Type}(I:b->Prop)(L:b->List (Nat×SV))(O:b->It)(r:b->Nat)(x:b)(a:Act)(w:World):Prop :=
 ∃g:{y:b // I y},∃k,r g.1<r x/\St C.F C.n (mkS (L g.1) (O g.1)) k a w
def Dc{C:Cx}{k:List KI}{s:SS}{body:Code}{r:Type}(I:r->Prop)(L:r->List (Nat×SV))(O:r->It)(m:r->Nat)(x₀:r)(a:List (Nat×Nat))(g:I x₀)(i:Sub C s a (L x₀) (O x₀))(h:∀x,I x->G C (.code body::.inv (Axa C I L O m x)::k) (mkS (L x) (O x))):G C (.code (.loop body)::k) s :=
 eW (α:={y:r // I y}) (λx=>L x.1) (λx=>O x.1) (λx=>m x.1) ⟨x₀,g⟩ a i (λx=>h x.1 x.2)
def A8{C:Cx}{k:List KI}{s:SS}{b:Type}{I:b->Prop}{L:b->List (Nat×SV)}{O:b->It}{r:b->Nat}{x:b}(g:b)(a:List (Nat×Nat))(i:I g)(hμ:r g<r x)(j:Sub C s a (L g) (O g)):G C (.inv (Axa C I L O r x)::k) s:=λ_ _ _ l=>⟨⟨g,i⟩,_,hμ,j.st l⟩
def eV{C:Cx}{kk:List KI}{s:SS}(k d:Nat){sz:Nat}{f:Type}{e:f->SV}{l:List f}(h:s.h k=.row sz e l)(hd:s.h d=.fresh)(cd:k≠d)(hg:G C kk ⟨λi=>frz k (.osl d) (s.σ i),upd (λj=>bif Nat.beq j k then .non else A7f k (.osl d) (s.h j)) d (.row sz e l)⟩):G C kk s:=λc a w p=>by
 have cz:=p.obj k;rw[h]at cz;have ay:c d=.new:=by have:=p.obj d;rwa [hd]at this
 have fin:∀c':Ka,(∀j,j≠k->j≠d->c' j=c j)->En (λj=>j=k\/j=d) c w c' w->Inv c' w->(∀v,Rd c w (.osl k) v->Rd c' w (.osl d) v)->B3 c' w d (.row sz e l)->den C.P C.B kk .normal a w:=by
  intro c' ag st inv r ho;refine hg c' a w ⟨p.defers,p.size,inv,p.ctx.step inv st,λj=>Aq5 st r _ _ (p.ax j),λj=>?_⟩;show B3 c' w j (upd (λj=>bif Nat.beq j k then .non else A7f k (.osl d) (s.h j)) d (.row sz e l) j);by_cases t:j=d
  .subst t;rw[C2];exact ho
  .rw[D7 _ _ t];by_cases I:j=k
   .subst I;rw[show Nat.beq j j=true from tT j];trivial
   .rw[show Nat.beq j k=false from by cases g:Nat.beq j k with|false=>rfl|true=>exact zW (yN g) I];have g:=B3.step st (λe=>e.elim I t) _ (p.obj j);have J:=p.obj j;show B3 c' w j (A7f k (.osl d) (s.h j));cases o:s.h j with
    |box m=>
     rw[o]at J g;obtain ⟨b,cs,T,fr,R,e2,e3,e4,e5⟩:=J;exact⟨b,cs,T,fr,(ag j I t).trans R,e2,e3,e4,Sl st r m cs e5⟩
    |tbox T m=>
     rw[o]at J g;obtain ⟨b,cs,fr,R,e2,e3,e4,e5⟩:=J;exact⟨b,cs,fr,(ag j I t).trans R,e2,e3,e4,Sl st r m cs e5⟩
    |fresh=>rw[o]at g;exact g
    |non=>rw[o]at g;exact g
    |row ef e' l'=>rw[o]at g;exact g
    |lit ef a2=>rw[o]at g;exact g
    |glob ef x' g'=>rw[o]at g;exact g
    |pin b' n' dy ef e' l'=>rw[o]at g;exact g
    |dat v' ef e' l'=>rw[o]at g;exact g
    |trow T' m'=>rw[o]at g;exact g
    |rown ef e' l' i' a1=>
     rw[o]at J;obtain ⟨b2,pf,wa,T2,xm,f1,f2,f3,f4,f5,f6,f7,a0,v1,v2,v3,v4⟩:=J;refine⟨b2,pf,wa,T2,xm,(ag j I t).trans f1,f2,f3,f4,f5,λm y hm hy=>?_,f7,a0,v1,v2,Sl st r a1 a0 v3,v4⟩;obtain ⟨g0,u,g1,g2⟩:=f6 m y hm hy;exact⟨g0,u,D3.keep st.keeps _ _ g1,g2⟩
 rcases cz with ⟨h1,rfl⟩|⟨b,cap,cs,T,fr,R,e2,e3,e4,e5,e6⟩
 .have st:=Lm (Oz p.inv (some k)) (by show H4 c k .dead d=.new;rw[C4 _ _ (Ne.symm cd)];exact ay) (e:=.nil) (Kb.refl w) (λb g=>by cases g);refine fin _ (λj h1 h2=>by rw[C4 _ _ h2];exact C4 _ _ h1) (((Lx (some k)).weaken (λj t=>.inl (Option.some.inj t).symm)).trans (st.1.weaken (λj t=>.inr t))) st.2 (λv r=>?_) (.inl ⟨Az _ _ _,q_⟩);simp only[Rd,h1]at r;simp[Rd,Az,r]
 .obtain ⟨st,inv⟩:=Vm (n':=l.length) (w':=w) p.inv R ay rfl rfl rfl rfl (λ_ _=>rfl);refine fin _ (λj h1 h2=>by rw[C4 _ _ h2];exact C4 _ _ h1) st inv (λv r=>?_) (.inr ⟨b,cap,cs,T,fr,Az _ _ _,e2,e3,e4,e5,λi x hx=>?_⟩)
  .simp only[Rd,R]at r;simp[Rd,Az,r]
  .obtain ⟨q1,u,q2,q3⟩:=e6 i x hx;exact⟨q1,u,D3.keep st.keeps _ _ q2,q3⟩
def Wu{C:Cx}{k:List KI}{s:SS}(d:Nat){sz:Nat}{c:Type}(e:c->SV)(l:List c){o:List SV}(h:s.h d=.lit sz o)(r:l.map e=o)(J:G C k ⟨s.σ,upd s.h d (.row sz e l)⟩):G C k s:=λm a w p=>by
 refine J m a w ⟨p.defers,p.size,p.inv,p.ctx,p.ax,λj=>?_⟩;show B3 m w j (upd s.h d (.row sz e l) j);by_cases t:j=d
 .subst t;rw[C2];have I:=p.obj j;rw[h]at I;have g:l.length=o.length:=by rw[<-r,yS]
  obtain ⟨b,cap,cs,T,P,R,e2,e3,e4,e5,e6⟩:=I;exact .inr ⟨b,cap,cs,T,P,by rw[g];exact R,e2,e3,e4,by omega,λi x hx=>by rw[g];exact e6 i x (Yi r i x hx)⟩
 .rw[D7 _ _ t];exact p.obj j
end Go.Sy
