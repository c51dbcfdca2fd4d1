/- Parts of a proof. -/
import Derived.Test.YtodbnbfjhjcanaaGreatDoorXB3
import Derived.Test.YtodbnbfjhjcanaaGreatDoorProg
import Derived.ProofKit
import Derived.OpenShut
import Derived.Lib.Join
import Derived.Shelf.Strings.Search3
import Derived.Shelf.Strings.Cut
import Derived.Shelf.Strings.Prefix
set_option maxHeartbeats 4000000
set_option linter.all false
namespace Go.Sy
def Axy{P:Program}(w:World)(dT sT ty elem:TypeId)(d a:Option Addr)(m9 xb nc xc:Nat){i:TypeInfo}(hu:P.underlying dT=some (.slice elem))(hq:P.info? elem=some i)(_hi:i.size=1)(hn:min nc m9=0):(Builtin.copy_ #[dT,sT] ty #[.slice d m9 xb,.slice a nc xc]).run P w=.ok (.int .i64 0) w:=by
 have hl:∀(x:Addr),(loadCells x 0).run P w=.ok #[] w:=λx=>kS (run_loadCells_list (P:=P) w x [] y_)
 have mg:Nat.min nc m9=0:=hn;cases d<;>cases a<;>simp[Builtin.copy_,run_underlying hu,Builtin.lenOf,Builtin.firstCells,sizeOf,typeInfo,hq,mg,storeCells,hl]<;>rfl
def Ag7{P:Program}(w w':World)(dT sT ty elem:TypeId)(d a:Addr)(m9 xb nc xc:Nat){i:TypeInfo}(cs:List Value)(hu:P.underlying dT=some (.slice elem))(hq:P.info? elem=some i)(hi:i.size=1)(hn:cs.length=min nc m9)(iw:∀j v,cs[j]? = some v->w.cell? (a.add j)=some v)(br:(storeCells d cs 0).run P w=.ok () w'):(Builtin.copy_ #[dT,sT] ty #[.slice (some d) m9 xb,.slice (some a) nc xc]).run P w=.ok (.int .i64 cs.length) w':=by
 have hl:=run_loadCells_list (P:=P) w a cs iw;have mg:cs.length=Nat.min nc m9:=hn;simp[Builtin.copy_,run_underlying hu,Builtin.lenOf,Builtin.firstCells,sizeOf,typeInfo,hq,hi,<-mg,hl,br];rfl
def X0{P:Program}(Γ:Ty P){o:Oper}{s:SS}{t:TypeId}{ti:TI}{et:TypeId}{eb k:Nat}{ez:List Value}{x y:Operand}{ks:List Nat}{d:Type}{e:d->SV}{l m:List d}(h:o.op=.call ⟨.builtin .copy,#[x,y],#[t,t]⟩)(ht:Γ.get t=some ti)(hk:ti.k=.slice et 1 eb ez)(hx:ev s x=.osl k)(ho':s.h k=.row 1 e l)(hs:AppSrc s 1 (ev s y) ks m.length (rowF e m)):Good P o s ⟨.val (.int .i64 (min m.length l.length:Nat)),ks,[(k,.row 1 e (m.take l.length++l.drop m.length))]⟩:=by
 intro r a w hi hr ho N Q hN;have h1:=hr x (by simp[h,Op.operands,Call.operands]);have h2:=hr y (by simp[h,Op.operands,Call.operands]);have h3:=ho k (.inr (by simp[Up.ws]));rw[ho']at h3;obtain ⟨hu,i,z,q1,q2,q3,q4,q5⟩:=Cu Γ ht hk;have iw:=hs.src h2 (λj hj=>ho j (.inl hj));have hlen:∃ad cap,a.eval x=.slice ad l.length cap/\(l≠[]->∃b c,r k=.row b l.length c/\ad=some ⟨b,0,none⟩):=by
  have:=Ob.len_ok (ob:=.row 1 e l) (n:=l.length) rfl h3 (v:=a.eval x) (by rw[<-hx];exact h1);obtain ⟨ad,cap,e1,e2⟩:=this;exact⟨ad,cap,e1,λhl=>e2 (kS hl)⟩
 obtain ⟨ad,cap,e1,e2⟩:=hlen;by_cases hz:min m.length l.length=0
 .have gr:m.take l.length++l.drop m.length=l:=by
   rcases uQ m.length with h0|h0
   .have:m=[]:=vA.1 h0;subst this;simp
   .have:l=[]:=vA.1 q_;subst this;simp
  have oc:∃a' c',a.eval y=.slice a' m.length c':=by
   rcases iw with ⟨h0,_,a',c',h4⟩|⟨b,off,c',news,h4,_⟩
   .exact⟨a',c',by rw[h4,h0]⟩
   .exact⟨_,_,h4⟩
  obtain ⟨a',c',h4⟩:=oc;have au:(execOp a.eval o).run P w=.ok (.value (.int .i64 (min m.length l.length:Nat))) w:=by
   have:=Axy (P:=P) w t t o.type et ad a' l.length cap m.length c' hu q1 q2 hz;rw[hz];simp[execOp,h,resolve,invoke,builtin,e1,h4,this]
  simp only[Oper.wp,au,Oper.upon];refine hN _ r w ((Kb [] r hi).1.weaken y_) hi (by simp[Rd]) (λp hp=>?_);simp only[zX]at hp;subst hp;rw[gr];exact h3
 .have hl:l≠[]:=by rintro rfl;simp at hz
  have h4:=h3.rowAt hl;obtain ⟨b,d6,cs,T,fr,f1,f2,f3,f4,f5,f6⟩:=h4;obtain ⟨b',c',g1,g2⟩:=e2 hl;rw[f1]at g1;cases g1;rcases iw with ⟨h0,_⟩|⟨b2,off,c2,news,g3,g4,g5,g6,g7⟩
  .simp[h0]at hz
  .have hn:(news.take (min m.length l.length)).length=min m.length l.length:=by simp;omega
   obtain ⟨w',k1,k2,k3,k4,k5,k6,k7⟩:=Dr P b 0 T fr (news.take (min m.length l.length)) 0 cs w f2 f3 (by rw[hn];omega) (λ v hv=>g5 v (wV hv));have hc:=Ag7 (P:=P) w w' t t o.type et ⟨b,0,none⟩ ⟨b2,off,none⟩ l.length cap m.length c2 (news.take (min m.length l.length)) hu q1 q2 hn (λ j v hv=>by
    rw[Addr.add_lit];refine g6 j v ?_;rw[uD]at hv;split at hv
    .exact hv
    .cases hv) k1
   rw[hn]at hc;have au:(execOp a.eval o).run P w=.ok (.value (.int .i64 (min m.length l.length:Nat))) w':=by
    subst g2;simp[execOp,h,resolve,invoke,builtin,e1,g3,hc]
   simp only[Oper.wp,au,Oper.upon];obtain ⟨st,inv⟩:=Tx hi (k:=k) (b:=b) (by rw[f1];rfl) k3 k4 k5 k6 k7;refine hN _ r w' (st.weaken (by simp[Up.ws])) inv (by simp[Rd]) (λp hp=>?_);simp only[zX]at hp;subst hp;have js:(m.take l.length++l.drop m.length).length=l.length:=by simp;omega
   refine .inr ⟨b,d6,_,T,fr,by rw[js];exact f1,k2,by rw[Cm];exact f3,by rw[Cm];exact f4,by rw[js];exact f5,?_⟩;rintro j x ⟨hj,rfl⟩;rw[js]at hj;refine⟨by rw[js];exact hj,?_⟩;have bh:=Oq cs (news.take (min m.length l.length)) 0;by_cases hjm:j<m.length
   .obtain ⟨_,u,u1,u2,u3,u4⟩:=g7 j (e m[j]) ⟨hjm,rfl⟩;refine⟨u,?_,u2,u3,λi hi'=>?_⟩
    .have:(m.take l.length++l.drop m.length)[j]=m[j]:=by
      rw[yZ kO,wD]
     rw[this];exact RdD.keep st.keeps _ _ u1
    .have dt:i=0:=by omega
     subst dt;simp only[Nat.mul_one,Nat.add_zero]at u4|-;rw[bh _ q_,zE q_,uD,zE q_];have:=u4 0 q_;simpa using this
   .obtain ⟨_,u,u1,u2,u3,u4⟩:=f6 j (e l[j]) ⟨hj,rfl⟩;refine⟨u,?_,u2,u3,λi hi'=>?_⟩
    .have:(m.take l.length++l.drop m.length)[j]'(by rw[js];exact hj)=l[j]:=by
      rw[xQ kO,vW];congr 1;simp;omega
     rw[this];exact RdD.keep st.keeps _ _ u1
    .have dt:i=0:=by omega
     subst dt;simp only[Nat.mul_one,Nat.add_zero]at u4|-;rw[bh _ q_,zD q_];have:=u4 0 q_;simpa using this
def Aok(C:Cx)(n:Nat)(L:Nat->List (Nat×SV))(O:Nat->Obs)(i:Nat)(a:Act)(w:World):Prop :=
 ∃x':{j:Nat // j<=n},∃k,n-x'.1<n-i/\St C.F C.n (mkS (L x'.1) (O x'.1)) k a w
def Bg{C:Cx}{k:List KI}{s:SS}{body:Code}(n:Nat)(L:Nat->List (Nat×SV))(O:Nat->Obs)(a:List (Nat×Nat))(ar:Sub C s a (L 0) (O 0))(h:∀i,i<=n->G C (.code body::.inv (Aok C n L O i)::k) (mkS (L i) (O i))):G C (.code (.loop body)::k) s :=
 Xk (α:={j:Nat // j<=n}) (λx=>L x.1) (λx=>O x.1) (λx=>n-x.1) ⟨0,xN _⟩ a ar (λx=>h x.1 x.2)
def Az{C:Cx}{k:List KI}{s:SS}{n:Nat}{L:Nat->List (Nat×SV)}{O:Nat->Obs}{i:Nat}(a:List (Nat×Nat))(hi:i+1<=n)(ar:Sub C s a (L (i+1)) (O (i+1))):G C (.inv (Aok C n L O i)::k) s :=
 Zj (α:={j:Nat // j<=n}) (L:=λx=>L x.1) (O:=λx=>O x.1) (μ:=λx=>n-x.1) (x:=⟨i,by omega⟩) ⟨i+1,hi⟩ a (by simp only;omega) ar
inductive SrcT{α:Type}(s:SS)(sz:Nat)(e:α->SV):SV->List Nat->List α->Prop
 |sl {l:List α}:SrcT s sz e (.sl sz e l) [] l
 |row {k:Nat} {l:List α} (h:s.h k=.row sz e l):SrcT s sz e (.osl k) [k] l
 |lit {k:Nat} {l:List α} {svs:List SV} (h:s.h k=.lit sz svs) (hl:l.map e=svs):SrcT s sz e (.osl k) [k] l
 |nil:SrcT s sz e (.val (.slice none 0 0)) [] []
inductive BaseT{α:Type}(s:SS)(sz:Nat)(e:α->SV):SV->Option Nat->List α->Prop
 |nil:BaseT s sz e (.val (.slice none 0 0)) none []
 |row {k:Nat} {l:List α} (h:s.h k=.row sz e l):BaseT s sz e (.osl k) (some k) l
 |lit {k:Nat} {l:List α} {svs:List SV} (h:s.h k=.lit sz svs) (hl:l.map e=svs):BaseT s sz e (.osl k) (some k) l
theorem SrcT.src{a:Type}{s:SS}{sz:Nat}{e:a->SV}{x:SV}{ks:List Nat}{m:List a}(h:SrcT s sz e x ks m):∃g,AppSrc s sz x ks m.length g/\∀i x,rowF e m i x->g i x:=by
 cases h with
 |sl=>exact⟨_,.sl,λ_ _ h=>h⟩
 |row h=>exact⟨_,.row h,λ_ _ h=>h⟩
 | @lit k _ svs h hl=>exact⟨Aex svs,by have:=AppSrc.lit (sz:=sz) h;rwa [<-hl,yW,hl]at this,λi x hx=>Sx hl i x hx⟩
 |nil=>exact⟨_,.nil,λi x hx=>by obtain ⟨h,_⟩:=hx;simp at h⟩
theorem BaseT.base{a:Type}{s:SS}{sz:Nat}{e:a->SV}{x:SV}{k:Option Nat}{m:List a}(h:BaseT s sz e x k m):∃g,AppBase s sz x k m.length g/\∀i x,rowF e m i x->g i x:=by
 cases h with
 |row h=>exact⟨_,.row h,λ_ _ h=>h⟩
 | @lit k _ svs h hl=>exact⟨Aex svs,by have:=AppBase.lit (sz:=sz) h;rwa [<-hl,yW,hl]at this,λi x hx=>Sx hl i x hx⟩
 |nil=>exact⟨_,.nil,λi x hx=>by obtain ⟨h,_⟩:=hx;simp at h⟩
def Ah{P:Program}(Γ:Ty P){o:Oper}{s:SS}(d:Nat){b:Type}{e:b->SV}{l m:List b}{t:TypeId}{ti:TI}{et:TypeId}{sz eb:Nat}{ez:List Value}{x y:Operand}{k:Option Nat}{ks:List Nat}(h:o.op=.call ⟨.builtin .append,#[x,y],#[t,t]⟩)(hd:s.h d=.fresh)(ht:Γ.get t=some ti)(hk:ti.k=.slice et sz eb ez)(p6:ez.length=sz)(hb:BaseT s sz e (ev s x) k l)(hs:SrcT s sz e (ev s y) ks m)(pc:∀j,k=some j->j≠d)(da:(l.length+m.length)*eb<=140737488355328)(s8:l.length+m.length<=9223372036854775807):Good P o s ⟨.osl d,ks,U4 k d (.row sz e (l++m))⟩:=by
 obtain ⟨f,hb,hf⟩:=hb.base;obtain ⟨g,hs,hg⟩:=hs.src;exact nS Γ h hd ht hk p6 hb hs pc da s8 λa w hr=>A29 hr y_ (Azq hf hg)
def Lh{P:Program}(Γ:Ty P){o:Oper}{s:SS}{src dst:TypeId}{si di ei:TI}{x:Operand}{et:TypeId}{eb:Nat}{ez:List Value}{ks:List Nat}{bs:List UInt8}(h:o.op=.convert src dst x)(hs:Γ.get src=some si)(hsk:si.k=.slice et 1 eb ez)(he:Γ.get et=some ei)(hek:ei.k=.int .u8)(hd:Γ.get dst=some di)(qy:di.k=.string)(hx:SrcT s 1 Al (ev s x) ks bs):Good P o s ⟨As ⟨bs.toArray⟩,ks,[]⟩:=by
 obtain ⟨g,hx,hg⟩:=hx.src;exact cX Γ bs h hs hsk he hek hd qy hx E (λi hi=>hg i _ ⟨hi,E⟩)
def Asy{C:Cx}{kk:List KI}{s:SS}(k d:Nat)(r:List Nat){sz:Nat}{c:Type}{e:c->SV}{l:List c}(h:s.h k=.row sz e l)(hd:s.h d=.fresh)(ck:k≠d)(hr:∀i∈r,s.σ i=.osl k)(hg:G C kk ⟨freezeσ s.σ (.osl d) r,upd (upd s.h k .non) d (.row sz e l)⟩):G C kk s:=λm a w hs=>by
 have cq:=hs.obj k;rw[h]at cq;have az:m d=.new:=by have:=hs.obj d;rwa [hd]at this
 have fin:∀m':Ka,Step (λj=>j=k\/j=d) m w m' w->Inv m' w->(∀v,Rd m w (.osl k) v->Rd m' w (.osl d) v)->ObOK m' w d (.row sz e l)->den C.P C.B kk .normal a w:=by
  intro m' st inv hv ho;refine hg m' a w ⟨hs.defers,hs.size,inv,hs.ctx.step inv st,λj=>?_,λj=>?_⟩
  .refine freezeσ_ok r _ j (Rd.step st _ _ (hs.slot j)) (λhj=>hv _ ?_);have:=hs.slot j;rwa [hr j hj]at this
  .show ObOK _ w j (upd (upd s.h k .non) d (.row sz e l) j);by_cases hj:j=d
   .subst hj;rw[B1];exact ho
   .rw[Cz _ _ hj];by_cases cn:j=k
    .subst cn;rw[B1];trivial
    .rw[Cz _ _ cn];exact ObOK.step st (λe=>e.elim cn hj) _ (hs.obj j)
 rcases cq with ⟨h1,rfl⟩|⟨b,cap,cs,T,fr,e1,e2,e3,e4,e5,e6⟩
 .have st:=Ky (Mh hs.inv (some k)) (by show Em m k .dead d=.new;rw[Cc _ _ (Ne.symm ck)];exact az) (e:=.nil) (Grew.refl w) (λb hb=>by cases hb);refine fin _ (((Kg (some k)).weaken (λj hj=>.inl (Option.some.inj hj).symm)).trans (st.1.weaken (λj hj=>.inr hj))) st.2 (λv hv=>?_) (.inl ⟨Ay _ _ _,E⟩);simp only[Rd,h1]at hv;simp[Rd,Ay,hv]
 .obtain ⟨st,inv⟩:=Sw (n':=l.length) (w':=w) hs.inv e1 az rfl rfl rfl rfl (λ_ _=>rfl);refine fin _ st inv (λv hv=>?_) (.inr ⟨b,cap,cs,T,fr,Ay _ _ _,e2,e3,e4,e5,λi x hx=>?_⟩)
  .simp only[Rd,e1]at hv;simp[Rd,Ay,hv]
  .obtain ⟨q1,u,q2,q3⟩:=e6 i x hx;exact⟨q1,u,RdD.keep st.keeps _ _ q2,q3⟩
mutual
def frz(d:Nat)(x:SV):SV->SV
 | .osl k=>bif Nat.beq k d then x else .osl k
 | .agg l=>.agg (Ac5 d x l)
 | .tup l=>.tup (Ac5 d x l)
 | .ifc t y=>.ifc t (frz d x y)
 | .clo f g l=>.clo f (Ac5 d x g) (Ac5 d x l)
 |y=>y
def Ac5(d:Nat)(x:SV):List SV->List SV
 |[]=>[]
 |y::l=>frz d x y::Ac5 d x l
end
mutual
theorem Ai5{a a':Ka}{w:World}{K:Nat->Prop}{d:Nat}{x:SV}(st:Step K a w a' w)(hx:∀v,Rd a w (.osl d) v->Rd a' w x v):∀(y:SV) (v:Value),Rd a w y v->Rd a' w (frz d x y) v
 | .osl k,v,h=>by
  unfold frz;by_cases hk:k=d
  .subst hk;rw[show Nat.beq k k=true from tT k];exact hx v h
  .rw[show Nat.beq k d=false from by cases hb:Nat.beq k d with|false=>rfl|true=>exact yA (yK hb) hk];exact Rd.step st _ _ h
 | .agg l,v,h=>by
  simp only[Rd]at h;unfold frz;simp only[Rd];obtain ⟨cs,h1,h2,h3⟩:=h;exact⟨cs,h1,h2,Lk st hx l cs h3⟩
 | .tup l,v,h=>by
  simp only[Rd]at h;unfold frz;simp only[Rd];obtain ⟨cs,h1,h3⟩:=h;exact⟨cs,h1,Lk st hx l cs h3⟩
 | .ifc t y,v,h=>by
  simp only[Rd]at h;unfold frz;simp only[Rd];obtain ⟨u,h1,h3⟩:=h;exact⟨u,h1,Ai5 st hx y u h3⟩
 | .clo f g l,v,h=>by
  simp only[Rd]at h;unfold frz;simp only[Rd];obtain ⟨fs,cs,h1,h2,h3⟩:=h;exact⟨fs,cs,h1,Lk st hx g fs h2,Lk st hx l cs h3⟩
 | .top,v,h=>by unfold frz;exact Rd.step st _ _ h
 | .val u,v,h=>by unfold frz;exact Rd.step st _ _ h
 | .sl sz e l,v,h=>by unfold frz;exact Rd.step st _ _ h
 | .ref sz z o,v,h=>by unfold frz;exact Rd.step st _ _ h
 | .ptr k o,v,h=>by unfold frz;exact Rd.step st _ _ h
 | .rpt k sz i o,v,h=>by unfold frz;exact Rd.step st _ _ h
theorem Lk{k k':Ka}{w:World}{K:Nat->Prop}{d:Nat}{x:SV}(st:Step K k w k' w)(hx:∀v,Rd k w (.osl d) v->Rd k' w x v):∀(l:List SV) (vs:List Value),RdL k w l vs->RdL k' w (Ac5 d x l) vs
 |[],vs,h=>by
  unfold Ac5;simpa [RdL] using h
 |y::l,vs,h=>by
  simp only[RdL]at h;unfold Ac5;simp only[RdL];obtain ⟨v,r,h1,h2,h3⟩:=h;exact⟨v,r,h1,Ai5 st hx y v h2,Lk st hx l r h3⟩
end
def Axl(d:Nat)(x:SV):Ob->Ob
 | .box l=>.box (Ac5 d x l)
 | .rown sz e l i cl=>.rown sz e l i (Ac5 d x cl)
 | .tbox T l=>.tbox T (Ac5 d x l)
 |o=>o
def Ai{C:Cx}{k:List KI}{s:SS}(d:Nat){sz:Nat}{c:Type}{e:c->SV}{l:List c}(h:s.h d=.row sz e l)(hg:G C k ⟨λi=>frz d (.sl sz e l) (s.σ i),λj=>bif Nat.beq j d then .non else Axl d (.sl sz e l) (s.h j)⟩):G C k s:=λr a w hs=>by
 have cq:=hs.obj d;rw[h]at cq;have st:=Kg (κ:=r) (w:=w) (some d);have inv:=Mh hs.inv (some d);have hx:∀v,Rd r w (.osl d) v->Rd (Em r d .dead) w (.sl sz e l) v:=λv hv=>by
  rcases cq with ⟨h1,rfl⟩|h1
  .simp only[Rd,h1]at hv;simp only[Rd,RdD];exact .inl ⟨by simp,none,0,hv⟩
  .refine h1.freeze hv st.keeps.out (λb hb=>⟨hs.inv.bnd d b hb,?_⟩);rintro (⟨q,hq⟩|hq)
   .by_cases sx:q=d
    .subst sx;rw[Ay]at hq;cases hq
    .rw[Cc _ _ sx]at hq;exact sx (hs.inv.inj q d b hq hb)
   .exact hs.inv.apart d b hb hq
 refine hg (Em r d .dead) a w ⟨hs.defers,hs.size,inv,hs.ctx.step inv st,λj=>Ai5 st hx _ _ (hs.slot j),λj=>?_⟩;show ObOK _ w j (bif Nat.beq j d then .non else Axl d (.sl sz e l) (s.h j));by_cases hj:j=d
 .subst hj;rw[show Nat.beq j j=true from tT j];trivial
 .rw[show Nat.beq j d=false from by cases hb:Nat.beq j d with|false=>rfl|true=>exact yA (yK hb) hj];have hb:=ObOK.step st (λe=>hj (Option.some.inj e).symm) _ (hs.obj j);have h0:=hs.obj j;show ObOK _ w j (Axl d (.sl sz e l) (s.h j));cases hh:s.h j with
  |box m=>
   rw[hh]at h0 hb;obtain ⟨b,cs,T,fr,e1,e2,e3,e4,e5⟩:=h0;exact⟨b,cs,T,fr,by show Em r d .dead j=_;rw[Cc _ _ hj];exact e1,e2,e3,e4,Lk st hx m cs e5⟩
  |tbox T m=>
   rw[hh]at h0 hb;obtain ⟨b,cs,fr,e1,e2,e3,e4,e5⟩:=h0;exact⟨b,cs,fr,by show Em r d .dead j=_;rw[Cc _ _ hj];exact e1,e2,e3,e4,Lk st hx m cs e5⟩
  |fresh=>rw[hh]at hb;exact hb
  |non=>rw[hh]at hb;exact hb
  |row d7 e' l'=>rw[hh]at hb;exact hb
  |lit d7 svs=>rw[hh]at hb;exact hb
  |glob d7 x' g'=>rw[hh]at hb;exact hb
  |pin b' n' d6 d7 e' l'=>rw[hh]at hb;exact hb
  |dat v' d7 e' l'=>rw[hh]at hb;exact hb
  |trow T' m'=>rw[hh]at hb;exact hb
  |rown d7 e' l' i' yu=>
   rw[hh]at h0;obtain ⟨b2,ta,xw,T2,yr,f1,f2,f3,f4,f5,f6,f7,us2,v1,v2,v3,v4⟩:=h0;refine⟨b2,ta,xw,T2,yr,by show Em r d .dead j=_;rw[Cc _ _ hj];exact f1,f2,f3,f4,f5,λm y hm hy=>?_,f7,us2,v1,v2,Lk st hx yu us2 v3,v4⟩;obtain ⟨g0,u,g1,g2⟩:=f6 m y hm hy;exact⟨g0,u,RdD.keep st.keeps _ _ g1,g2⟩
def Ahk(C:Cx)(n:Nat)(I:Nat->Prop)(L:Nat->List (Nat×SV))(O:Nat->Obs)(i:Nat)(a:Act)(w:World):Prop :=
 ∃x':{j:Nat // j<=n/\I j},∃k,n-x'.1<n-i/\St C.F C.n (mkS (L x'.1) (O x'.1)) k a w
def Ba{C:Cx}{k:List KI}{s:SS}{body:Code}(n:Nat)(I:Nat->Prop)(L:Nat->List (Nat×SV))(O:Nat->Obs)(a:List (Nat×Nat))(h0:I 0)(ar:Sub C s a (L 0) (O 0))(h:∀i,i<=n->I i->G C (.code body::.inv (Ahk C n I L O i)::k) (mkS (L i) (O i))):G C (.code (.loop body)::k) s :=
 Xk (α:={j:Nat // j<=n/\I j}) (λx=>L x.1) (λx=>O x.1) (λx=>n-x.1) ⟨0,xN _,h0⟩ a ar (λx=>h x.1 x.2.1 x.2.2)
def A8{C:Cx}{k:List KI}{s:SS}{n:Nat}{I:Nat->Prop}{L:Nat->List (Nat×SV)}{O:Nat->Obs}{i:Nat}(a:List (Nat×Nat))(h0:I i)(hi:i+1<=n)(h1:I (i+1))(ar:Sub C s a (L (i+1)) (O (i+1))):G C (.inv (Ahk C n I L O i)::k) s :=
 Zj (α:={j:Nat // j<=n/\I j}) (L:=λx=>L x.1) (O:=λx=>O x.1) (μ:=λx=>n-x.1) (x:=⟨i,by omega,h0⟩) ⟨i+1,hi,h1⟩ a (by simp only;omega) ar
mutual
def frb(d sz:Nat)(x:SV):SV->SV
 | .ptr k o=>bif Nat.beq k d then .ref sz x o else .ptr k o
 | .agg l=>.agg (Ai6 d sz x l)
 | .tup l=>.tup (Ai6 d sz x l)
 | .ifc t y=>.ifc t (frb d sz x y)
 | .clo f g l=>.clo f (Ai6 d sz x g) (Ai6 d sz x l)
 |y=>y
def Ai6(d sz:Nat)(x:SV):List SV->List SV
 |[]=>[]
 |y::l=>frb d sz x y::Ai6 d sz x l
end
mutual
theorem Aru{a a':Ka}{w:World}{K:Nat->Prop}{d sz:Nat}{x:SV}(st:Step K a w a' w)(hx:∀o v,Rd a w (.ptr d o) v->Rd a' w (.ref sz x o) v):∀(y:SV) (v:Value),Rd a w y v->Rd a' w (frb d sz x y) v
 | .ptr k o,v,h=>by
  unfold frb;by_cases hk:k=d
  .subst hk;rw[show Nat.beq k k=true from tT k];exact hx o v h
  .rw[show Nat.beq k d=false from by cases hb:Nat.beq k d with|false=>rfl|true=>exact yA (yK hb) hk];exact Rd.step st _ _ h
 | .agg l,v,h=>by
  simp only[Rd]at h;unfold frb;simp only[Rd];obtain ⟨cs,h1,h2,h3⟩:=h;exact⟨cs,h1,h2,X2 st hx l cs h3⟩
 | .tup l,v,h=>by
  simp only[Rd]at h;unfold frb;simp only[Rd];obtain ⟨cs,h1,h3⟩:=h;exact⟨cs,h1,X2 st hx l cs h3⟩
 | .ifc t y,v,h=>by
  simp only[Rd]at h;unfold frb;simp only[Rd];obtain ⟨u,h1,h3⟩:=h;exact⟨u,h1,Aru st hx y u h3⟩
 | .clo f g l,v,h=>by
  simp only[Rd]at h;unfold frb;simp only[Rd];obtain ⟨fs,cs,h1,h2,h3⟩:=h;exact⟨fs,cs,h1,X2 st hx g fs h2,X2 st hx l cs h3⟩
 | .top,v,h=>by unfold frb;exact Rd.step st _ _ h
 | .val u,v,h=>by unfold frb;exact Rd.step st _ _ h
 | .sl sz e l,v,h=>by unfold frb;exact Rd.step st _ _ h
 | .ref sz z o,v,h=>by unfold frb;exact Rd.step st _ _ h
 | .rpt k sz i o,v,h=>by unfold frb;exact Rd.step st _ _ h
 | .osl k,v,h=>by unfold frb;exact Rd.step st _ _ h
theorem X2{k k':Ka}{w:World}{K:Nat->Prop}{d sz:Nat}{x:SV}(st:Step K k w k' w)(hx:∀o v,Rd k w (.ptr d o) v->Rd k' w (.ref sz x o) v):∀(l:List SV) (vs:List Value),RdL k w l vs->RdL k' w (Ai6 d sz x l) vs
 |[],vs,h=>by
  unfold Ai6;simpa [RdL] using h
 |y::l,vs,h=>by
  simp only[RdL]at h;unfold Ai6;simp only[RdL];obtain ⟨v,r,h1,h2,h3⟩:=h;exact⟨v,r,h1,Aru st hx y v h2,X2 st hx l r h3⟩
end
def frbO(d sz:Nat)(x:SV):Ob->Ob
 | .box l=>.box (Ai6 d sz x l)
 |o=>o
def Asm{k k':Ka}{w:World}{d sz:Nat}{l:List SV}{x:SV}(h:ObOK k w d (.box l))(hl:cellsOf x=l)(hb:x.boxed=true)(_hd:Tm l=true)(bg:l.length=sz)(ho:∀b,b<w.heap.size->¬Own k b->¬Own k' b)(rq:∀b,(k d).block? = some b->b<w.heap.size/\¬Own k' b)(zg:x.data=true)(o:Nat)(v:Value)(hv:Rd k w (.ptr d o) v):Rd k' w (.ref sz x o) v:=by
 obtain ⟨b,cs,T,fr,e1,e2,e3,e4,e5⟩:=h;simp only[Rd,e1]at hv;obtain ⟨h1,h2⟩:=rq b (by rw[e1];rfl);rw[<-hl]at e5;obtain ⟨u,f1,f2⟩:=Rd.of_cells hb e4 e5;simp only[Rd,RdD];refine⟨b,0,u,by rw[wF];exact hv,h2,h1,RdD.keep ⟨yE _,λ_ _ _=>rfl,ho⟩ _ _ (Rd.data _ _ zg f1),?_,by rw[f2];exact e4,λj hj=>?_⟩
 .have:=e5.length;rw[<-bg,<-hl,<-this,<-f2];simp
 .rw[wF,cell_of_row w b _ cs.toArray T fr e2,<-f2]
def Bf{C:Cx}{k:List KI}{s:SS}(d sz:Nat)(x:SV){l:List SV}(h:s.h d=.box l)(hl:cellsOf x=l)(hc:(x.boxed&&x.data&&Tm l&&Nat.beq l.length sz)=true)(hg:G C k ⟨λi=>frb d sz x (s.σ i),λj=>bif Nat.beq j d then .non else frbO d sz x (s.h j)⟩):G C k s:=λr a w hs=>by
 simp only[zG]at hc;obtain ⟨⟨⟨hb,zg⟩,hd⟩,bg⟩:=hc;have bg:=yK bg;have cq:=hs.obj d;rw[h]at cq;have st:=Kg (κ:=r) (w:=w) (some d);have inv:=Mh hs.inv (some d);have hx:∀o v,Rd r w (.ptr d o) v->Rd (Em r d .dead) w (.ref sz x o) v:=λo v hv=>
  Asm cq hl hb hd bg st.keeps.out (λ b hb=>⟨hs.inv.bnd d b hb,by
   rintro (⟨q,hq⟩|hq)
   .by_cases sx:q=d
    .subst sx;change (Em r q .dead q).block? = some b at hq;rw[Ay]at hq;cases hq
    .change (Em r d .dead q).block? = some b at hq;rw[Cc _ _ sx]at hq;exact sx (hs.inv.inj q d b hq hb)
   .exact hs.inv.apart d b hb hq⟩) zg o v hv
 refine hg (Em r d .dead) a w ⟨hs.defers,hs.size,inv,hs.ctx.step inv st,λj=>Aru st hx _ _ (hs.slot j),λj=>?_⟩;show ObOK _ w j (bif Nat.beq j d then .non else frbO d sz x (s.h j));by_cases hj:j=d
 .subst hj;rw[show Nat.beq j j=true from tT j];trivial
 .rw[show Nat.beq j d=false from by cases hb:Nat.beq j d with|false=>rfl|true=>exact yA (yK hb) hj];have hb:=ObOK.step st (λe=>hj (Option.some.inj e).symm) _ (hs.obj j);have h0:=hs.obj j;show ObOK _ w j (frbO d sz x (s.h j));cases hh:s.h j with
  |box m=>
   rw[hh]at h0 hb;obtain ⟨b,cs,T,fr,e1,e2,e3,e4,e5⟩:=h0;exact⟨b,cs,T,fr,by show Em r d .dead j=_;rw[Cc _ _ hj];exact e1,e2,e3,e4,X2 st hx m cs e5⟩
  |fresh=>rw[hh]at hb;exact hb
  |non=>rw[hh]at hb;exact hb
  |row d7 e' l'=>rw[hh]at hb;exact hb
  |lit d7 svs=>rw[hh]at hb;exact hb
  |glob d7 x' g'=>rw[hh]at hb;exact hb
  |pin b' n' d6 d7 e' l'=>rw[hh]at hb;exact hb
  |dat v' d7 e' l'=>rw[hh]at hb;exact hb
  |trow T' m'=>rw[hh]at hb;exact hb
  |rown d7 e' l' i' yu=>rw[hh]at hb;exact hb
  |tbox T' m'=>rw[hh]at hb;exact hb
def Ao{C:Cx}{k:List KI}{s:SS}(d sz:Nat){b:Type}(e:b->SV)(h:s.σ d=.val (.slice none 0 0))(hg:G C k ⟨upd s.σ d (.sl sz e []),s.h⟩):G C k s :=
 G_set d (λ a w v hv=>by
  rw[h]at hv;simp only[Rd]at hv;simp only[Rd,RdD];exact .inl ⟨Y,none,0,hv⟩) hg
end Go.Sy
namespace Go.Sy.Zaa
open Go.Proofs Go.Proofs.Tryz
set_option maxRecDepth 100000
def ndO{a:Type}{f:Nat->Option a}{k:Nat}{v:a}{l r:Tr a}(h:f k=some v)(hl:l.all (λt i=>f t=some i))(hr:r.all (λt i=>f t=some i)):(Tr.nd k v l r).all (λt i=>f t=some i):=⟨h,hl,hr⟩
abbrev Af:Value:=.int .i64 0
abbrev Ap:Value:=.slice none 0 0
abbrev Jk:Value:=.string .empty
def tab:Tr TI:=(.nd 185 (⟨.array 9 2 1,2,[Jk,Jk]⟩) (.nd 93 (⟨.struct [(0,1),(1,1),(2,1),(3,1),(4,1)],5,[Af,Af,Jk,.int .u64 0,.int .u32 0]⟩) (.nd 33 (⟨.slice 130 5 80 [Af,Af,Jk,Ap,Ap],1,[Ap]⟩) (.nd 23 (⟨.slice 76 1 24 [Ap],1,[Ap]⟩) (.nd 5 (⟨.int .u8,1,[.int .u8 0]⟩) (.nd 3 (⟨.int .i64,1,[Af]⟩) (.nd 2 (⟨.int .i64,1,[Af]⟩) (.nd 1 (⟨.func,1,[.nilFunc]⟩) .lf .lf) .lf) (.nd 4 (⟨.bool,1,[.bool false]⟩) .lf .lf)) (.nd 20 (⟨.iface,1,[.nilIface]⟩) (.nd 9 (⟨.string,1,[Jk]⟩) .lf .lf) (.nd 22 (⟨.slice 5 1 1 [.int .u8 0],1,[Ap]⟩) .lf .lf))) (.nd 29 (⟨.slice 196 3 24 [Af,Af,Af],1,[Ap]⟩) (.nd 27 (⟨.slice 93 5 48 [Af,Af,Jk,.int .u64 0,.int .u32 0],1,[Ap]⟩) (.nd 24 (⟨.slice 64 6 80 [Af,Af,Af,Af,Ap,Ap],1,[Ap]⟩) .lf .lf) (.nd 28 (⟨.slice 95 7 80 [Af,Af,Af,Af,Af,Jk,Ap],1,[Ap]⟩) .lf .lf)) (.nd 31 (⟨.slice 200 4 32 [Af,Af,Af,.int .u64 0],1,[Ap]⟩) (.nd 30 (⟨.slice 97 6 64 [Af,Af,Af,Af,Af,Ap],1,[Ap]⟩) .lf .lf) (.nd 32 (⟨.slice 128 4 48 [Af,Af,Af,Ap],1,[Ap]⟩) .lf .lf)))) (.nd 62 (⟨.slice 4 1 1 [.bool false],1,[Ap]⟩) (.nd 40 (⟨.int .i64,1,[Af]⟩) (.nd 36 (⟨.struct [(0,1),(1,1),(2,1),(3,1),(4,1),(5,1),(6,1),(7,1)],8,[Ap,Ap,Ap,Ap,Ap,Ap,Ap,Ap]⟩) (.nd 34 (⟨.slice 212 5 40 [Af,Af,Af,.int .u32 0,Af],1,[Ap]⟩) .lf .lf) (.nd 37 (⟨.slice 3 1 8 [Af],1,[Ap]⟩) .lf .lf)) (.nd 50 (⟨.struct [(0,1),(1,1),(2,1),(3,1),(4,1),(5,1),(6,1)],7,[Af,Af,Af,Af,Af,Af,Ap]⟩) (.nd 43 (⟨.slice 73 3 40 [Af,Af,Ap],1,[Ap]⟩) .lf .lf) (.nd 54 (⟨.slice 110 4 72 [Af,Jk,Ap,Ap],1,[Ap]⟩) .lf .lf))) (.nd 73 (⟨.struct [(0,1),(1,1),(2,1)],3,[Af,Af,Ap]⟩) (.nd 68 (⟨.int .u64,1,[.int .u64 0]⟩) (.nd 64 (⟨.struct [(0,1),(1,1),(2,1),(3,1),(4,1),(5,1)],6,[Af,Af,Af,Af,Ap,Ap]⟩) .lf .lf) (.nd 70 (⟨.struct [(0,1),(1,1),(2,1),(3,1)],4,[.int .u64 0,.int .u64 0,Af,Ap]⟩) .lf .lf)) (.nd 77 (⟨.ptr,1,[.pointer none]⟩) (.nd 76 (⟨.slice 230 3 24 [.int .u64 0,Af,Af],1,[Ap]⟩) .lf .lf) (.nd 91 (⟨.int .u32,1,[.int .u32 0]⟩) .lf .lf))))) (.nd 144 (⟨.ptr,1,[.pointer none]⟩) (.nd 124 (⟨.int .u64,1,[.int .u64 0]⟩) (.nd 105 (⟨.slice 9 1 16 [Jk],1,[Ap]⟩) (.nd 97 (⟨.struct [(0,1),(1,1),(2,1),(3,1),(4,1),(5,1)],6,[Af,Af,Af,Af,Af,Ap]⟩) (.nd 95 (⟨.struct [(0,1),(1,1),(2,1),(3,1),(4,1),(5,1),(6,1)],7,[Af,Af,Af,Af,Af,Jk,Ap]⟩) .lf .lf) (.nd 101 (⟨.slice 174 17 240 [Af,Af,Jk,Jk,Jk,Jk,Jk,.int .u64 0,.int .u32 0,Af,Af,Af,Af,Ap,Ap,Ap,Ap],1,[Ap]⟩) .lf .lf)) (.nd 114 (⟨.func,1,[.nilFunc]⟩) (.nd 110 (⟨.struct [(0,1),(1,1),(2,1),(3,1)],4,[Af,Jk,Ap,Ap]⟩) .lf .lf) (.nd 118 (⟨.struct [(0,8),(8,1),(9,1)],10,[Ap,Ap,Ap,Ap,Ap,Ap,Ap,Ap,Ap,Ap]⟩) .lf .lf))) (.nd 132 (⟨.func,1,[.nilFunc]⟩) (.nd 128 (⟨.struct [(0,1),(1,1),(2,1),(3,1)],4,[Af,Af,Af,Ap]⟩) (.nd 126 (⟨.slice 91 1 4 [.int .u32 0],1,[Ap]⟩) .lf .lf) (.nd 130 (⟨.struct [(0,1),(1,1),(2,1),(3,1),(4,1)],5,[Af,Af,Jk,Ap,Ap]⟩) .lf .lf)) (.nd 135 (⟨.func,1,[.nilFunc]⟩) (.nd 133 (⟨.slice 137 7 72 [Af,Af,Af,.int .u64 0,.int .u64 0,Af,Ap],1,[Ap]⟩) .lf .lf) (.nd 137 (⟨.struct [(0,1),(1,1),(2,1),(3,4)],7,[Af,Af,Af,.int .u64 0,.int .u64 0,Af,Ap]⟩) .lf .lf)))) (.nd 164 (⟨.struct [(0,1),(1,3),(4,1)],5,[Ap,.int .u32 0,.int .i32 0,.int .u32 0,Ap]⟩) (.nd 153 (⟨.struct [(0,8),(8,1),(9,1),(10,1),(11,1),(12,1),(13,64)],77,[Ap,Ap,Ap,Ap,Ap,Ap,Ap,Ap,.pointer none,Ap,Ap,Af,Af,Af,Af,Af,Af,Af,Af,Af,Af,Af,Af,Af,Af,Af,Af,Af,Af,Af,Af,Af,Af,Af,Af,Af,Af,Af,Af,Af,Af,Af,Af,Af,Af,Af,Af,Af,Af,Af,Af,Af,Af,Af,Af,Af,Af,Af,Af,Af,Af,Af,Af,Af,Af,Af,Af,Af,Af,Af,Af,Af,Af,Af,Af,Af,Af]⟩) (.nd 150 (⟨.struct [(0,0),(0,0),(0,1)],1,[Af]⟩) (.nd 145 (⟨.slice 133 1 24 [Ap],1,[Ap]⟩) .lf .lf) (.nd 151 (⟨.array 150 64 1,64,[Af,Af,Af,Af,Af,Af,Af,Af,Af,Af,Af,Af,Af,Af,Af,Af,Af,Af,Af,Af,Af,Af,Af,Af,Af,Af,Af,Af,Af,Af,Af,Af,Af,Af,Af,Af,Af,Af,Af,Af,Af,Af,Af,Af,Af,Af,Af,Af,Af,Af,Af,Af,Af,Af,Af,Af,Af,Af,Af,Af,Af,Af,Af,Af]⟩) .lf .lf)) (.nd 160 (⟨.struct [(0,0),(0,2)],2,[.int .i32 0,.int .u32 0]⟩) (.nd 156 (⟨.struct [(0,0),(0,1)],1,[.int .u32 0]⟩) .lf .lf) (.nd 162 (⟨.struct [(0,0),(0,1),(1,2)],3,[.int .u32 0,.int .i32 0,.int .u32 0]⟩) .lf .lf))) (.nd 174 (⟨.struct [(0,1),(1,1),(2,1),(3,1),(4,1),(5,1),(6,1),(7,1),(8,1),(9,1),(10,1),(11,1),(12,1),(13,1),(14,1),(15,1),(16,1)],17,[Af,Af,Jk,Jk,Jk,Jk,Jk,.int .u64 0,.int .u32 0,Af,Af,Af,Af,Ap,Ap,Ap,Ap]⟩) (.nd 169 (⟨.func,1,[.nilFunc]⟩) (.nd 165 (⟨.slice 172 4 32 [Af,Af,Af,.int .u32 0],1,[Ap]⟩) .lf .lf) (.nd 172 (⟨.struct [(0,1),(1,1),(2,1),(3,1)],4,[Af,Af,Af,.int .u32 0]⟩) .lf .lf)) (.nd 179 (⟨.struct [(0,3),(3,1),(4,8),(12,1),(13,1)],14,[.int .u32 0,.int .i32 0,.int .u32 0,Ap,Ap,Ap,Ap,Ap,Ap,Ap,Ap,Ap,Af,Af]⟩) (.nd 177 (⟨.ptr,1,[.pointer none]⟩) .lf .lf) (.nd 184 (⟨.func,1,[.nilFunc]⟩) .lf .lf)))))) (.nd 348 (⟨.struct [(0,1),(1,1),(2,1)],3,[Af,Af,.int .u32 0]⟩) (.nd 246 (⟨.array 62 2 1,2,[Ap,Ap]⟩) (.nd 207 (⟨.func,1,[.nilFunc]⟩) (.nd 197 (⟨.func,1,[.nilFunc]⟩) (.nd 193 (⟨.func,1,[.nilFunc]⟩) (.nd 191 (⟨.func,1,[.nilFunc]⟩) (.nd 189 (⟨.struct [(0,8)],8,[Ap,Ap,Ap,Ap,Ap,Ap,Ap,Ap]⟩) .lf .lf) .lf) (.nd 196 (⟨.struct [(0,1),(1,1),(2,1)],3,[Af,Af,Af]⟩) .lf .lf)) (.nd 201 (⟨.func,1,[.nilFunc]⟩) (.nd 200 (⟨.struct [(0,1),(1,1),(2,1),(3,1)],4,[Af,Af,Af,.int .u64 0]⟩) .lf .lf) (.nd 204 (⟨.func,1,[.nilFunc]⟩) .lf .lf))) (.nd 230 (⟨.struct [(0,1),(1,1),(2,1)],3,[.int .u64 0,Af,Af]⟩) (.nd 212 (⟨.struct [(0,1),(1,1),(2,1),(3,2)],5,[Af,Af,Af,.int .u32 0,Af]⟩) (.nd 210 (⟨.struct [(0,1),(1,1)],2,[.int .u32 0,Af]⟩) .lf .lf) (.nd 213 (⟨.func,1,[.nilFunc]⟩) .lf .lf)) (.nd 242 (⟨.struct [(0,1),(1,1),(2,1),(3,1),(4,4),(8,1)],9,[Af,Af,Af,Ap,.int .u64 0,.int .u64 0,Af,Ap,Af]⟩) (.nd 236 (⟨.slice 242 9 104 [Af,Af,Af,Ap,.int .u64 0,.int .u64 0,Af,Ap,Af],1,[Ap]⟩) .lf .lf) (.nd 245 (⟨.ptr,1,[.pointer none]⟩) .lf .lf)))) (.nd 271 (⟨.ptr,1,[.pointer none]⟩) (.nd 254 (⟨.struct [(0,2),(2,4),(6,1)],7,[Af,Af,Af,Af,Af,.int .u32 0,Af]⟩) (.nd 249 (⟨.struct [(0,8),(8,2),(10,1)],11,[Ap,Ap,Ap,Ap,Ap,Ap,Ap,Ap,Ap,Ap,Ap]⟩) (.nd 247 (⟨.slice 254 7 56 [Af,Af,Af,Af,Af,.int .u32 0,Af],1,[Ap]⟩) .lf .lf) (.nd 252 (⟨.struct [(0,1),(1,1)],2,[Af,Af]⟩) .lf .lf)) (.nd 264 (⟨.struct [(0,1),(1,1),(2,1)],3,[Ap,Af,Af]⟩) (.nd 262 (⟨.ptr,1,[.pointer none]⟩) .lf .lf) (.nd 267 (⟨.func,1,[.nilFunc]⟩) .lf .lf))) (.nd 300 (⟨.func,1,[.nilFunc]⟩) (.nd 285 (⟨.func,1,[.nilFunc]⟩) (.nd 273 (⟨.func,1,[.nilFunc]⟩) .lf .lf) (.nd 298 (⟨.func,1,[.nilFunc]⟩) .lf .lf)) (.nd 341 (⟨.func,1,[.nilFunc]⟩) (.nd 301 (⟨.ptr,1,[.pointer none]⟩) .lf .lf) (.nd 345 (⟨.slice 348 3 24 [Af,Af,.int .u32 0],1,[Ap]⟩) .lf .lf))))) (.nd 438 (⟨.slice 441 3 24 [Af,Af,Af],1,[Ap]⟩) (.nd 398 (⟨.struct [(0,8)],8,[Ap,Ap,Ap,Ap,Ap,Ap,Ap,Ap]⟩) (.nd 375 (⟨.func,1,[.nilFunc]⟩) (.nd 353 (⟨.struct [(0,1),(1,1),(2,1),(3,1),(4,1),(5,1),(6,1)],7,[Af,Af,Af,Af,.int .u32 0,.int .u32 0,Ap]⟩) (.nd 350 (⟨.func,1,[.nilFunc]⟩) .lf .lf) (.nd 368 (⟨.ptr,1,[.pointer none]⟩) .lf .lf)) (.nd 384 (⟨.ptr,1,[.pointer none]⟩) (.nd 380 (⟨.struct [(0,8),(8,1),(9,1),(10,1),(11,1)],12,[Ap,Ap,Ap,Ap,Ap,Ap,Ap,Ap,Ap,Ap,Ap,Ap]⟩) .lf .lf) (.nd 389 (⟨.struct [(0,8),(8,1),(9,1),(10,1),(11,1)],12,[Ap,Ap,Ap,Ap,Ap,Ap,Ap,Ap,Ap,Af,Af,Ap]⟩) .lf .lf))) (.nd 421 (⟨.ptr,1,[.pointer none]⟩) (.nd 404 (⟨.ptr,1,[.pointer none]⟩) (.nd 402 (⟨.ptr,1,[.pointer none]⟩) .lf .lf) (.nd 420 (⟨.func,1,[.nilFunc]⟩) .lf .lf)) (.nd 427 (⟨.slice 3 1 8 [Af],1,[Ap]⟩) (.nd 423 (⟨.ptr,1,[.pointer none]⟩) .lf .lf) (.nd 436 (⟨.ptr,1,[.pointer none]⟩) .lf .lf)))) (.nd 480 (⟨.ptr,1,[.pointer none]⟩) (.nd 463 (⟨.ptr,1,[.pointer none]⟩) (.nd 444 (⟨.slice 446 5 40 [Af,Af,Af,Af,Af],1,[Ap]⟩) (.nd 441 (⟨.struct [(0,1),(1,1),(2,1)],3,[Af,Af,Af]⟩) .lf .lf) (.nd 446 (⟨.struct [(0,1),(1,1),(2,1),(3,1),(4,1)],5,[Af,Af,Af,Af,Af]⟩) .lf .lf)) (.nd 467 (⟨.struct [(0,8),(8,1)],9,[Af,Af,Af,Af,.int .u32 0,.int .u32 0,Ap,Af,Af]⟩) (.nd 465 (⟨.struct [(0,7),(7,1)],8,[Af,Af,Af,Af,.int .u32 0,.int .u32 0,Ap,Af]⟩) .lf .lf) (.nd 473 (⟨.func,1,[.nilFunc]⟩) .lf .lf))) (.nd 498 (⟨.iface,1,[.nilIface]⟩) (.nd 488 (⟨.array 3 2 1,2,[Af,Af]⟩) (.nd 484 (⟨.struct [(0,8)],8,[Ap,Ap,Ap,Ap,Ap,Ap,Ap,Ap]⟩) .lf .lf) (.nd 494 (⟨.func,1,[.nilFunc]⟩) .lf .lf)) (.nd 523 (⟨.func,1,[.nilFunc]⟩) (.nd 504 (⟨.array 3 4 1,4,[Af,Af,Af,Af]⟩) .lf .lf) (.nd 526 (⟨.func,1,[.nilFunc]⟩) .lf .lf)))))))
def etab:Tr (List EK):=(.nd 230 ([.int .u64,.int .i64,.int .i64]) (.nd 196 ([.int .i64,.int .i64,.int .i64]) (.nd 172 ([.int .i64,.int .i64,.int .i64,.int .u32]) (.nd 93 ([.int .i64,.int .i64,.string,.int .u64,.int .u32]) .lf .lf) .lf) (.nd 210 ([.int .u32,.int .i64]) (.nd 200 ([.int .i64,.int .i64,.int .i64,.int .u64]) .lf .lf) .lf)) (.nd 441 ([.int .i64,.int .i64,.int .i64]) (.nd 348 ([.int .i64,.int .i64,.int .u32]) (.nd 252 ([.int .i64,.int .i64]) .lf .lf) .lf) (.nd 446 ([.int .i64,.int .i64,.int .i64,.int .i64,.int .i64]) .lf .lf)))
def tab_ok:tab.all (λt i=>tiOf prog t=some i):=by
 unfold tab
 repeat' (first|exact trivial|refine ndO z_ ?_ ?_)
def A5b:etab.all (λt i=>A2m prog t=some i):=by
 unfold etab
 repeat' (first|exact trivial|refine ndO z_ ?_ ?_)
def Γ:TyE prog:=⟨⟨λt=>tab.look t,λ_ _ h=>A3z (Tr.look_ok tab_ok h)⟩,λt=>etab.look t,λ_ _ h=>A2l (Tr.look_ok A5b h)⟩
theorem hm:prog.follows .mixedOrders=true:=by kernel_rfl
abbrev Sq:=Sy.Spec prog
abbrev Sp(f:FuncId)(A:List SV)(R:SV):Prop:=Sy.Spec prog f A [] R []
abbrev fT(i:Nat)(fn:Func):Prop:=Fun prog i fn (Ady fn)
def fN{P : Program}{f : FuncId}{fn : Func}(h : P.funcs[f]? = some fn)(hb : fn.body = some (Ady fn) := by exact rfl)(hn : (fn.name == "runtime.NumGoroutine") = false := by kernel_rfl) : Fun P f fn (Ady fn) := ⟨h, hb, hn⟩
def cT{f:FuncId}{fn:Func}{c:Code}{A:List SV}{H:Obs}{R:SV}{H':Obs}(hF:Fun prog f fn c){n:Nat}(mg:fn.ntmps=n)(h:∀(F:Fr) (hF:∀k,F.k0 k≠.new->k∈H.keys),Qt ⟨prog,Γ.toTy,F,n,Yp prog fn F R H',H.keys,hF⟩ Γ 100 [.code c] ⟨argσ A,mkh H⟩)(hn:Amf A n=true:=by exact rfl):Sy.Spec prog f A H R H':=Qj Γ hm 100 hF mg hn h
def F4:=fN func4
def F6:=fN func6
def F9:=fN func9
def F12:=fN func12
def F13:=fN func13
def F14:=fN func14
def F15:=fN func15
def F16:=fN func16
def F17:=fN func17
def F18:=fN func18
def F19:=fN func19
def F21:=fN func21
def F22:=fN func22
def F23:=fN func23
def F24:=fN func24
def F27:=fN func27
def F30:=fN func30
def F31:=fN func31
def F32:=fN func32
def F33:=fN func33
def F34:=fN func34
def F35:=fN func35
def F36:=fN func36
def F37:=fN func37
def F38:=fN func38
def F39:=fN func39
def F40:=fN func40
def F41:=fN func41
def F42:=fN func42
def F43:=fN func43
def F44:=fN func44
def F45:=fN func45
def F46:=fN func46
def F47:=fN func47
def F48:=fN func48
def F49:=fN func49
def F50:=fN func50
def F52:=fN func52
def F56:=fN func56
def F57:=fN func57
def F58:=fN func58
def F59:=fN func59
def F60:=fN func60
def F61:=fN func61
def F62:=fN func62
def F63:=fN func63
def F64:=fN func64
def F66:=fN func66
def F67:=fN func67
def F68:=fN func68
def F69:=fN func69
def F70:=fN func70
def F71:=fN func71
def F72:=fN func72
def F73:=fN func73
def F74:=fN func74
def F75:=fN func75
def F76:=fN func76
def F77:=fN func77
def F78:=fN func78
def F79:=fN func79
def F80:=fN func80
def F81:=fN func81
def F82:=fN func82
def F83:=fN func83
def F84:=fN func84
def F85:=fN func85
def F86:=fN func86
def F87:=fN func87
def F88:=fN func88
def F89:=fN func89
def F90:=fN func90
def F91:=fN func91
def F92:=fN func92
def F93:=fN func93
def F94:=fN func94
def F95:=fN func95
def F96:=fN func96
def F97:=fN func97
def F98:=fN func98
def F99:=fN func99
def F100:=fN func100
def F101:=fN func101
def F102:=fN func102
def F103:=fN func103
def F104:=fN func104
def F105:=fN func105
def F106:=fN func106
def F107:=fN func107
def F108:=fN func108
def F109:=fN func109
def F110:=fN func110
def F111:=fN func111
def F112:=fN func112
def F113:=fN func113
def F114:=fN func114
def F115:=fN func115
def F116:=fN func116
def F117:=fN func117
def F118:=fN func118
def F119:=fN func119
def F120:=fN func120
def F121:=fN func121
def F122:=fN func122
def F123:=fN func123
def F124:=fN func124
def F125:=fN func125
def F126:=fN func126
def F127:=fN func127
def F128:=fN func128
def F129:=fN func129
def F130:=fN func130
def F131:=fN func131
def F132:=fN func132
def F133:=fN func133
def F134:=fN func134
def F135:=fN func135
def F136:=fN func136
def F137:=fN func137
def F138:=fN func138
def F140:=fN func140
def F141:=fN func141
def F142:=fN func142
def F143:=fN func143
def F144:=fN func144
def F145:=fN func145
def F146:=fN func146
def F147:=fN func147
def F148:=fN func148
def F149:=fN func149
def F150:=fN func150
def F151:=fN func151
def F152:=fN func152
def F154:=fN func154
def F155:=fN func155
def F156:=fN func156
def F157:=fN func157
def F158:=fN func158
def F159:=fN func159
def F160:=fN func160
def F161:=fN func161
def F162:=fN func162
def F163:=fN func163
def F164:=fN func164
def F165:=fN func165
def F166:=fN func166
def F167:=fN func167
def F168:=fN func168
def F169:=fN func169
def F170:=fN func170
def F171:=fN func171
def F172:=fN func172
def F173:=fN func173
def F174:=fN func174
def F175:=fN func175
def F176:=fN func176
def F177:=fN func177
def F178:=fN func178
def F179:=fN func179
def F180:=fN func180
def F181:=fN func181
def F182:=fN func182
def F183:=fN func183
def F184:=fN func184
def F185:=fN func185
def F186:=fN func186
def F187:=fN func187
def F188:=fN func188
def F189:=fN func189
def F190:=fN func190
def F191:=fN func191
def F192:=fN func192
def F193:=fN func193
def F194:=fN func194
def F195:=fN func195
def F196:=fN func196
def F197:=fN func197
def F198:=fN func198
def F199:=fN func199
def F200:=fN func200
def F201:=fN func201
def F202:=fN func202
def F203:=fN func203
def F204:=fN func204
def F205:=fN func205
def F206:=fN func206
def F207:=fN func207
def F208:=fN func208
def F209:=fN func209
def F211:=fN func211
def F212:=fN func212
def F213:=fN func213
def F214:=fN func214
def F215:=fN func215
def F216:=fN func216
def F217:=fN func217
def F218:=fN func218
def F219:=fN func219
def F220:=fN func220
def F222:=fN func222
def F223:=fN func223
def F224:=fN func224
def F225:=fN func225
def F226:=fN func226
def F227:=fN func227
def F228:=fN func228
def F229:=fN func229
def F230:=fN func230
def F231:=fN func231
def F232:=fN func232
def F233:=fN func233
def F234:=fN func234
def F235:=fN func235
def F236:=fN func236
def F237:=fN func237
def F238:=fN func238
def F239:=fN func239
def F240:=fN func240
def F241:=fN func241
def F242:=fN func242
def F243:=fN func243
def F244:=fN func244
def F245:=fN func245
def F246:=fN func246
def F247:=fN func247
def F248:=fN func248
def F249:=fN func249
def F250:=fN func250
def F252:=fN func252
def F253:=fN func253
def F254:=fN func254
def F255:=fN func255
def F256:=fN func256
def F257:=fN func257
def F258:=fN func258
def F259:=fN func259
def F260:=fN func260
def F261:=fN func261
def F262:=fN func262
def F263:=fN func263
def F264:=fN func264
def F266:=fN func266
def F267:=fN func267
def F268:=fN func268
def F269:=fN func269
def F274:=fN func274
def F275:=fN func275
def F276:=fN func276
def F277:=fN func277
def F278:=fN func278
def F279:=fN func279
def F280:=fN func280
def F281:=fN func281
def F282:=fN func282
def F283:=fN func283
def F284:=fN func284
def F285:=fN func285
def F286:=fN func286
def F287:=fN func287
def F288:=fN func288
def F289:=fN func289
def F290:=fN func290
def F295:=fN func295
def F296:=fN func296
def F297:=fN func297
def F298:=fN func298
def F299:=fN func299
def F300:=fN func300
def F301:=fN func301
def F302:=fN func302
def F303:=fN func303
def F304:=fN func304
def F305:=fN func305
def F306:=fN func306
def F307:=fN func307
def F308:=fN func308
def F309:=fN func309
def F310:=fN func310
def F311:=fN func311
def F312:=fN func312
def F313:=fN func313
def F314:=fN func314
def F315:=fN func315
def F316:=fN func316
def F317:=fN func317
def F318:=fN func318
def F319:=fN func319
def F320:=fN func320
def F321:=fN func321
def F322:=fN func322
def F323:=fN func323
def F324:=fN func324
def F325:=fN func325
def F326:=fN func326
def F327:=fN func327
def F328:=fN func328
def F329:=fN func329
def F330:=fN func330
def F331:=fN func331
def F332:=fN func332
def F333:=fN func333
def F334:=fN func334
def F335:=fN func335
def F336:=fN func336
def F345:=fN func345
def F346:=fN func346
def F347:=fN func347
def F348:=fN func348
def F349:=fN func349
def F350:=fN func350
def F351:=fN func351
def F352:=fN func352
def F353:=fN func353
def F354:=fN func354
def F355:=fN func355
def F356:=fN func356
def F357:=fN func357
def F358:=fN func358
def F359:=fN func359
def F360:=fN func360
def F361:=fN func361
def F362:=fN func362
def F365:=fN func365
def F366:=fN func366
def F367:=fN func367
def F368:=fN func368
def F369:=fN func369
def F370:=fN func370
def F371:=fN func371
def F372:=fN func372
def F373:=fN func373
def F374:=fN func374
def F375:=fN func375
def F376:=fN func376
def F377:=fN func377
def F388:=fN func388
def F389:=fN func389
def F390:=fN func390
def F391:=fN func391
def F392:=fN func392
def F393:=fN func393
def F394:=fN func394
def F395:=fN func395
def F396:=fN func396
def F397:=fN func397
def F399:=fN func399
def F400:=fN func400
def F401:=fN func401
def F409:=fN func409
def F410:=fN func410
def F411:=fN func411
def F412:=fN func412
def F413:=fN func413
def F414:=fN func414
def F439:=fN func439
def F440:=fN func440
def F441:=fN func441
def F442:=fN func442
def rg{F:Fr}{n:Nat}{B:Exit->Act->World->Prop}{bn:List Nat}{hbn:∀k,F.k0 k≠.new->k∈bn}{k:List KI}{s:SS}(h:Qt ⟨prog,Γ.toTy,F,n,B,bn,hbn⟩ Γ 400 k s):G ⟨prog,Γ.toTy,F,n,B,bn,hbn⟩ k s:=rG Γ hm h
def rd{F:Fr}{n:Nat}{B:Exit->Act->World->Prop}{bn:List Nat}{hbn:∀k,F.k0 k≠.new->k∈bn}{k:List KI}{s:SS}{all:Array Oper}{done:List Stp}{rest:List Oper}(hs:all.toList=done.map (·.o)++rest)(h:dG ⟨prog,Γ.toTy,F,n,B,bn,hbn⟩ Γ 400 k all done rest s):DR ⟨prog,Γ.toTy,F,n,B,bn,hbn⟩ k all done rest s:=rD Γ hm hs h
structure Bq(Q:Prop):Prop where out:Q
def oO{P Q:Prop}(h:Q)(e:Bq Q->P:=by intro hb;refine rg ?_;(conv=>whnf);exact hb.out):P:=e ⟨h⟩
def oF{P Q:Prop}(h:Q)(e:Bq Q->P:=by intro hb;refine rg ?_;(conv=>whnf);refine aF ?_;refine rg ?_;(conv=>whnf);exact hb.out):P:=e ⟨h⟩
def oT{P Q:Prop}(h:Q)(e:Bq Q->P:=by intro hb;refine rg ?_;(conv=>whnf);refine aT ?_;refine rg ?_;(conv=>whnf);exact hb.out):P:=e ⟨h⟩
def bF{P Q:Prop}(h:Q)(e:Bq Q->P:=by intro hb;refine aF ?_;refine rg ?_;(conv=>whnf);exact hb.out):P:=e ⟨h⟩
def bT{P Q:Prop}(h:Q)(e:Bq Q->P:=by intro hb;refine aT ?_;refine rg ?_;(conv=>whnf);exact hb.out):P:=e ⟨h⟩
def oD{P Q:Prop}(h:Q)(e:Bq Q->P:=by intro hb;refine rd z_ ?_;(conv=>whnf);exact hb.out):P:=e ⟨h⟩
def dN{P:Prop}(h:P:=by
 apply Ar
 .exact E
 ·(repeat (first|exact ResVs.nil|(apply ResVs.cons;(first|exact .tmp|exact .cell rfl rfl rfl rfl))))
 .exact E
 .exact E):P:=h
def iL{a:Int}{K:Prop}(h:K)(e:I64 a:=by unfold I64;omega):I64 a/\K:=⟨e,h⟩
def iW{a:Int}{K Q:Prop}(h:Q)(e:I64 a:=by unfold I64;omega)(e2:Bq Q->K:=by intro hb;(conv=>whnf);exact hb.out):I64 a/\K:=⟨e,e2 ⟨h⟩⟩
def kW{k:Sort _}{a b:k}{K Q:Prop}(h:Q)(e:a=b:=by kernel_rfl)(e2:Bq Q->K:=by intro hb;(conv=>whnf);exact hb.out):a=b/\K:=⟨e,e2 ⟨h⟩⟩
def c0{C:Cx}{k:List KI}{s:SS}{all:Array Oper}{o:Oper}{rest:List Oper}{f:FuncId}{fn:Func}{c:Code}{xs:List Operand}{ts:Array TypeId}{A:List SV}{R:SV}(hs:Sy.Spec C.P f A [] R [])(hf:Fun C.P f fn c)(hg:G C (.ops all rest::k) (s.upd o.dst ⟨R,[],[]⟩))(h:o.op=.call ⟨.value (.func f),xs.toArray,ts⟩:=by exact rfl)(hA:A=xs.map (ev s):=by exact rfl)(aq:(B7 [] A&&R.inn [])=true:=by exact rfl)(hd:W5 C.n o=true:=by exact rfl)(hw:E3 C.n all o s=some true:=by exact rfl):G C (.ops all (o::rest)::k) s:=M4 hs hf h hA aq hd hw hg
def cD{C:Cx}{k:List KI}{s:SS}{all:Array Oper}{done:List Stp}{o:Oper}{rest:List Oper}{f:FuncId}{fn:Func}{c:Code}{xs:List Operand}{ts:Array TypeId}{A:List SV}{R:SV}(hs:Sy.Spec C.P f A [] R [])(hf:Fun C.P f fn c)(hg:DR C k all (done++[⟨done.length,o,⟨R,[],[]⟩,true⟩]) rest (s.upd o.dst ⟨R,[],[]⟩))(h:o.op=.call ⟨.value (.func f),xs.toArray,ts⟩:=by exact rfl)(hA:A=xs.map (ev s):=by exact rfl)(aq:(B7 [] A&&R.inn [])=true:=by exact rfl)(hi:all[done.length]? = some o:=by kernel_rfl)(hw:E3 C.n all o s=some true:=by exact rfl):DR C k all done (o::rest) s:=A23 hs hf h hA aq hi hw hg
def fU{P Q:Prop}(h:Q)(e:Bq Q->P:=by intro hb;((first|refine rG Γ hm ?_|refine rD Γ hm z_ ?_);(conv=>whnf);repeat((first|refine aF ?_|refine aT ?_);(first|refine rG Γ hm ?_|refine rD Γ hm z_ ?_);conv=>whnf));exact hb.out):P:=e ⟨h⟩
def fW{P Q:Prop}(h:Q)(e:Bq Q->P:=by intro hb;((conv=>whnf);repeat((first|refine aF ?_|refine aT ?_);(first|refine rG Γ hm ?_|refine rD Γ hm z_ ?_);conv=>whnf));exact hb.out):P:=e ⟨h⟩
def vL{s:SS}{V:List Nat}{l m:List SV}(h:VwL s V l m:=by repeat (first|exact VwL.nil|refine VwL.cons (Vw.refl _) ?_|refine VwL.cons Vw.nil ?_)):VwL s V l m:=h
def qA{p q:Prop}[Decidable p](h:decide p=true)(e:p->q:=by intro _h;omega):q:=e (zO h)
def qB{p q:Prop}[Decidable p](h:decide p=false)(e:¬p->q:=by intro _h;omega):q:=e (zT h)
def gD{P:Prop}(e:P:=by refine fU ?_;exact dN):P:=e
def gE{S0 F0 P Q:Prop}(s0:S0)(t0:F0)(h:Q)(e:S0->F0->Bq Q->P:=by intro s0 t0 b;refine c0 s0 t0 ?_;refine oO ?_;exact b.out):P:=e s0 t0 ⟨h⟩
def gF{P Q:Prop}(h:Q)(e:Bq Q->P:=by intro b;refine oO ?_;refine iW ?_;exact b.out):P:=e ⟨h⟩
def gG{P Q:Prop}(h:Q)(e:Bq Q->P:=by intro b;refine fU ?_;refine iL ?_;refine fW ?_;exact b.out):P:=e ⟨h⟩
def gH{P Q R:Prop}(h:Q)(k:R)(e:Bq (Q/\R)->P:=by intro b;refine oO ?_;exact b.out):P:=e ⟨⟨h,k⟩⟩
def gI{P:Prop}(e:P:=by refine oO ?_;exact dN):P:=e
def gJ{P Q R:Prop}(h:Q)(k:R)(e:Bq (Q/\R)->P:=by intro b;refine fU ?_;exact b.out):P:=e ⟨⟨h,k⟩⟩
def gL{P Q:Prop}(h:Q)(e:Bq Q->P:=by intro b;refine oD ?_;refine kW ?_;exact b.out):P:=e ⟨h⟩
def gM{S0 F0 P Q:Prop}(s0:S0)(t0:F0)(h:Q)(e:S0->F0->Bq Q->P:=by intro s0 t0 b;refine fU ?_;refine c0 s0 t0 ?_;exact b.out):P:=e s0 t0 ⟨h⟩
def gO{P Q:Prop}(h:Q)(e:Bq Q->P:=by intro b;refine fW ?_;refine iL ?_;refine fW ?_;exact b.out):P:=e ⟨h⟩
def gP{S0 F0 P Q:Prop}(s0:S0)(t0:F0)(h:Q)(e:S0->F0->Bq Q->P:=by intro s0 t0 b;refine fW ?_;refine c0 s0 t0 ?_;exact b.out):P:=e s0 t0 ⟨h⟩
structure Device where
 (row prio:Int) (name:ByteArray) (mac vtep:Int)
structure Port where
 (row dev native cost link:Int) (name:ByteArray) (tagged:List Int)
structure Link where
 (row a b:Int)
structure Domain where
 (dev vlan vni irb row:Int) (peers:List Int)
structure Static where
 (row domain port mac:Int)
structure Flood where
 (row dev vni:Int) (addrs:List Int)
structure Vrf where
 (row dev:Int) (name:ByteArray) (imports exports:List Int)
structure Irb where
 (row domain vrf addr bits:Int)
structure Net where
 (devices:List Device) (ports:List Port) (links:List Link) (domains:List Domain) (statics:List Static) (floods:List Flood) (vrfs:List Vrf) (irbs:List Irb)
def A1(d:Device):SV:=.agg [Aa d.row,Aa d.prio,As d.name,Bl d.mac,Be d.vtep]
def Bb(p:Port):SV:=.agg [Aa p.row,Aa p.dev,Aa p.native,Aa p.cost,Aa p.link,As p.name,.sl 1 Aa p.tagged]
def Ck(l:Link):SV:=.agg [Aa l.row,Aa l.a,Aa l.b]
def At(d:Domain):SV:=.agg [Aa d.dev,Aa d.vlan,Aa d.vni,Aa d.irb,Aa d.row,.sl 1 Aa d.peers]
def Bc(s:Static):SV:=.agg [Aa s.row,Aa s.domain,Aa s.port,Bl s.mac]
def Bn(f:Flood):SV:=.agg [Aa f.row,Aa f.dev,Aa f.vni,.sl 1 Be f.addrs]
def Ct(v:Vrf):SV:=.agg [Aa v.row,Aa v.dev,As v.name,.sl 1 Aa v.imports,.sl 1 Aa v.exports]
def Cq(i:Irb):SV:=.agg [Aa i.row,Aa i.domain,Aa i.vrf,Be i.addr,Aa i.bits]
def Dc(n:Net):List SV:=[.sl 5 A1 n.devices,.sl 7 Bb n.ports,.sl 3 Ck n.links,.sl 6 At n.domains,.sl 4 Bc n.statics,.sl 4 Bn n.floods,.sl 5 Ct n.vrfs,.sl 5 Cq n.irbs]
def Am(n:Net):SV:=.agg [.sl 5 A1 n.devices,.sl 7 Bb n.ports,.sl 3 Ck n.links,.sl 6 At n.domains,.sl 4 Bc n.statics,.sl 4 Bn n.floods,.sl 5 Ct n.vrfs,.sl 5 Cq n.irbs]
instance:Inhabited Device:=⟨⟨0,0,.empty,0,0⟩⟩
instance:Inhabited Port:=⟨⟨0,0,0,0,0,.empty,[]⟩⟩
instance:Inhabited Link:=⟨⟨0,0,0⟩⟩
instance:Inhabited Domain:=⟨⟨0,0,0,0,0,[]⟩⟩
instance:Inhabited Static:=⟨⟨0,0,0,0⟩⟩
instance:Inhabited Flood:=⟨⟨0,0,0,[]⟩⟩
instance:Inhabited Vrf:=⟨⟨0,0,.empty,[],[]⟩⟩
instance:Inhabited Irb:=⟨⟨0,0,0,0,0⟩⟩
def Ag(i:Int)(n:Nat):Bool:=decide (0<=i)&&decide (i<n)
def inB(l:List Int)(x:Int):Bool:=l.any (·==x)
def nth{k:Type}[Inhabited k](l:List k)(i:Int):k:=(l[i.toNat]?).getD default
theorem Ae{k:Type}[Inhabited k]{l:List k}{i:Int}(h:i.toNat<l.length):nth l i=l[i.toNat]:=by
 simp[nth,h]
def Bs{k:Type}(p:k->Bool)(l:List k):Int:=match l.findIdx? p with|some i=>(i:Int)|none=>-1
def Co{k:Type}{p:k->Bool}{l:List k}{j:Nat}(h:j<l.length)(h1:∀i (hi:i<l.length),i<j->p l[i]=false)(h2:p l[j]=true):Bs p l=j:=by
 have:l.findIdx? p=some j:=by
  rw[wG];exact⟨h,h2,λi hi=>by simp[h1 i q_ hi]⟩
 simp[Bs,this]
def Dk{k:Type}{p:k->Bool}{l:List k}(h1:∀i (hi:i<l.length),p l[i]=false):Bs p l=-1:=by
 have:l.findIdx? p=none:=by
  rw[List.findIdx?_eq_none_iff];intro x hx;obtain ⟨i,hi,rfl⟩:=yY.1 hx;exact h1 i hi
 simp[Bs,this]
def Iw{k:Type}(p:k->Bool)(l:List k):Bs p l<l.length:=by
 unfold Bs;split
 .rename_i i h;rw[wG]at h;obtain ⟨h,_⟩:=h;omega
 .omega
def I8{k:Type}(p:k->Bool)(l:List k):decide (0<=Bs p l)=l.any p:=by
 unfold Bs;split
 .rename_i i h;rw[wG]at h;obtain ⟨h,h2,_⟩:=h;have:l.any p=true:=xY.2 ⟨_,zI h,h2⟩;rw[this];simp
 .rename_i h;rw[List.findIdx?_eq_none_iff]at h;have:l.any p=false:=by
   rw[wE];intro x hx;simp[h x hx]
  rw[this];simp
def Ik{k:Type}(p:Nat->k->Bool)(l:List k):Bool:=l.zipIdx.all λq=>p q.2 q.1
def allB_iff{k:Type}{p:Nat->k->Bool}{l:List k}:Ik p l=true↔∀i (h:i<l.length),p i l[i]=true:=by
 simp only[Ik,yT];constructor
 .intro h i hi;exact h (l[i],i) (by rw[tK];simp[hi])
 .rintro h ⟨x,i⟩ hx;rw[tK]at hx;obtain ⟨hi,rfl⟩:=List.getElem?_eq_some_iff.1 hx;exact h i hi
def Ayc{k:Type}{p:Nat->k->Bool}{l:List k}(h:∀i (h:i<l.length),p i l[i]=true):Ik p l=true:=allB_iff.2 h
def Di{k:Type}{p:Nat->k->Bool}{l:List k}{i:Nat}(h:i<l.length)(h1:p i l[i]=false):Ik p l=false:=by
 cases hh:Ik p l with
 |false=>rfl
 |true=>have:=allB_iff.1 hh i h;rw[h1]at this;cases this
def El{k:Type}(p:Nat->k->Bool)(l:List k)(j:Nat):Prop:=∀i (h:i<l.length),i<j->p i l[i]=true
def Bi{k:Type}(p:Nat->k->Bool)(l:List k):El p l 0:=λi h hj=>yA hj q_
def Bd{k:Type}{p:Nat->k->Bool}{l:List k}{j:Nat}(hI:El p l j)(hj:j<l.length)(h:p j l[j]=true):El p l (j+1):=by
 intro i hi bu;rcases vZ i j with h1|h1
 .exact hI i hi h1
 .have:i=j:=by omega
  subst this;exact h
def Hn{k:Type}{p:Nat->k->Bool}{l:List k}{j:Nat}(hI:El p l j)(hj:l.length<=j):Ik p l=true:=Ayc λi hi=>hI i hi q_
def An{k:Type}(l:List k):Prop:=l.length<2147483648
end Go.Sy.Zaa
namespace Go.Sy
open Go.ChangeShapes Go.WideShapes Go.ChangeAt Go.RowKit
def k0:Ka:=⟨λ_=>.new,λ_=>False⟩
def inv0(w:World):Inv k0 w :=
 ⟨λi j b h=>(by cases h),λk b h=>(by cases h),λk b h=>(by cases h),λb h=>False.elim h⟩
def dV{w w':World}{k':Ka}(c:Ctx ⟨w,k0,[]⟩ k' w'):Below w.heap.size w w' :=
 ⟨c.os,c.tape,c.output,c.size,λk hk=>c.old k hk (λj h=>by cases h)⟩
section
variable {H:Type} {enc:TypeId×Value->H} {P:Program}
theorem Yq{W W':World}(hl:laidOutB P=true)(hb:Below W.heap.size W W'):∀{ts:List TypeId} {vs:List Value} {ds:List (DataW H)} {ps:List MemPlace},(∀t∈ts,P.readableRec t=true/\t<P.types.size) ->
  (∀x∈ps,x.block<W.heap.size)->DataW.TrodAll enc P W 0 (λ_=>true) true ts vs ds ps->DataW.TrodAll enc P W' 0 (λb=>decide (b<W.heap.size)) true ts vs ds ps
 |[],_,_,_,_,_,h=>by
  obtain ⟨rfl,rfl,rfl⟩:=trodAll_nil h;rfl
 |t::ts,_,_,_,ht,hp,h=>by
  obtain ⟨v,vs,d,ds,p,q,rfl,rfl,rfl,h1,h2⟩:=trodAll_cons h;have:=ht t y_;exact⟨p,q,Below.trod hl this.1 this.2 h1 hb (λx hx=>hp x (by simp[hx])),Yq hl hb (λt h=>ht t (by simp[h])) (λx hx=>hp x (by simp[hx])) h2,E⟩
theorem Aw8{f:FuncId}{fn:Func}{s:ChangeSpec}{W:World}{args:Array Value}{ds gs:List (DataW H)}{before:List MemPlace}{tb:TypeId}{A:List SV}(hv:s.vars=[])(hl:laidOutB P=true)(hW:DataW.Whole enc P fn.params.toList s.vars false W args.toList ds gs before)(hts:∀t∈fn.params.toList,P.readableRec t=true/\t<P.types.size)(sr:fn.resultTypes=#[tb])(hbt:P.underlying tb=some .bool)(vp:∀gs:List (DataW H),gs=[]->s.fn H (ds++gs)={results:=[.lit (.bool true)],args:=ds})(hA:RdL k0 W A args.toList)(hs:Sy.Spec P f A [] (Ab true) []):Calls P f args W λe W'=>∃v,e=.returned v/\s.post enc P fn false true false false W args v W':=by
 have hc:=hs k0 W args.toList (inv0 W) (λk hk=>yA rfl hk) hA (λp hp=>by cases hp);simp only[Array.toArray_toList]at hc;refine hc.mono ?_;rintro e W' ⟨v,k',rfl,ctx,inv,hR,_⟩;have hvv:v=.bool true:=by simpa [Ab,Rd] using hR
 subst hvv;have hb:=dV ctx;have hW':=hW;obtain ⟨p,q,h1,h2,h3,h4,h5⟩:=hW;have wb:gs=[]/\q=[]:=by
  rw[hv]at h2;exact trodVars_none h2
 obtain ⟨rfl,rfl⟩:=wb;rw[xD]at h3;subst h3;have ab:∀x∈before,x.block<W.heap.size:=λx hx=>kS (hW'.lt x hx)
 refine⟨_,rfl,ds,[],before,[],before,[],hW',?_,?_,?_,?_,λh=>by cases h⟩
 .rw[vp [] rfl,sr];exact trodAll_mk1 (shut_bool hbt true)
 .rw[vp [] rfl];exact Yq hl hb hts ab h1
 .rw[hv,vp [] rfl];rfl
 .exact hb.frame _
end
section
variable {H:Type} (enc:TypeId×Value->H) (P:Program) (W:World)
def Op1(t:TypeId){k:Type}(e:k->SV)(p:k->Prop):Prop :=
 ∀n c y,DataW.trod enc P W 0 (λ_=>true) true n t [c]=some y->∃x,p x/\Rd k0 W (e x) c/\c.oneCell'=true
def OpN(t:TypeId){k:Type}(e:k->SV)(p:k->Prop)(sz:Nat):Prop :=
 ∀n cs y,DataW.trod enc P W 0 (λ_=>true) true n t cs=some y->∃x,p x/\cs.length=sz/\Ones cs/\RdL k0 W (cellsOf (e x)) cs
variable {enc P W}
theorem Zz{t:TypeId}{k:IntKind}(ht:P.underlying t=some (.int k)):Op1 enc P W t (λz=>.val (.int k z)) (λz=>(Lit.int k z).wf=true):=λn c y h=>by
 obtain ⟨z,e,_,hw⟩:=DataW.trod_int ht h;have e:c=.int k z:=kS e;subst e;exact⟨z,hw,by simp[Rd],E⟩
theorem A4n{t:TypeId}{k:IntKind}(ht:P.underlying t=some (.int k)):OpN enc P W t (λz=>.val (.int k z)) (λz=>(Lit.int k z).wf=true) 1:=λn cs y h=>by
 obtain ⟨z,rfl,_,hw⟩:=DataW.trod_int ht h;refine⟨z,hw,E,λc hc=>by simp at hc;subst hc;rfl,?_⟩;simp[cellsOf,RdL,Rd]
theorem A0n{t:TypeId}(ht:P.underlying t=some .bool):OpN enc P W t Ab (λ_=>True) 1:=λn cs y h=>by
 obtain ⟨z,rfl,_⟩:=DataW.trod_bool ht h;refine⟨z,Y,E,λc hc=>by simp at hc;subst hc;rfl,?_⟩;simp[Ab,cellsOf,RdL,Rd]
theorem Aha{base:Nat}{a:Addr}{n:Nat}{cs:List Value}(h:W.cells? base a n=some cs):cs.length=n/\∀j (_:j<n),W.cell? (a.add j)=cs[j]?:=by
 unfold World.cells? at h;split at h
 .refine⟨kS (mapM_some_length h),λj hj=>?_⟩;exact mapM_some_get h j j (by simp[hj])
 .cases h
theorem Wd{t et:TypeId}{r:Type}{e:r->SV}{p:r->Prop}{sz:Nat}(ht:P.underlying t=some (.slice et))(bg:P.cellsOf et=sz)(h0:0<sz)(hb:∀x,(e x).boxed=true)(hd:∀x,(e x).data=true)(hO:OpN enc P W et e p sz):Op1 enc P W t (λl:List r=>.sl sz e l) (λl=>(∀x∈l,p x)/\l.length<=maxLen):=λn c y h=>by
 rcases DataW.trod_slice ht h with ⟨kt,_⟩|⟨a,len,cap,elems,rest,m,rfl,kt,_,_,y5,hcm,hel,bc,_⟩
 .have hc:c=.slice none 0 0:=by simpa using kt
  subst hc;refine⟨[],⟨by simp,xN _⟩,?_,E⟩;simp only[Rd,RdD];exact .inl ⟨Y,none,0,E⟩
 .have hc:c=.slice (some a) len cap:=by simpa using kt
  subst hc;rw[bg]at bc;have dp:∀i:Fin len,∃x,p x/\∃cs,W.cells? 0 (a.add (i*sz)) sz=some cs/\cs.length=sz/\Ones cs/\RdL k0 W (cellsOf (e x)) cs:=λi=>by
   have h1:=bc i.1 i.2;rw[zR q_]at h1;obtain ⟨cs,h2,h3⟩:=Option.bind_eq_some_iff.1 h1;obtain ⟨x,h4,h5,h6,h7⟩:=hO _ _ _ h3;exact⟨x,h4,cs,h2,h5,h6,h7⟩
  let xs:Fin len->r:=λi=>Classical.choose (dp i)
  have rp:∀i,p (xs i)/\∃cs,W.cells? 0 (a.add (i.1*sz)) sz=some cs/\cs.length=sz/\Ones cs/\RdL k0 W (cellsOf (e (xs i))) cs:=λi=>Classical.choose_spec (dp i)
  refine⟨List.ofFn xs,⟨λx hx=>?_,by simp;omega⟩,?_,E⟩
  .obtain ⟨i,rfl⟩:=List.mem_ofFn.1 hx;exact(rp i).1
  .simp only[Rd,RdD];by_cases hl:len=0
   .subst hl;exact .inl ⟨by simp,_,_,E⟩
   .have gq:∀i:Fin len,∀j,j<sz->∃v,W.cell? ((a.add (i.1*sz)).add j)=some v:=λi j hj=>by
     obtain ⟨_,cs,h1,h2,_⟩:=rp i;have:=(Aha h1).2 j hj;rw[zR q_]at this;exact⟨_,this⟩
    obtain ⟨b,off,spot⟩:=a;have hspot:spot=none:=by
     obtain ⟨v,hv⟩:=gq ⟨0,by omega⟩ 0 h0;simpa [Addr.add] using World.cell?_spot hv
    subst hspot;have ot:∀i j,((⟨b,off,none⟩:Addr).add i).add j=⟨b,off+i+j,none⟩:=λi j=>by rw[Addr.add_lit,Addr.add_lit]
    refine .inr ⟨b,off,cap,by simp,kS y5,?_,?_,λi hi=>?_⟩
    .rintro (⟨k,hk⟩|hk)
     .cases hk
     .exact hk
    .obtain ⟨v,hv⟩:=gq ⟨0,by omega⟩ 0 h0;rw[ot]at hv;rcases vZ b W.heap.size with h|h
     .exact h
     .simp[World.cell?,uX h]at hv
    .simp only[List.length_ofFn]at hi;obtain ⟨_,cs,h1,h2,h3,h4⟩:=rp ⟨i,hi⟩;obtain ⟨u,g1,g2⟩:=Rd.of_cells (hb _) h3 h4;refine⟨u,?_,?_,by rw[g2];exact h3,λj hj=>?_⟩
     .rw[List.getElem_ofFn];exact Rd.data _ _ (hd _) g1
     .have:u.cells.toList.length=sz:=by rw[g2,h2]
      simpa using this
     .have:=(Aha h1).2 j hj;rw[ot]at this;rw[this,<-g2];simp
end
end Go.Sy
namespace Go.Sy.Zaa
open Go.Proofs Go.ChangeShapes Go.WideShapes Go.ChangeAt Go.RowKit
set_option maxRecDepth 100000
section
variable {H:Type} {enc:TypeId×Value->H} {W:World}
def wI(k:IntKind)(z:Int):Prop:=(Lit.int k z).wf=true
def Device.In(x:Device):Prop:=wI .i64 x.row/\wI .i64 x.prio/\x.name.size<=maxLen/\wI .u64 x.mac/\wI .u32 x.vtep
def Port.In(x:Port):Prop:=wI .i64 x.row/\wI .i64 x.dev/\wI .i64 x.native/\wI .i64 x.cost/\wI .i64 x.link/\x.name.size<=maxLen/\((∀z∈x.tagged,wI .i64 z)/\x.tagged.length<=maxLen)
def Link.In(x:Link):Prop:=wI .i64 x.row/\wI .i64 x.a/\wI .i64 x.b
def Domain.In(x:Domain):Prop:=wI .i64 x.dev/\wI .i64 x.vlan/\wI .i64 x.vni/\wI .i64 x.irb/\wI .i64 x.row/\((∀z∈x.peers,wI .i64 z)/\x.peers.length<=maxLen)
def Static.In(x:Static):Prop:=wI .i64 x.row/\wI .i64 x.domain/\wI .i64 x.port/\wI .u64 x.mac
def Flood.In(x:Flood):Prop:=wI .i64 x.row/\wI .i64 x.dev/\wI .i64 x.vni/\((∀z∈x.addrs,wI .u32 z)/\x.addrs.length<=maxLen)
def Vrf.In(x:Vrf):Prop:=wI .i64 x.row/\wI .i64 x.dev/\x.name.size<=maxLen/\((∀z∈x.imports,wI .i64 z)/\x.imports.length<=maxLen)/\((∀z∈x.exports,wI .i64 z)/\x.exports.length<=maxLen)
def Irb.In(x:Irb):Prop:=wI .i64 x.row/\wI .i64 x.domain/\wI .i64 x.vrf/\wI .u32 x.addr/\wI .i64 x.bits
structure Net.In(n:Net):Prop where
 devices:(∀x∈n.devices,Device.In x)/\n.devices.length<=maxLen
 ports:(∀x∈n.ports,Port.In x)/\n.ports.length<=maxLen
 links:(∀x∈n.links,Link.In x)/\n.links.length<=maxLen
 domains:(∀x∈n.domains,Domain.In x)/\n.domains.length<=maxLen
 statics:(∀x∈n.statics,Static.In x)/\n.statics.length<=maxLen
 floods:(∀x∈n.floods,Flood.In x)/\n.floods.length<=maxLen
 vrfs:(∀x∈n.vrfs,Vrf.In x)/\n.vrfs.length<=maxLen
 irbs:(∀x∈n.irbs,Irb.In x)/\n.irbs.length<=maxLen
theorem bN{t et:TypeId}{k:Type}{e:k->SV}{p:List k->Prop}{sz base:Nat}{v:Value}{d:DataW H}{ps:List MemPlace}(ht:Tryz.prog.underlying t=some (.slice et))(hO:Op1 enc Tryz.prog W t (λl:List k=>.sl sz e l) p)(ma:Value.okWide Tryz.prog W .any base t v)(h1:DataW.Trod enc Tryz.prog W 0 (λ_=>true) true t v d ps):∃l,p l/\Rd k0 W (.sl sz e l) v:=by
 obtain ⟨a,len,cap,rfl⟩:=okWide_slice ht ma;obtain ⟨fuel,hf⟩:=h1;obtain ⟨x,h1,h2,_⟩:=hO _ _ _ hf;exact⟨x,h1,h2⟩
end
open Go.Proofs Go.Proofs.Tryz
attribute [local irreducible]G DR
def Azo(i:Int)(h0:0<=i)(h5:i<=5):Sp 99 [Aa i] (Bl (8*(5-i))):=cT F99 ntmps99 λF hF=>by
 conv=>whnf
 refine iW ?_;refine iW ?_;refine Ar E Aq (zH (λz=>SV.val (.int .u64 z)) ?_) E;rw[IntKind.wrap_u64];omega
def be:Nat->Nat->List UInt8
 |0,_=>[]
 |k+1,m=>UInt8.ofNat (m/256^k)::be k m
def Dm(m:Nat):∀k,(be k m).length=k
 |0=>rfl
 |k+1=>by simp[be,Dm m k]
def Ajs(m:Nat):∀(k j:Nat) (_h:j<k),(be k m).take (j+1)=(be k m).take j++[UInt8.ofNat (m/256^(k-1-j))]
 |0,j,h=>by omega
 |k+1,0,h=>by simp[be]
 |k+1,j+1,h=>by
  have:=Ajs m k j q_;simp only[be,List.take_succ_cons,wB,this];rw[show k+1-1-(j+1)=k-1-j by omega]
def Akq(m k:Nat)(hk:k<=7):IntKind.u8.wrap ((m:Int).fdiv (2^(min (8*(k:Int)).toNat IntKind.u64.bits)))=((UInt8.ofNat (m/256^k)).toNat:Int):=by
 have h1:min (8*(k:Int)).toNat IntKind.u64.bits=8*k:=by simp[IntKind.bits];omega
 rw[h1,wQ _ (by exact Int.pow_nonneg j_),IntKind.wrap_u8];have h2:(2:Int)^(8*k)=((256^k:Nat):Int):=by rw[Int.pow_mul];simp
 rw[h2];simp
def put2(l:List UInt8)(hl:l.length<1000000)(m:Nat):Sq 48 [.osl 0,Bl m] [(0,.row 1 Al l)] (.osl 1) [(0,.non),(1,.row 1 Al (l++be 6 m))]:=cT F48 ntmps48 λF hF=>by
 conv=>whnf
 refine Asy 0 1 [0] E E j_ (by simp;rfl) ?_;refine Bg 6 (λj=>[(0,.osl 1),(1,Bl m),(6,Aa j)]) (λj=>[(0,.non),(1,.row 1 Al (l++(be 6 m).take j))]) [(0,0),(1,1)] ⟨kA,⟨.inl E,E,.inl (zH (Ob.row 1 Al) (xD l)),E,Y⟩,E,E⟩ ?_;intro j hj;refine gH ?_ ?_<;>intro h
 .have ab:j<6:=qA h;refine oO ?_;refine gE (Azo j q_ q_) F99 ?_;refine⟨by omega,?_⟩
  conv=>whnf
  refine Aj (Ah Γ.toTy 16 E E E E E (.row E) (.lit (l:=[UInt8.ofNat (m/256^(5-j))]) E ?_) y_ ?_ ?_) E E ?_
  .have:=Akq m (5-j) q_;rw[show ((5-j:Nat):Int)=5-(j:Int) by omega]at this;simp only[xV,uA,Al,<-this]
  .simp[Dm];omega
  .simp[Dm];omega
  refine gF ?_;exact Az [(0,0),(1,16)] ab ⟨kA,⟨.inl E,E,.inl (zH (Ob.row 1 Al) (by rw[Ajs _ _ _ ab,xF])),E,Y⟩,E,E⟩
 .have:j=6:=qB h;subst this;refine oO ?_;exact done E Aq [(0,0),(1,1)] _ (λ_ h=>h) E E kU
def put2n(m:Nat):Sq 48 [svN,Bl m] [] (.osl 0) [(0,.row 1 Al (be 6 m))]:=cT F48 ntmps48 λF hF=>by
 conv=>whnf
 refine Ca 0 1000 1 Al E E ?_;refine Bg 6 (λj=>[(0,.osl 1000),(1,Bl m),(6,Aa j)]) (λj=>[(1000,.row 1 Al ((be 6 m).take j))]) [] kU ?_;intro j hj;refine gH ?_ ?_<;>intro h
 .have ab:j<6:=qA h;refine oO ?_;refine gE (Azo j q_ q_) F99 ?_;refine⟨by omega,?_⟩
  conv=>whnf
  refine Aj (Ah Γ.toTy 16 E E E E E (.row E) (.lit (l:=[UInt8.ofNat (m/256^(5-j))]) E ?_) y_ ?_ ?_) E E ?_
  .have:=Akq m (5-j) q_;rw[show ((5-j:Nat):Int)=5-(j:Int) by omega]at this;simp only[xV,uA,Al,<-this]
  .simp[Dm];omega
  .simp[Dm];omega
  refine gF ?_;exact Az [(1000,16)] ab ⟨kA,⟨.inl (zH (Ob.row 1 Al) (Ajs _ _ _ ab)),E,Y⟩,E,E⟩
 .have:j=6:=qB h;subst this;refine oO ?_;exact done E Aq [(0,1000)] _ (λ_ h=>h) E E kU
def A2i(d s:Nat)(t:Int)(body:List UInt8):SV:=.agg [Bl d,Bl s,Aa t,.sl 1 Al body]
def frame(d s t:Nat)(body:List UInt8):List UInt8:=be 6 d++be 6 s++[UInt8.ofNat (t/256),UInt8.ofNat t]++body
def Jc(t:Nat):[UInt8.ofNat (t/256),UInt8.ofNat t].map Al=[SV.val (.int .u8 (IntKind.u8.wrap ((t:Int).fdiv (2^(min (Int.toNat 8) IntKind.i64.bits))))),SV.val (.int .u8 (IntKind.u8.wrap (t:Int)))]:=by
 have h1:IntKind.u8.wrap ((t:Int).fdiv (2^(min (Int.toNat 8) IntKind.i64.bits)))=((UInt8.ofNat (t/256)).toNat:Int):=by
  show IntKind.u8.wrap ((t:Int).fdiv 256)=_;rw[wQ _ j_,IntKind.wrap_u8];simp
 have h2:IntKind.u8.wrap (t:Int)=((UInt8.ofNat t).toNat:Int):=by
  rw[IntKind.wrap_u8];simp
 rw[h1,h2];rfl
def Anc(d s t:Nat)(body:List UInt8)(hd:d<281474976710656)(hs:s<281474976710656)(ht:t<=65535)(hb:body.length<=1504):Sq 19 [A2i d s t body] [] (.tup [.osl 0,Aa 0]) [(0,.row 1 Al (frame d s t body))]:=cT F19 ntmps19 λF hF=>by
 conv=>whnf
 refine⟨λh=>yA (zO h) q_,λ_=>?_⟩;refine oO ?_;refine⟨λh=>yA (zO h) q_,λ_=>?_⟩;refine oF ?_;refine⟨λh=>yA (zO h) q_,λ_=>?_⟩;refine oO ?_;refine⟨λh=>yA (zO h) q_,λ_=>?_⟩;refine oO ?_;refine Ce (Ad [(0,31)] E F48 (put2n d) E Y E ⟨.inr E,Y⟩) z_ E (oD ?_);refine Ce (Ad [(0,31),(1,34)] E F48 (put2 (be 6 d) (by simp[Dm]) s) E ⟨E,Y⟩ E kB) z_ E (gL ?_);refine⟨by decide,?_⟩
 conv=>whnf
 refine Ce (Ah Γ.toTy 44 E E E E E (.row E) (.lit (l:=[UInt8.ofNat (t/256),UInt8.ofNat t]) E (Jc t)) j_ ?_ ?_) z_ E ?_
 .simp[Dm]
 .simp[Dm]
 refine oD ?_;refine Ce (Ah Γ.toTy 47 E E E E E (.row E) .sl j_ ?_ ?_) z_ E ?_
 .simp[Dm];omega
 .simp[Dm];omega
 refine gL ?_;exact done E (.cons .tmp Aq) [(0,47)] _ (λ_ h=>h) E E kU
end Go.Sy.Zaa
namespace Go.Sy.Zaa
structure FrameM where
 dst:Nat
 src:Nat
 typ:Nat
 body:List UInt8
def Df(f:FrameM):SV:=A2i f.dst f.src f.typ f.body
structure StepM where
 kind:Int
 port:Int
 domain:Int
 at_:Int
 bytes:List UInt8
 up:List Bool
def Bp(x:StepM):SV:=.agg [Aa x.kind,Aa x.port,Aa x.domain,Aa x.at_,.sl 1 Al x.bytes,.sl 1 Ab x.up]
structure SeenM where
 port:Int
 origin:Int
 bytes:List UInt8
def En(x:SeenM):SV:=.agg [Aa x.port,Aa x.origin,.sl 1 Al x.bytes]
def hostN(ip:Int):Nat:=2199023255552+ip.toNat
def Eg(a bits:Int):Int:=if 0<=bits/\bits<=32 then a-a%2^(32-bits).toNat else 0
def Ih(n:Nat):Nat:=if n=0 then 0 else (n-1)%65535+1
end Go.Sy.Zaa
namespace Go.Sy
theorem Spec.view{P:Program}{f:FuncId}{A A':List SV}{H H':Obs}{R:SV}(hs:Sy.Spec P f A H R H')(h:∀k w vs,RdL k w A' vs->RdL k w A vs):Sy.Spec P f A' H R H' :=
 λk w vs hi hk hr ho=>hs k w vs hi hk (h k w vs hr) ho
def X9{k:Ka}{w:World}{sz:Nat}{a:Type}{e:a->SV}{v:Value}(h:Rd k w (.val (.slice none 0 0)) v):Rd k w (.sl sz e []) v:=by
 simp only[Rd]at h;simp only[Rd,RdD];exact .inl ⟨Y,none,0,h⟩
def Aed{M:Nat->Prop}{w:World}{sz:Nat}{k:Type}{e:k->SV}{v:Value}(h:v=.slice none 0 0):RdD M w (.sl sz e []) v:=by
 simp only[RdD];exact .inl ⟨Y,none,0,h⟩
def Aoi{C:Cx}{k:List KI}{s:SS}(d:Nat){sz:Nat}{m c:Type}{e:m->SV}{l:List m}{e':c->SV}{l':List c}(h:s.h d=.row sz e l)(hl:l'.length=l.length)(hv:∀(M:Nat->Prop) (w:World) (i:Nat) (h1:i<l.length) (h2:i<l'.length) (v:Value),RdD M w (e l[i]) v->RdD M w (e' l'[i]) v)(hg:G C k ⟨s.σ,upd s.h d (.row sz e' l')⟩):G C k s:=λr a w hs=>
 hg r a w ⟨hs.defers,hs.size,hs.inv,hs.ctx,hs.slot,λ i=>by
  show ObOK r w i (upd s.h d (.row sz e' l') i);by_cases hi:i=d
  .subst hi;rw[B1];have:=hs.obj i;rw[h]at this;rcases this with ⟨h1,rfl⟩|⟨b,cap,cs,T,fr,e1,e2,e3,e4,e5,e6⟩
   .exact .inl ⟨h1,yC (kS hl)⟩
   .refine .inr ⟨b,cap,cs,T,fr,by rw[hl];exact e1,e2,e3,e4,by omega,λi x hx=>?_⟩;obtain ⟨j5,rfl⟩:=hx;obtain ⟨_,u,hu,df⟩:=e6 i (e (l[i]'q_)) ⟨by omega,rfl⟩;exact⟨j5,u,hv _ _ i q_ j5 u hu,df⟩
  .rw[Cz _ _ hi];exact hs.obj i⟩
def Auf{k:Ka}{w:World}{x:SV}:∀{l:List SV} {cs:List Value} {i:Nat},RdL k w l cs->(∀y v,l[i]? = some y->Rd k w y v->Rd k w x v)->RdL k w (l.set i x) cs
 |[],_,_,h,_=>h
 |y::l,cs,0,h,hx=>by
  simp only[RdL,uY]at h|-;obtain ⟨v,r,e1,e2,e3⟩:=h;exact⟨v,r,e1,hx y v E e2,e3⟩
 |y::l,cs,i+1,h,hx=>by
  simp only[RdL,List.set_cons_succ]at h|-;obtain ⟨v,r,e1,e2,e3⟩:=h;exact⟨v,r,e1,e2,Auf e3 (λz u hz hu=>hx z u hz hu)⟩
def Tq{C:Cx}{k:List KI}{s:SS}(b i d sz:Nat){m:Type}(e:m->SV){l:List SV}(hb:s.h b=.box l)(h:l[i]? = some (.val (.slice none 0 0)))(hd:s.h d=.fresh)(hbd:Nat.beq b d=false)(hg:G C k ⟨s.σ,upd (upd s.h b (.box (l.set i (.osl d)))) d (.row sz e [])⟩):G C k s:=λr a w hs=>by
 have af:b≠d:=λe=>by rw[e,tT]at hbd;cases hbd
 have az:r d=.new:=by have:=hs.obj d;rwa [hd]at this
 obtain ⟨st,inv⟩:=Ky hs.inv az (e:=.nil) (Grew.refl w) (λb hb=>by cases hb);refine hg (Em r d .nil) a w ⟨hs.defers,hs.size,inv,hs.ctx.step inv st,λj=>Rd.step st _ _ (hs.slot j),λj=>?_⟩;show ObOK _ w j (upd (upd s.h b (.box (l.set i (.osl d)))) d (.row sz e []) j);by_cases hj:j=d
 .subst hj;rw[B1];exact .inl ⟨Ay _ _ _,rfl⟩
 .rw[Cz _ _ hj];by_cases hjb:j=b
  .subst hjb;rw[B1];have:=ObOK.step st hj _ (hs.obj j);rw[hb]at this;obtain ⟨b',cs,T,fr,e1,e2,e3,e4,e5⟩:=this;refine⟨b',cs,T,fr,e1,e2,e3,e4,Auf e5 λy v hy hv=>?_⟩;rw[h]at hy;cases hy;simp only[Rd]at hv;simp only[Rd,Ay];exact hv
  .rw[Cz _ _ hjb];exact ObOK.step st hj _ (hs.obj j)
def Yh{P:Program}(w:World){t e:TypeId}(h:P.underlying t=some (.slice e))(ad:Option Addr)(n cap c1 c2:Nat):(Op.equal t (.slice ad n cap) (.slice none c1 c2)).run P w=.ok ad.isNone w:=by
 have key:∀d,(Op.equalIn (d+1) t (.slice ad n cap) (.slice none c1 c2)).run P w=.ok ad.isNone w:=λd=>by
  cases ad<;>simp[Op.equalIn,run_underlying h]
 exact key 9999
inductive NilT(s:SS):SV->List Nat->Nat->Prop
 |sl {sz:Nat} {α:Type} {e:α->SV} {l:List α}:NilT s (.sl sz e l) [] l.length
 |row {k sz:Nat} {α:Type} {e:α->SV} {l:List α} (h:s.h k=.row sz e l):NilT s (.osl k) [k] l.length
theorem NilT.at{C:Cx}{s:SS}{k:Ka}{a:Act}{w:World}{x:Operand}{rd:List Nat}{n:Nat}(hs:St C.F C.n s k a w)(hx:NilT s (ev s x) rd n):∃(ad:Option Addr) (m cap:Nat),a.eval x=.slice ad m cap/\(ad.isNone=true->n=0):=by
 have h1:Rd k w (ev s x) (a.eval x):=hs.ev x;generalize ev s x=y at *;cases hx with
 | @sl sz r e l=>
  simp only[Rd,RdD]at h1;rcases h1 with ⟨rfl,a',cap,h1⟩|⟨b,off,cap,h1,_⟩
  .exact⟨_,_,_,h1,λ_=>rfl⟩
  .exact⟨_,_,_,h1,λh=>by cases h⟩
 | @row k' sz r e l hr=>
  have cq:=hs.obj k';rw[hr]at cq;simp only[Rd]at h1;rcases cq with ⟨hκ,hl⟩|⟨b,cap,_,_,_,hκ,_⟩
  .rw[hκ]at h1;exact⟨_,_,_,h1,λ_=>by rw[hl];rfl⟩
  .rw[hκ]at h1;exact⟨_,_,_,h1,λh=>by cases h⟩
def Hk{C:Cx}{k:List KI}{s:SS}{all:Array Oper}{o:Oper}{rest:List Oper}{op:BinOp}{t yt:TypeId}{ti:TI}{et:TypeId}{sz eb n:Nat}{ez:List Value}{x y:Operand}{rd:List Nat}(h:o.op=.binOp op t x y yt)(hop:op=.eql\/op=.neq)(ht:C.Γ.get t=some ti)(hk:ti.k=.slice et sz eb ez)(hy:ev s y=.val (.slice none 0 0))(hx:NilT s (ev s x) rd n)(hd:W5 C.n o=true)(hw:E3 C.n all o s=some true)(hg:∀b:Bool,(b=true->n=0)->G C (.ops all rest::k) (s.upd o.dst ⟨.val (.bool (if op=.eql then b else !b)),rd,[]⟩)):G C (.ops all (o::rest)::k) s:=λr a w hs=>by
 have h2:Rd r w (ev s y) (a.eval y):=hs.ev y;rw[hy]at h2;obtain ⟨ad,m,cap,e1,e2⟩:=hx.at hs;obtain ⟨d,info,z,k1,k2,_⟩:=C.Γ.ok t ti ht;rw[hk]at k2;simp only[TK.ok]at k2;have au:=Yh (P:=C.P) w (t:=t) (e:=et) (by first|exact k2.1▸k1|(rw[k1,k2.1])) ad m cap 0 0;have hG:=hg ad.isNone e2;have hv:=h2.val;refine wpList_step λK hK=>?_
 rw[zE (Xm hs (E4 hw).2 (E4 hw).1)];have vr:(execOp a.eval o).run C.P w=.ok (.value (.bool (if op=.eql then ad.isNone else !ad.isNone))) w:=by
  rcases hop with rfl|rfl<;>simp[execOp,h,e1,hv,eqGuard,binOp,au]
 simp only[Oper.wp,vr,Oper.upon];exact hK _ _ (hG r _ w (hs.put (U:=⟨.val (.bool (if op=.eql then ad.isNone else !ad.isNone)),rd,[]⟩) (Adk hd) (Step.refl _ r w) hs.inv (by simp[Rd]) (λp hp=>by cases hp)))
def KeepL(s:SS):List (Nat×Ob)->Prop
 |[]=>True
 |(k,o)::r=>s.h k=o/\KeepL s r
theorem KeepL.all{s:SS}:∀{l:List (Nat×Ob)},KeepL s l->∀p∈l,s.h p.1=p.2
 |[],_,p,hp=>by cases hp
 |(k,o)::r,h,p,hp=>by
  rcases yI.1 hp with rfl|hp
  .exact h.1
  .exact KeepL.all h.2 p hp
def stepD2{C:Cx}{k:List KI}{s:SS}{all:Array Oper}{done:List Stp}{o:Oper}{rest:List Oper}{U:Up}(hg:Good C.P o s U)(hk:KeepL s U.objs)(hi:all[done.length]? = some o)(hw:E3 C.n all o s=some true)(h:DR C k all (done++[⟨done.length,o,⟨U.v,U.rd++U.ws,[]⟩,true⟩]) rest (s.upd o.dst ⟨U.v,U.rd++U.ws,[]⟩))(hn:(Km o||Tf o)=false:=by rfl):DR C k all done (o::rest) s :=
 A3m _ (.of2 (hg.keep hk.all) hn) hi (E4 hw).1 h
def eS{a:Ka}{w w':World}(hi:Inv a w)(g:Grew w w'):Step (λ_=>False) a w a w'/\Inv a w' :=
 ⟨⟨g.size,g.os,g.tape,g.output,rfl,λ b hb=>g.blk b (hi.mbnd b hb),λ b hb _=>g.blk b hb,λ k b _ hb=>g.blk b (hi.bnd k b hb),λ _ _=>rfl,λ _ h=>h.elim,λ _ h=>.inl h⟩,
  ⟨hi.inj,λ k b h=>xA (hi.bnd k b h) g.size,hi.apart,λ b h=>xA (hi.mbnd b h) g.size⟩⟩
theorem Spec.of_calls{P:Program}{f:FuncId}{A:List SV}{H:Obs}{u:Value}(h:∀(k:Ka) (w:World) (vs:List Value),Inv k w->RdL k w A vs->H.ok k w->Calls P f vs.toArray w λe w'=>e=.returned u/\RowKit.Below w.heap.size w w'):Spec P f A H (.val u) H:=by
 intro k w vs hi _ hr ho;refine(h k w vs hi hr ho).mono λe w' hw=>?_
 obtain ⟨he,hw⟩:=hw;have g:Grew w w':=⟨hw.os,hw.tape,hw.output,hw.size,hw.block⟩
 have st:=eS hi g;exact⟨u,k,he,(Ctx.refl k w).step st.2 st.1,st.2,by simp[Rd],λp hp=>ObOK.step st.1 y_ p.2 (ho p hp)⟩
def cU{P:Program}{o:Oper}{s:SS}{x y:Operand}{at_:Array TypeId}{k k':IntKind}{m n:Int}(h:o.op=.call ⟨.builtin .min,#[x,y],at_⟩)(hx:ev s x=.val (.int k m))(hy:ev s y=.val (.int k' n)):Good P o s ⟨.val (.int k (if n<m then n else m)),[],[]⟩ :=
 Good.pure λb a w _ hr ho=>by
  have h1:=hr x (by simp[h,Op.operands,Call.operands]);have h2:=hr y (by simp[h,Op.operands,Call.operands]);rw[hx]at h1;rw[hy]at h2;refine⟨.int k (if n<m then n else m),?_,by simp[Rd]⟩;simp[execOp,h,resolve,invoke,builtin,Builtin.min_,Builtin.min2,h1.val,h2.val]
end Go.Sy
namespace Go.Proofs
open Go.Shelf
def Tryz.lays219_ren:Go.Shelf.Ren:=⟨fun|219=>221|217=>291|225=>292|224=>293|267=>294|266=>363|314=>364|n=>n,fun|9=>9|3=>3|4=>4|5=>5|46=>124|146=>292|51=>91|n=>n,fun|1=>0|n=>n⟩
theorem Tryz.lays219:Go.Proofs.Lays.n219 Tryz.prog Tryz.lays219_ren:={
 mixed:=by kernel_rfl
 f217:=Tryz.func291.trans (zH some Go.Sy.z_)
 f219:=Tryz.func221.trans (zH some Go.Sy.z_)
 f224:=Tryz.func293.trans (zH some Go.Sy.z_)
 f225:=Tryz.func292.trans (zH some Go.Sy.z_)
 f266:=Tryz.func363.trans (zH some Go.Sy.z_)
 f267:=Tryz.func294.trans (zH some Go.Sy.z_)
 f314:=Tryz.func364.trans (zH some Go.Sy.z_)
 t3:=Tryz.underlying3
 a3:=Tryz.isAgg3
 z3:=Tryz.sizeOf3
 v3:=Tryz.zeroValue3
 t4:=Tryz.underlying4
 a4:=Tryz.isAgg4
 z4:=Tryz.sizeOf4
 v4:=Tryz.zeroValue4
 t5:=Tryz.underlying5
 a5:=Tryz.isAgg5
 z5:=Tryz.sizeOf5
 v5:=Tryz.zeroValue5
 t9:=Tryz.underlying9
 a9:=Tryz.isAgg9
 z9:=Tryz.sizeOf9
 v9:=Tryz.zeroValue9
 t46:=Tryz.underlying124
 a46:=Tryz.isAgg124
 z46:=Tryz.sizeOf124
 v46:=Tryz.zeroValue124
 t51:=Tryz.underlying91
 a51:=Tryz.isAgg91
 z51:=Tryz.sizeOf91
 v51:=Tryz.zeroValue91
 t146:=Tryz.underlying292
 a146:=Tryz.isAgg292
 z146:=Tryz.sizeOf292
 v146:=Tryz.zeroValue292
 g1:=by kernel_rfl }
open Go.RowKit Go.Lib in
theorem Tryz.stringslite_Index_one(s:ByteArray)(c:UInt8)(w:World):Calls Tryz.prog 221 #[.string s,.string ⟨#[c]⟩] w λe w'=>e=.returned (.int .i64 (Lib.indexByte s.data.toList c))/\w'=w:=Any.stringslite_Index_one Tryz.lays219 s c w
def Tryz.lays143_ren:Go.Shelf.Ren:=⟨fun|143=>340|219=>221|217=>291|225=>292|224=>293|267=>294|266=>363|314=>364|n=>n,fun|9=>9|3=>3|4=>4|5=>5|46=>124|146=>292|51=>91|n=>n,fun|1=>0|n=>n⟩
theorem Tryz.lays143:Go.Proofs.Lays.n143 Tryz.prog Tryz.lays143_ren:={
 mixed:=by kernel_rfl
 f143:=Tryz.func340.trans (zH some Go.Sy.z_)
 f217:=Tryz.func291.trans (zH some Go.Sy.z_)
 f219:=Tryz.func221.trans (zH some Go.Sy.z_)
 f224:=Tryz.func293.trans (zH some Go.Sy.z_)
 f225:=Tryz.func292.trans (zH some Go.Sy.z_)
 f266:=Tryz.func363.trans (zH some Go.Sy.z_)
 f267:=Tryz.func294.trans (zH some Go.Sy.z_)
 f314:=Tryz.func364.trans (zH some Go.Sy.z_)
 t3:=Tryz.underlying3
 a3:=Tryz.isAgg3
 z3:=Tryz.sizeOf3
 v3:=Tryz.zeroValue3
 t4:=Tryz.underlying4
 a4:=Tryz.isAgg4
 z4:=Tryz.sizeOf4
 v4:=Tryz.zeroValue4
 t5:=Tryz.underlying5
 a5:=Tryz.isAgg5
 z5:=Tryz.sizeOf5
 v5:=Tryz.zeroValue5
 t9:=Tryz.underlying9
 a9:=Tryz.isAgg9
 z9:=Tryz.sizeOf9
 v9:=Tryz.zeroValue9
 t46:=Tryz.underlying124
 a46:=Tryz.isAgg124
 z46:=Tryz.sizeOf124
 v46:=Tryz.zeroValue124
 t51:=Tryz.underlying91
 a51:=Tryz.isAgg91
 z51:=Tryz.sizeOf91
 v51:=Tryz.zeroValue91
 t146:=Tryz.underlying292
 a146:=Tryz.isAgg292
 z146:=Tryz.sizeOf292
 v146:=Tryz.zeroValue292
 g1:=by kernel_rfl }
open Go.RowKit Go.Lib in
theorem Tryz.strings_Index_one(s:ByteArray)(c:UInt8)(w:World):Calls Tryz.prog 340 #[.string s,.string ⟨#[c]⟩] w λe w'=>e=.returned (.int .i64 (Lib.indexByte s.data.toList c))/\w'=w:=Any.strings_Index_one Tryz.lays143 s c w
def Tryz.lays101_ren:Go.Shelf.Ren:=⟨fun|101=>261|208=>337|206=>378|n=>n,fun|9=>9|4=>4|3=>3|n=>n,fun|n=>n⟩
theorem Tryz.lays101:Go.Proofs.Lays.n101 Tryz.prog Tryz.lays101_ren:={
 mixed:=by kernel_rfl
 f101:=Tryz.func261.trans (zH some Go.Sy.z_)
 f206:=Tryz.func378.trans (zH some Go.Sy.z_)
 f208:=Tryz.func337.trans (zH some Go.Sy.z_)
 t3:=Tryz.underlying3
 a3:=Tryz.isAgg3
 z3:=Tryz.sizeOf3
 v3:=Tryz.zeroValue3
 t4:=Tryz.underlying4
 a4:=Tryz.isAgg4
 z4:=Tryz.sizeOf4
 v4:=Tryz.zeroValue4
 t9:=Tryz.underlying9
 a9:=Tryz.isAgg9
 z9:=Tryz.sizeOf9
 v9:=Tryz.zeroValue9 }
open Go.RowKit Go.Lib in
theorem Tryz.strings_TrimPrefix(s p:ByteArray)(w:World):Calls Tryz.prog 261 #[.string s,.string p] w λe w'=>e=.returned (.string ⟨(Lib.trimPrefix s.data.toList p.data.toList).toArray⟩)/\w'=w:=Any.strings_TrimPrefix Tryz.lays101 s p w
end Go.Proofs
