/- Parts of a proof. -/
import Derived.Test.YtodbnbfjhjcanaaGreatDoorXA13
set_option linter.all false
namespace Go.Sy
theorem Ctx.onward{F:Fr}{a a2:Ka}{w w2:World}{ds:List Deferred}(c:Ctx F a w)(c2:Ctx ⟨w,a,ds⟩ a2 w2):Ctx F a2 w2 where
 size:=wQ c.size c2.size
 os:=c2.os.trans c.os
 tape:=c2.tape.trans c.tape
 output:=c2.output.trans c.output
 M:=c2.M.trans c.M
 old b hb h:=by
  refine(c2.old b (yV hb c.size) (λk hk=>?_)).trans (c.old b hb h);rcases c.own k b hk with h1|⟨j,h1⟩
  .exact zX hb (Nat.not_lt.2 h1)
  .exact h j h1
 own k b hk:=by
  rcases c2.own k b hk with h|⟨j,h⟩
  .exact .inl (wQ c.size h)
  .exact c.own j b h
 nam k hk:=by
  have hn:∀x,a k=x->x≠.new->a2 k=x\/a2 k=.dead:=λx hx ag=>by
   have h:a2 k=a k\/a2 k=.dead:=c2.nam k (by show a k≠.new;rw[hx];exact ag);rw[hx]at h;exact h
  rcases c.nam k hk with h|h
  .exact hn _ h hk
  .rcases hn _ h (by intro e;cases e) with h2|h2
   .exact .inr h2
   .exact .inr h2
def Arr(P:Program)(fn:Func)(F:Fr)(R:SV)(H':Obs):Exit->Act->World->Prop :=
 bodyPostD P fn λe w'=>∃v k',e=.returned v/\Ctx F k' w'/\Inv k' w'/\Rd k' w' R v/\H'.ok k' w'
def Am4{P:Program}(Γ:Ty P){f:FuncId}{fn:Func}{c:Code}{A:List SV}{H:Obs}{R:SV}{H':Obs}(hf:P.funcs[f]? = some fn)(hb:fn.body=some c){n:Nat}(l6:fn.ntmps=n)(hn:A.length<=n)(h:∀(F:Fr) (hF:∀k,F.k0 k≠.new->k∈H.keys),F.ds=[]->G ⟨P,Γ,F,n,Arr P fn F R H',H.keys,hF⟩ [.code c] ⟨argσ A,mkh H⟩):Spec P f A H R H':=by
 subst l6;intro a w vs hi ay hA hH;refine calls_of_wp_defers hf hb ?_;have hlen:=hA.length;refine h ⟨w,a,[]⟩ ay E a _ w ⟨E,?_,hi,Ctx.refl a w,?_,?_⟩
 .simp;omega
 .intro i;have:=hA.getD (fn.ntmps-vs.length) i;have he:(vs.toArray++Array.replicate (fn.ntmps-vs.length) undef)=(vs++List.replicate (fn.ntmps-vs.length) undef).toArray:=by simp
  show Rd a w _ ((vs.toArray++Array.replicate (fn.ntmps-vs.toArray.size) undef).getD i undef);rw[uV,he];simpa using this
 .intro k;exact Aoe hH (λhk=>Classical.byContradiction λag=>hk (ay k ag))
def Au0{P:Program}(Γ:TyE P)(hm:P.follows .mixedOrders=true)(N:Nat){f:FuncId}{fn:Func}{c:Code}{A:List SV}{H:Obs}{R:SV}{H':Obs}(hF:Fun P f fn c){n:Nat}(l6:fn.ntmps=n)(hn:Aj8 A n=true)(h:∀(F:Fr) (hF:∀k,F.k0 k≠.new->k∈H.keys),F.ds=[]->O3 ⟨P,Γ.toTy,F,n,Arr P fn F R H',H.keys,hF⟩ Γ N [.code c] ⟨argσ A,mkh H⟩):Sy.Spec P f A H R H' :=
 Am4 Γ.toTy hF.1 hF.2 l6 (Aad hn) λF hF h0=>run Γ hm N (h F hF h0)
def A20{C:Cx}{k:List KI}{s:SS}{all:Array Oper}{o:Oper}{rest:List Oper}{x:Operand}{ts:Array TypeId}{g:FuncId}{cap:List SV}(h:o.op=.defer ⟨.value x,#[],ts⟩)(hx:ev s x=.clo (.func g) [] cap)(hd:o.dst=none)(hw:En C.n all o s=some true)(h0:C.F.ds=[])(bn:List Nat)(hbn:∀j,j∉bn->s.h j=.fresh)(hg:∀(F:Fr) (hF:∀j,F.k0 j≠.new->j∈bn) (cv:List Value),F.ds=[⟨.fn (.func g) cv.toArray,#[]⟩]->RdL F.k0 F.w0 cap cv->(∀b w,Ctx F b w->Ctx C.F b w)->G ⟨C.P,C.Γ,F,C.n,C.B,bn,hF⟩ (.ops all rest::k) s):G C (.ops all (o::rest)::k) s:=by
 intro b a w hs;refine wpList_step λK hK=>?_
 rw[zE (Wl hs (Ep hw).2 (Ep hw).1)];have hr:=hs.ev x;rw[hx]at hr;simp only[Rd]at hr;obtain ⟨fs,cs,hv,th,kc⟩:=hr;simp only[RdL]at th;subst th;have hF:∀ j,b j≠.new->j∈bn:=λ j hj=>Classical.byContradiction λ hn=>hj (by
  have:=hs.obj j;rw[hbn j hn]at this;exact this)
 have au:(execOp a.eval o).run C.P w=.ok (.defer ⟨.fn (.func g) cs.toArray,#[]⟩) w:=by
  simp[execOp,h,resolve,Deferred.ofValue,hv]
 show o.upon C.P a K _ ((execOp a.eval o).run C.P w);rw[au,Oper.upon_defer,hd];refine hK _ _ (hg ⟨w,b,[⟨.fn (.func g) cs.toArray,#[]⟩]⟩ hF cs rfl kc (λb2 w2 c2=>hs.ctx.onward c2) b {a with defers:=_::a.defers} w ⟨?_,hs.size,hs.inv,?_,hs.slot,hs.obj⟩)
 .show _::a.defers=_;rw[hs.defers,h0]
 .have:=Ctx.refl b w;exact⟨this.size,this.os,this.tape,this.output,this.M,this.old,this.own,this.nam⟩
end Go.Sy
