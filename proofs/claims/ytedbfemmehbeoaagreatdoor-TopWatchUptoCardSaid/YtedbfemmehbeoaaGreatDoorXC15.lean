/- Parts of a proof. -/
import Derived.Test.YtedbfemmehbeoaaGreatDoorXC13
set_option linter.all false
namespace Go.Sy.Zaa
open Go.Proofs Go.ChangeShapes Go.WideShapes Go.ChangeAt Go.RowKit
set_option maxRecDepth 100000
section
variable {H:Type} {fh:TypeId×Value->H} {W:World}
theorem opN_byte{P:Program}{t:TypeId}(i:P.underlying t=some (.int .u8)):OpN fh P W t Ae (λ_=>True) 1:=λn cs y h=>by
 obtain ⟨z,g,j,l,o⟩:=A24 i n cs y h;have p:0<=z/\z<256:=by
  simp only[Lit.wf,zG,zK]at g;have a:=g.1;have b:=g.2;simp only[IntKind.min,IntKind.max,IntKind.signed,IntKind.bits]at a b;constructor<;>simp at a b<;>omega
 refine⟨UInt8.ofNat z.toNat,z_,j,l,?_⟩;have e:Ae (UInt8.ofNat z.toNat)=.val (.int .u8 z):=by
  rw[Ae,UInt8.toNat_ofNat_of_lt' (by show _<256;omega),yQ p.1]
 rw[e];exact o
theorem op_bytes:Op1 fh Tryz.prog W 22 (λl:List UInt8=>.sl 1 Ae l) (λl=>(∀x∈l,True)/\l.length<=maxLen) :=
 At6 Tryz.underlying22 (by kernel_rfl:Tryz.prog.cellsOf 5=1) qq (λ_=>rfl) (λ_=>rfl) (opN_byte Tryz.underlying5)
end
end Go.Sy.Zaa
namespace Go.Sy
theorem bG.onward{F:Fr}{a a2:Ka}{w p:World}{ds:List Deferred}(c:bG F a w)(g:bG ⟨w,a,ds⟩ a2 p):bG F a2 p where
 size:=wI c.size g.size
 os:=g.os.trans c.os
 tape:=g.tape.trans c.tape
 output:=g.output.trans c.output
 M:=g.M.trans c.M
 ci b hb h:=by
  refine(g.ci b (xB hb c.size) (λk i=>?_)).trans (c.ci b hb h);rcases c.bc k b i with l|⟨j,l⟩
  .exact zW hb (Nat.not_lt.2 l)
  .exact h j l
 bc k b i:=by
  rcases g.bc k b i with h|⟨j,h⟩
  .exact .inl (wI c.size h)
  .exact c.bc j b h
 cc k i:=by
  have r:∀x,a k=x->x≠.new->a2 k=x\/a2 k=.dead:=λx t I=>by
   have h:a2 k=a k\/a2 k=.dead:=g.cc k (by show a k≠.new;rw[t];exact I);rw[t]at h;exact h
  rcases c.cc k i with h|h
  .exact r _ h i
  .rcases r _ h (by intro e;cases e) with o|o
   .exact .inr o
   .exact .inr o
def A30(P:Program)(fn:Func)(F:Fr)(R:SV)(H':It):Exit->Act->World->Prop :=
 bodyPostD P fn λe w'=>∃v k',e=.returned v/\bG F k' w'/\Inv k' w'/\Rd k' w' R v/\H'.ok k' w'
def Ays{P:Program}(Γ:Ty P){f:FuncId}{fn:Func}{c:Code}{A:List SV}{H:It}{R:SV}{g:It}(p:P.funcs[f]? = some fn)(r:fn.body=some c){n:Nat}(t:fn.ntmps=n)(hn:A.length<=n)(h:∀(F:Fr) (I:∀k,F.k0 k≠.new->k∈H.keys),F.ds=[]->G ⟨P,Γ,F,n,A30 P fn F R g,H.keys,I⟩ [.code c] ⟨argσ A,mkh H⟩):Spec P f A H R g:=by
 subst t;intro a w vs hi j l J;refine calls_of_wp_defers p r ?_;have o:=l.length;refine h ⟨w,a,[]⟩ j q_ a _ w ⟨q_,?_,hi,bG.refl a w,?_,?_⟩
 .simp;omega
 .intro i;have:=l.getD (fn.ntmps-vs.length) i;have he:(vs.toArray++Array.replicate (fn.ntmps-vs.length) undef)=(vs++List.replicate (fn.ntmps-vs.length) undef).toArray:=by simp
  show Rd a w _ ((vs.toArray++Array.replicate (fn.ntmps-vs.toArray.size) undef).getD i undef);rw[tC,he];simpa using this
 .intro k;exact Az4 J (λhk=>Classical.byContradiction λag=>hk (j k ag))
def A7x{P:Program}(Γ:TyE P)(hm:P.follows .mixedOrders=true)(N:Nat){f:FuncId}{fn:Func}{c:Code}{A:List SV}{H:It}{R:SV}{i:It}(g:Fun P f fn c){n:Nat}(j:fn.ntmps=n)(l:Au5 A n=true)(h:∀(F:Fr) (g:∀k,F.k0 k≠.new->k∈H.keys),F.ds=[]->Wx ⟨P,Γ.toTy,F,n,A30 P fn F R i,H.keys,g⟩ Γ N [.code c] ⟨argσ A,mkh H⟩):Sy.Spec P f A H R i :=
 Ays Γ.toTy g.1 g.2 j (Aji l) λF g o=>run Γ hm N (h F g o)
def Bgm{C:Cx}{k:List KI}{s:SS}{all:Array Oper}{o:Oper}{l:List Oper}{x:Operand}{ts:Array TypeId}{g:FuncId}{cap:List SV}(h:o.op=.defer ⟨.value x,#[],ts⟩)(hx:ev s x=.clo (.func g) [] cap)(hd:o.dst=none)(J:Jg C.n all o s=some true)(h0:C.F.ds=[])(p:List Nat)(r:∀j,j∉p->s.h j=.fresh)(hg:∀(F:Fr) (t:∀j,F.k0 j≠.new->j∈p) (R:List Value),F.ds=[⟨.fn (.func g) R.toArray,#[]⟩]->B8 F.k0 F.w0 cap R->(∀b w,bG F b w->bG C.F b w)->G ⟨C.P,C.Γ,F,C.n,C.B,p,t⟩ (.ops all l::k) s):G C (.ops all (o::l)::k) s:=by
 intro b a w i;refine wpList_step λK hK=>?_
 rw[zE (eY i (I9 J).2 (I9 J).1)];have I:=i.ev x;rw[hx]at I;simp only[Rd]at I;obtain ⟨fs,cs,hv,kw,mj⟩:=I;simp only[B8]at kw;subst kw;have t:∀ j,b j≠.new->j∈p:=λ j hj=>Classical.byContradiction λ hn=>hj (by
  have:=i.obj j;rw[r j hn]at this;exact this)
 have an:(execOp a.eval o).run C.P w=.ok (.defer ⟨.fn (.func g) cs.toArray,#[]⟩) w:=by
  simp[execOp,h,resolve,Deferred.ofValue,hv]
 show o.upon C.P a K _ ((execOp a.eval o).run C.P w);rw[an,Oper.upon_defer,hd];refine hK _ _ (hg ⟨w,b,[⟨.fn (.func g) cs.toArray,#[]⟩]⟩ t cs rfl mj (λb2 w2 c2=>i.ctx.onward c2) b {a with defers:=_::a.defers} w ⟨?_,i.size,i.inv,?_,i.ax,i.obj⟩)
 .show _::a.defers=_;rw[i.defers,h0]
 .have:=bG.refl b w;exact⟨this.size,this.os,this.tape,this.output,this.M,this.ci,this.bc,this.cc⟩
end Go.Sy
namespace Go.Sy.Zaa
open Go.Proofs Go.ChangeShapes Go.WideShapes Go.ChangeAt Go.RowKit
set_option maxRecDepth 100000
section
variable {H:Type} {fh:TypeId×Value->H} {W:World}
theorem opN_byte{P:Program}{t:TypeId}(i:P.underlying t=some (.int .u8)):OpN fh P W t Ae (λ_=>True) 1:=λn cs y h=>by
 obtain ⟨z,g,j,l,o⟩:=A24 i n cs y h;have p:0<=z/\z<256:=by
  simp only[Lit.wf,zG,zK]at g;have a:=g.1;have b:=g.2;simp only[IntKind.min,IntKind.max,IntKind.signed,IntKind.bits]at a b;constructor<;>simp at a b<;>omega
 refine⟨UInt8.ofNat z.toNat,z_,j,l,?_⟩;have e:Ae (UInt8.ofNat z.toNat)=.val (.int .u8 z):=by
  rw[Ae,UInt8.toNat_ofNat_of_lt' (by show _<256;omega),yQ p.1]
 rw[e];exact o
theorem op_bytes:Op1 fh Tryz.prog W 22 (λl:List UInt8=>.sl 1 Ae l) (λl=>(∀x∈l,True)/\l.length<=maxLen) :=
 At6 Tryz.underlying22 (by kernel_rfl:Tryz.prog.cellsOf 5=1) qq (λ_=>rfl) (λ_=>rfl) (opN_byte Tryz.underlying5)
end
end Go.Sy.Zaa
