/- Parts of a proof. -/
import Derived.Test.YticmobkdaneelaaGreatDoorYE14
set_option linter.all false
set_option linter.unusedVariables false
set_option linter.unusedSimpArgs false
set_option linter.deprecated false
namespace Go.Sy
theorem RdL.setI{κ:Ka}{w:World}{x:SV}{v:Value}(hx:Rd κ w x v):∀{l:List SV} {cs:List Value} (i:Nat),RdL κ w l cs→RdL κ w (l.set i x) (cs.set i v)
 |[],cs,i,h=>by simp only[RdL]at h;subst h;simp[RdL]
 |y::l,cs,0,h=>by
  simp only[RdL]at h;obtain ⟨u,r,rfl,h1,h2⟩:=h;simp only[uD,RdL];exact⟨v,r,E,hx,h2⟩
 |y::l,cs,i+1,h=>by
  simp only[RdL]at h;obtain ⟨u,r,rfl,h1,h2⟩:=h;simp only[tM,RdL];exact⟨u,_,E,h1,h2.setI hx i⟩
def Dz{κ:Ka}{w:World}{k:Nat}{l:List SV}(hi:Inv κ w)(h:ObOK κ w k (.box l)){off:Nat}{x:SV}{v:Value}(_hx:x.plain=true)(hv:∀κ w,Rd κ w x v)(h1:v.oneCell'=true):∃b,κ k=.blk b∧(∀j y,If l j=some y→∃u,w.cell? ⟨b,j,none⟩=some u∧Rd κ w y u)∧(∀j,j<l.length→w.frozen? ⟨b,j,none⟩=false) ∧
   Step (·=k) κ w κ (w.setCell ⟨b,off,none⟩ v)∧Inv κ (w.setCell ⟨b,off,none⟩ v)∧ObOK κ (w.setCell ⟨b,off,none⟩ v) k (.box (l.set off x)):=by
 obtain ⟨b,cs,T,fr,e1,e2,e3,e4,e5⟩:=h;have j8:(w.setCell ⟨b,off,none⟩ v).heap[b]? = some (.cells (cs.set off v).toArray T fr):=by
  simp[World.setCell,Array.getElem?_modify,e2]
 have hoth:∀j,j≠b→(w.setCell ⟨b,off,none⟩ v).heap[j]? = w.heap[j]?:=λj hj=>heap_setCell_other w ⟨b,off,none⟩ j v hj
 obtain ⟨st,inv⟩:=Sd (w':=w.setCell ⟨b,off,none⟩ v) hi (k:=k) (b:=b) (by rw[e1];rfl) rfl rfl rfl y_ hoth;have hlen:=e5.length;refine⟨b,e1,λj y hy=>?_,λj hj=>?_,st,inv,b,_,T,fr,e1,j8,by rw[yR];exact e3,?_,(RdL.step st _ _ e5).setI (hv _ _) off⟩
 ·obtain ⟨u,hu,hr⟩:=e5.get hy;exact⟨u,by rw[cell_of_row w b j cs.toArray T fr e2,uS];exact hu,hr⟩
 ·obtain ⟨lo,hi'⟩:=fr;simp only[World.frozen?,e2];rcases e3 with h|h
  ·simp only at h;subst h;simp
  ·simp only at h;simp;omega
 ·intro c hc;rcases uW hc with h|h
  ·exact e4 c h
  ·rw[h];exact h1
def Xc{P:Program}{o:Oper}{s:SS}{f:FuncId}{ik:IntKind}{ts:Array TypeId}{x:Operand}{k off:Nat}{l:List SV}{v:Int}(hf:∀(a:Addr) (x:Int) (w:World),w.cell? a=some (.int ik x)→(callFunc f #[.pointer (some a)]).run P w=.ok (.value (.int ik x)) w)(h:o.op=.call ⟨.value (.func f),#[x],ts⟩)(hx:ev s x=.ptr k off)(hk:s.h k=.box l)(hy:If l off=some (.val (.int ik v))):Good P o s ⟨.val (.int ik v),[k],[]⟩ :=
 Good.pure λκ a w hi hr ho=>by
  have h1:=hr x (by simp[h,Op.operands,Call.operands]);rw[hx]at h1;have h2:=ho k y_;rw[hk]at h2;obtain ⟨b,cs,T,fr,e1,e2,e3,e4,e5⟩:=h2;simp only[Rd,e1]at h1;obtain ⟨u,hu,pj⟩:=e5.get hy;have hc:w.cell? ⟨b,off,none⟩=some (.int ik v):=by rw[cell_of_row w b off cs.toArray T fr e2,uS,hu,pj.val]
  have au:=hf ⟨b,off,none⟩ v w hc;refine⟨.int ik v,?_,by simp only[Rd]⟩;have sj:a.eval (.func f)=.func (.func f) #[] #[]:=rfl;simp[execOp,h,resolve,sj,Deferred.ofValue,invoke,h1,au]
def Alf{P:Program}{o:Oper}{s:SS}{f:FuncId}{ts:Array TypeId}{x y:Operand}{k off:Nat}{l:List SV}{v d:Int}(hf:∀(a:Addr) (x y:Int) (w:World),w.cell? a=some (.int .i64 x)→w.frozen? a=false→(callFunc f #[.pointer (some a),.int .i64 y]).run P w=.ok (.value (.int .i64 (IntKind.i64.wrap (x+y)))) (w.setCell a (.int .i64 (IntKind.i64.wrap (x+y)))))(h:o.op=.call ⟨.value (.func f),#[x,y],ts⟩)(hx:ev s x=.ptr k off)(hy:ev s y=.val (.int .i64 d))(hk:s.h k=.box l)(hl:If l off=some (.val (.int .i64 v)))(hv:IntKind.i64.wrap (v+d)=v+d):Good P o s ⟨.val (.int .i64 (v+d)),[],[(k,.box (l.set off (.val (.int .i64 (v+d)))))]⟩:=by
 intro κ a w hi hr ho N Q hN;have h1:=hr x (by simp[h,Op.operands,Call.operands]);have h2:=hr y (by simp[h,Op.operands,Call.operands]);rw[hx]at h1;rw[hy]at h2;have h3:=ho k (.inr (by simp[Up.ws]));rw[hk]at h3;obtain ⟨b,e1,c1,c2,st,inv,ob⟩:=Dz (off:=off) (x:=.val (.int .i64 (v+d))) (v:=.int .i64 (v+d)) hi h3 rfl (λ_ _=>by simp only[Rd]) rfl;simp only[Rd,e1]at h1;obtain ⟨u,hu,pj⟩:=c1 off _ hl;rw[pj.val]at hu;have au:=hf ⟨b,off,none⟩ v d w hu (c2 off (Ad1 hl));rw[hv]at au;have xr:(execOp a.eval o).run P w=.ok (.value (.int .i64 (v+d))) (w.setCell ⟨b,off,none⟩ (.int .i64 (v+d))):=by
  have sj:a.eval (.func f)=.func (.func f) #[] #[]:=rfl;simp[execOp,h,resolve,sj,Deferred.ofValue,invoke,h1,h2.val,au]
 simp only[Oper.wp,xr,Oper.upon];refine hN _ κ _ (st.weaken (by simp[Up.ws])) inv (by simp only[Rd]) (λp hp=>?_);simp only[yB]at hp;subst hp;exact ob
def Ahx{P:Program}(Γ:Ty P){o:Oper}{s:SS}(q:Nat){t:TypeId}{ti:TI}{et:TypeId}{eb b n cap lo k c1 c2:Nat}{ez:List Value}{x y:Operand}{α:Type}{e:α→SV}{l:List α}{B B2:Option Addr}(h:o.op=.call ⟨.builtin .copy,#[x,y],#[t,t]⟩)(ht:Γ.get t=some ti)(hk:ti.k=.slice et 1 eb ez)(hx:ev s x=.val (.slice B (n-lo) c1))(hB:B=some ⟨b,lo,none⟩)(hy:ev s y=.val (.slice B2 k c2))(hB2:B2=some ⟨b,0,none⟩)(hq:s.h q=.pin b n cap 1 e l)(hl:l.length=n)(dg:k≤n)(gl:0<min k (n-lo)):Good P o s ⟨.val (.int .i64 (min k (n-lo):Nat)),[],[(q,.pin b n cap 1 e (l.take lo++l.take (min k (n-lo))++l.drop (lo+min k (n-lo))))]⟩:=by
 intro κ a w hinv hr ho N Q hN;have r1:=hr x (by simp[h,Op.operands,Call.operands]);have r2:=hr y (by simp[h,Op.operands,Call.operands]);rw[hx]at r1;rw[hy]at r2;subst hB;subst hB2;have cj:=ho q (.inr (by simp[Up.ws]));rw[hq]at cj;obtain ⟨e0,b',dx,cs,T,fr,e1,e2,e3,e4,e5,e6⟩:=cj;rw[e0]at e1;cases e1;obtain ⟨hu,ii,zv,q1,q2,q3,q4,q5⟩:=Cq Γ ht hk;obtain ⟨mn,wu⟩:∃mn,min k (n-lo)=mn:=⟨_,rfl⟩
 rw[wu]at gl hN;have ns:n≤cs.length:=by omega
 have dw:∀i,i<n→∃u:Value,u.cells.size=1∧Ones u.cells.toList∧∀j,j<1→cs[i*1+j]? = u.cells[j]?:=λi hi=>by
  obtain ⟨_,u,_,u2⟩:=e6 i (e l[i]) ⟨by omega,rfl⟩;exact⟨u,u2⟩
 obtain ⟨news,er⟩:∃news,news=cs.take mn:=⟨_,rfl⟩
 have kx:news.length=mn:=by rw[er,yA];omega
 have bf:∀p,p<mn→news[p]? = cs[p]?:=λp hp=>by rw[er,vN,zG hp]
 have j4:Ones news:=λv hv=>by
  obtain ⟨p,hp,he⟩:=wD hv;have h1:news[p]? = some v:=by rw[zT hp,he]
  rw[kx]at hp;rw[bf p hp]at h1;exact Am8 (n:=n) dw q_ h1
 obtain ⟨w',f1,f2,f3,f4,f5,f6,f7⟩:=De P b lo T fr news 0 cs w e2 e3 q_ j4;obtain ⟨st,inv⟩:=T8 hinv e0 f3 f4 f5 f6 f7;have fm:∀p v,cs[p]? = some v→w.cell? ⟨b,p,none⟩=some v:=λp v hp=>by simp[World.cell?,e2,hp]
 have hc:=Aju (P:=P) w w' t t o.type et ⟨b,lo,none⟩ ⟨b,0,none⟩ (n-lo) c1 k c2 news hu q1 q2 (by rw[kx,wu]) (λ j v hv=>by
  rw[Addr.add_lit];have ab:j<mn:=by rw[←kx];exact(List.getElem?_eq_some_iff.1 hv).1
  rw[bf j ab]at hv;rw[wE];exact fm _ _ hv) f1
 rw[kx]at hc;have au:(execOp a.eval o).run P w=.ok (.value (.int .i64 (mn:Nat))) w':=by
  simp[execOp,h,resolve,invoke,builtin,r1.val,r2.val,hc]
 simp only[Oper.wp,au,Oper.upon];refine hN _ κ w' (st.weaken (λk hk=>by subst hk;simp[Up.ws])) inv (by simp only[Rd]) (λp hp=>?_);simp only[yB]at hp;subst hp;refine⟨e0,b,cap,_,T,fr,e0,f2,by rw[Cg];exact e3,by rw[Cg];exact e4,e5,?_⟩;rintro i z ⟨dp,rfl⟩;have a7:=Mp cs news (lo+0);have hlen:(l.take lo++l.take mn++l.drop (lo+mn)).length=n:=by
  simp only[zW,yA,yO];omega
 rw[hlen]at dp;have src:∀j (hj:j<l.length),∃u:Value,RdD (Own κ) w (e l[j]) u∧u.cells.size=1∧Ones u.cells.toList∧∀p,p<1→cs[j*1+p]? = u.cells[p]?:=λj hj=>(e6 j (e l[j]) ⟨hj,rfl⟩).2
 by_cases rz:i<lo
 ·obtain ⟨u,u1,u2,u3,u4⟩:=src i q_;refine⟨dp,u,?_,u2,u3,λp hp=>?_⟩
  ·have:(l.take lo++l.take mn++l.drop (lo+mn))[i]'(by rw[hlen];exact dp)=l[i]'q_:=by
    rw[yT (by simp only[zW,yA];omega),yT (by simp only[yA];omega),wA]
   rw[this];exact RdD.keep st.keeps _ _ u1
  ·rw[a7 _ q_,zD q_,u4 p hp]
 ·by_cases jo:i<lo+mn
  ·obtain ⟨u,u1,u2,u3,u4⟩:=src (i-lo) q_;refine⟨dp,u,?_,u2,u3,λp hp=>?_⟩
   ·have:(l.take lo++l.take mn++l.drop (lo+mn))[i]'(by rw[hlen];exact dp)=l[i-lo]'q_:=by
     rw[yT (by simp only[zW,yA];omega),xP (by simp only[yA];omega),wA];congr 1;simp only[yA];omega
    rw[this];exact RdD.keep st.keeps _ _ u1
   ·rw[a7 _ q_,zG q_,bf _ q_,←u4 p hp];congr 1;omega
  ·obtain ⟨u,u1,u2,u3,u4⟩:=src i q_;refine⟨dp,u,?_,u2,u3,λp hp=>?_⟩
   ·have:(l.take lo++l.take mn++l.drop (lo+mn))[i]'(by rw[hlen];exact dp)=l[i]'q_:=by
     rw[xP (by simp only[zW,yA];omega),vT];congr 1;simp only[zW,yA];omega
    rw[this];exact RdD.keep st.keeps _ _ u1
   ·rw[a7 _ q_,zD q_,u4 p hp]
end Go.Sy
namespace Go.Sy.YticmobkdaneelaaGreatDoor
open Go.Proofs Go.Proofs.Tryz
attribute [local irreducible] Go.Sy.G Go.Sy.DR
set_option maxRecDepth 100000
set_option maxHeartbeats 4000000
def any_at3{α:Type}{p:α→Bool}{l:List α}{j:Nat}(hj:j<l.length)(h:p l[j]=true):l.any p=true:=wK.2 ⟨_,zI hj,h⟩
def Aj2{α:Type}{p:α→Bool}{l:List α}{j:Nat}(hI:En (λ_ x=>!(p x)) l j)(hj:l.length≤j):l.any p=false:=by
 rw[wM];intro x hx;obtain ⟨i,hi,rfl⟩:=wD hx;have:=hI i hi q_;simpa using this
def M5(x:StepM):Bool:=decide (2000<x.bytes.length)||decide (60<x.up.length)
def great33B(l:List StepM):Bool:=decide (60<l.length)||l.any M5
def A29(l:List StepM):Sp 14 [.sl 6 Db l] (Ab (great33B l)):=cT F14 ntmps14 λF hF=>by
 have aa:=great33B.eq_1 l;generalize great33B l=res at *
 conv=>whnf
 constructor<;>intro h
 ·rw[zO (qA h),vD]at aa;subst aa;exact gE
 have hl:l.length≤60:=qB h;rw[zL q_,uH]at aa;refine oO ?_;refine A9 l.length (λj=>En (λ_ x=>!(M5 x)) l j) (λj=>[(0,.sl 6 Db l),(3,Aa j)]) (λ_=>[]) [] (Bl _ _) kU ?_;intro j hj hI;refine oO ?_;constructor<;>intro h
 ·have ab:j<l.length:=qA h;have ai:(j:Int).toNat<l.length:=by simpa using ab
  have gd:=λh=>@any_at3 _ M5 l j ab h
  have d9:=λh=>Bi (p:=λ_ x=>!(M5 x)) hI ab h
  obtain ⟨x,hx⟩:∃x,l[(j:Int).toNat]'ai=x:=⟨_,rfl⟩
  have p6:l[j]=x:=hx;rw[p6]at gd d9;refine oO ?_;refine⟨E,by omega,ai,?_⟩;rw[hx]
  conv=>whnf
  constructor<;>intro h
  ·rw[gd (by rw[M5,zO (qA h),vD])]at aa;subst aa;refine oT ?_;exact dN
  have h1:=zQ h;refine oO ?_;refine⟨E,by omega,ai,?_⟩;rw[hx]
  conv=>whnf
  constructor<;>intro h
  ·rw[gd (by rw[M5,zO (by have:=zK h;omega:60<x.up.length),Bool.or_true])]at aa;subst aa;exact gE
  have h2:=zQ h;refine gF ?_;exact A8 [] hI q_ (d9 (by rw[M5,zL q_,zL q_];rfl)) kU
 ·have dh:j=l.length:=qB h;subst dh;rw[Aj2 hI (yG _)]at aa;subst aa;exact gE
end Go.Sy.YticmobkdaneelaaGreatDoor
namespace Go.Sy
theorem Ctx.onward{F:Fr}{κ κ2:Ka}{w w2:World}{ds:List Deferred}(c:Ctx F κ w)(c2:Ctx ⟨w,κ,ds⟩ κ2 w2):Ctx F κ2 w2 where
 size:=wO c.size c2.size
 os:=c2.os.trans c.os
 tape:=c2.tape.trans c.tape
 output:=c2.output.trans c.output
 M:=c2.M.trans c.M
 old b hb h:=by
  refine(c2.old b (yV hb c.size) (λk hk=>?_)).trans (c.old b hb h);rcases c.own k b hk with h1|⟨j,h1⟩
  ·exact zY hb (Nat.not_lt.2 h1)
  ·exact h j h1
 own k b hk:=by
  rcases c2.own k b hk with h|⟨j,h⟩
  ·exact .inl (wO c.size h)
  ·exact c.own j b h
 nam k hk:=by
  have hn:∀x,κ k=x→x≠.new→κ2 k=x∨κ2 k=.dead:=λx hx ag=>by
   have h:κ2 k=κ k∨κ2 k=.dead:=c2.nam k (by show κ k≠.new;rw[hx];exact ag);rw[hx]at h;exact h
  rcases c.nam k hk with h|h
  ·exact hn _ h hk
  ·rcases hn _ h (by intro e;cases e) with h2|h2
   ·exact .inr h2
   ·exact .inr h2
def Av7(P:Program)(fn:Func)(F:Fr)(R:SV)(H':Obs):Exit→Act→World→Prop :=
 bodyPostD P fn λe w'=>∃v κ',e=.returned v∧Ctx F κ' w'∧Inv κ' w'∧Rd κ' w' R v∧H'.ok κ' w'
def Arq{P:Program}(Γ:Ty P){f:FuncId}{fn:Func}{c:Code}{A:List SV}{H:Obs}{R:SV}{H':Obs}(hf:P.funcs[f]? = some fn)(hb:fn.body=some c){n:Nat}(lj:fn.ntmps=n)(hn:A.length≤n)(h:∀(F:Fr) (hF:∀k,F.k0 k≠.new→k∈H.keys),F.ds=[]→G ⟨P,Γ,F,n,Av7 P fn F R H',H.keys,hF⟩ [.code c] ⟨argσ A,mkh H⟩):Spec P f A H R H':=by
 subst lj;intro κ w vs hi a6 hA hH;refine calls_of_wp_defers hf hb ?_;have hlen:=hA.length;refine h ⟨w,κ,[]⟩ a6 E κ _ w ⟨E,?_,hi,Ctx.refl κ w,?_,?_⟩
 ·simp;omega
 ·intro i;have:=hA.getD (fn.ntmps-vs.length) i;have he:(vs.toArray++Array.replicate (fn.ntmps-vs.length) undef)=(vs++List.replicate (fn.ntmps-vs.length) undef).toArray:=by simp
  show Rd κ w _ ((vs.toArray++Array.replicate (fn.ntmps-vs.toArray.size) undef).getD i undef);rw[uY,he];simpa using this
 ·intro k;exact Ast hH (λhk=>Classical.byContradiction λag=>hk (a6 k ag))
def Ay9{P:Program}(Γ:TyE P)(hm:P.follows .mixedOrders=true)(N:Nat){f:FuncId}{fn:Func}{c:Code}{A:List SV}{H:Obs}{R:SV}{H':Obs}(hF:Fun P f fn c){n:Nat}(lj:fn.ntmps=n)(hn:Aou A n=true)(h:∀(F:Fr) (hF:∀k,F.k0 k≠.new→k∈H.keys),F.ds=[]→Og ⟨P,Γ.toTy,F,n,Av7 P fn F R H',H.keys,hF⟩ Γ N [.code c] ⟨argσ A,mkh H⟩):Sy.Spec P f A H R H' :=
 Arq Γ.toTy hF.1 hF.2 lj (Afl hn) λF hF h0=>run Γ hm N (h F hF h0)
def A6o{C:Cx}{k:List KI}{s:SS}{all:Array Oper}{o:Oper}{rest:List Oper}{x:Operand}{ts:Array TypeId}{g:FuncId}{cap:List SV}(h:o.op=.defer ⟨.value x,#[],ts⟩)(hx:ev s x=.clo (.func g) [] cap)(hd:o.dst=none)(hw:Hd C.n all o s=some true)(h0:C.F.ds=[])(bn:List Nat)(hbn:∀j,j∉bn→s.h j=.fresh)(hg:∀(F:Fr) (hF:∀j,F.k0 j≠.new→j∈bn) (cv:List Value),F.ds=[⟨.fn (.func g) cv.toArray,#[]⟩]→RdL F.k0 F.w0 cap cv→(∀κ w,Ctx F κ w→Ctx C.F κ w)→G ⟨C.P,C.Γ,F,C.n,C.B,bn,hF⟩ (.ops all rest::k) s):G C (.ops all (o::rest)::k) s:=by
 intro κ a w hs;refine wpList_step λK hK=>?_
 rw[zG (Vu hs (Hc hw).2 (Hc hw).1)];have hr:=hs.ev x;rw[hx]at hr;simp only[Rd]at hr;obtain ⟨fs,cs,hv,sk,m7⟩:=hr;simp only[RdL]at sk;subst sk;have hF:∀ j,κ j≠.new→j∈bn:=λ j hj=>Classical.byContradiction λ hn=>hj (by
  have:=hs.obj j;rw[hbn j hn]at this;exact this)
 have au:(execOp a.eval o).run C.P w=.ok (.defer ⟨.fn (.func g) cs.toArray,#[]⟩) w:=by
  simp[execOp,h,resolve,Deferred.ofValue,hv]
 show o.upon C.P a K _ ((execOp a.eval o).run C.P w);rw[au,Oper.upon_defer,hd];refine hK _ _ (hg ⟨w,κ,[⟨.fn (.func g) cs.toArray,#[]⟩]⟩ hF cs rfl m7 (λκ2 w2 c2=>hs.ctx.onward c2) κ {a with defers:=_::a.defers} w ⟨?_,hs.size,hs.inv,?_,hs.slot,hs.obj⟩)
 ·show _::a.defers=_;rw[hs.defers,h0]
 ·have:=Ctx.refl κ w;exact⟨this.size,this.os,this.tape,this.output,this.M,this.old,this.own,this.nam⟩
end Go.Sy
