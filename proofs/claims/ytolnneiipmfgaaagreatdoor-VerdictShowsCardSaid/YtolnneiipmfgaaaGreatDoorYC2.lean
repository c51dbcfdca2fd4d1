/- Parts of a proof. -/
import Derived.Test.YtolnneiipmfgaaaGreatDoorYC1
import Derived.Deep.LoopGhost
set_option linter.all false
set_option linter.unusedVariables false
set_option linter.unusedSimpArgs false
set_option linter.deprecated false
namespace Go.Sy
def Akt(off:Nat):∀(vs:List Value) (n:Nat) (cs:Array Value),off+n+vs.length≤cs.size →
  ((vs.zipIdx n).foldl (λ(cs:Array Value) (p:Value×Nat)=>cs.setIfInBounds (off+p.2) p.1) cs).toList=setV cs.toList (off+n) vs
 |[],n,cs,_=>by cases h:cs.toList<;>simp[setV,h]
 |v::vs,n,cs,h=>by
  simp only[List.zipIdx_cons,vG];rw[Akt off vs (n+1) _ (by simp at h⊢;omega)];simp only[Array.toList_setIfInBounds];rw[Qd _ _ _ (by simp at h⊢;omega),Qd _ _ _ (by simp at h⊢;omega)];have:=list_seg_step cs.toList (off+n) v vs (by simp at h⊢;omega);simpa [vZ] using this
def Akv(v:Value)(off:Nat)(cs:Array Value)(h:off+v.cells.size≤cs.size):(v.cells.zipIdx.foldl (λcs (c,j)=>cs.setIfInBounds (off+j) c) cs).toList=setV cs.toList off v.cells.toList:=by
 have:=Akt off v.cells.toList 0 cs (by simpa using h);rw[Nat.add_zero]at this;rw[←this,←Array.foldl_toList,Array.toList_zipIdx]
def Ahi(gg:List (Nat×Nat)):List SV→List (Nat×SV)→Option (List SV)
 |cells,[]=>some cells
 |cells,(i,v)::r=>
  match gg[i]? with
  |none=>none
  |some (off,size)=>bif Nat.beq (cellsOf v).length size&&Nat.ble (off+size) cells.length&&v.boxed then Ahi gg (setAt cells off (cellsOf v)) r else none
def Am6{κ:Ka}{w:World}{s:SS}{a:Act}{gg:List (Nat×Nat)}:∀(ps:List (Nat×Operand)) (cells out:List SV) (cs:Array Value),RdL κ w cells cs.toList→Ones cs.toList→(∀p∈ps,Rd κ w (ev s p.2) (a.eval p.2)) →
  Ahi gg cells (ps.map λp=>(p.1,ev s p.2))=some out→∃r:Array Value,Instr.fill (λi=>gg[i]?) cs (ps.map λp=>(p.1,a.eval p.2))=some r∧RdL κ w out r.toList∧Ones r.toList
 |[],cells,out,cs,h,h1,_,hf=>by
  simp only[vU,Ahi,Option.some.injEq]at hf;subst hf;exact⟨cs,by simp[Instr.fill],h,h1⟩
 |(i,x)::ps,cells,out,cs,h,h1,hr,hf=>by
  simp only[xW,Ahi]at hf;cases hp:gg[i]? with
  |none=>rw[hp]at hf;cases hf
  |some os=>
   obtain ⟨off,size⟩:=os;rw[hp]at hf;simp only[uJ]at hf;split at hf
   ·rename_i hc;simp only[zG]at hc;obtain ⟨⟨c1,c2⟩,c3⟩:=hc;have c1:=yJ c1;have c2:=xX c2;have hx:=(hr (i,x) y_).cells c3;have hlen:=hx.2.length;have js:=h.length;have bh:(a.eval x).cells.size=size:=by rw[←c1,←hlen];simp
    have oe:off+(a.eval x).cells.size≤cs.size:=by rw[bh];simp at js;omega
    have im:=Akv (a.eval x) off cs oe;obtain ⟨r,r1,r2,r3⟩:=Am6 ps _ out _ (by rw[im];exact h.setAt off hx.2) (by rw[im];exact h1.setV off hx.1) (λp hp=>hr p (by simp[hp])) hf;refine⟨r,?_,r2,r3⟩;simp only[xW,Instr.fill,hp];rw[zD]
    ·exact r1
    ·simp only[yO,zK,uL];exact⟨by simpa using bh,by omega⟩
   ·cases hf
def Afo{P:Program}(w:World):∀(fs:List Field) (r:List (Nat×Nat)),H6 P fs r→(fs.mapM (λf=>do pure (f.offset,←sizeOf f.type)):Sem (List (Nat×Nat))).run P w=.ok r w
 |[],[],_=>by simp
 |[],_::_,h=>by simp[H6]at h
 |_::_,[],h=>by simp[H6]at h
 |f::fs,(o,n)::r,h=>by
  simp only[H6]at h;have ih:=Afo w fs r h.2.2;obtain ⟨ix,h4,h5⟩:∃ix,P.info? f.type=some ix∧ix.size=n:=by
   have h3:=h.2.1;cases hh:P.info? f.type with
   |none=>rw[hh]at h3;cases h3
   |some ix=>rw[hh]at h3;exact⟨ix,rfl,by simpa using h3⟩
  simp only[List.mapM_cons,Sem.run_bind,sizeOf,typeInfo,run_program,Result.andThen_ok,h4,Sem.run_pure,h5,h.1]at ih⊢;rw[ih];simp
def Aux{P:Program}(Γ:Ty P){o:Oper}{s:SS}{t:TypeId}{ti:TI}{fs:List (Nat×Nat)}{ps:List (Nat×Operand)}{out:List SV}(h:o.op=.build t ps.toArray)(ht:Γ.get t=some ti)(hk:ti.k=.struct fs)(h1:Adf ti.zero=true)(hf:Ahi fs (ti.zero.map .val) (ps.map λp=>(p.1,ev s p.2))=some out):Good P o s ⟨.agg out,[],[]⟩ :=
 Good.pure λκ a w _ hr _=>by
  obtain ⟨d,info,z,k1,k2,k3,k4,k5,k6⟩:=Γ.ok t ti ht;rw[hk]at k2;simp only[TK.ok]at k2;obtain ⟨fa,rfl,k2⟩:=k2;have hops:∀ p∈ps,Rd κ w (ev s p.2) (a.eval p.2):=λ p hp=>hr p.2 (by
   simp only[h,Op.operands];simp only[List.mem_toArray,yS];exact⟨p,hp,E⟩)
  obtain ⟨r,r1,r2,r3⟩:=Am6 (κ:=κ) (w:=w) (a:=a) ps _ out z.cells (by rw[k6];exact Abi _) (by rw[k6];exact Vm h1) hops hf;have a7:(fa.mapM (λf=>do pure (f.offset,←sizeOf f.type)):Sem (Array (Nat×Nat))).run P w=.ok fs.toArray w:=by
   rw[Array.mapM_eq_mapM_toList];simp only[Sem.run_map,Afo w _ _ k2,Result.andThen_ok]
  refine⟨.agg r,?_,?_⟩
  ·have hfun:(λ(i:Nat)=>fs.toArray[i]?)=(λ(i:Nat)=>fs[i]?):=by funext i;simp
   simp only[execOp,h,Sem.run_bind,Instr.build,zeroValue,typeInfo,run_program,Result.andThen_ok,k3,k5,Sem.run_pure,run_underlying k1,a7,hfun,List.map_toArray];rw[r1];simp
  ·simp only[Rd];exact⟨r.toList,by simp,r3,r2⟩
def M6:Nat→List (Nat×Operand)→Option (List Operand)
 |_,[]=>some []
 |k,(i,x)::r=>bif Nat.beq i k then (M6 (k+1) r).map (x::·) else none
def Ac3:∀(ps:List (Nat×Operand)) (k:Nat) (xs:List Operand),M6 k ps=some xs→ps=(xs.zipIdx k).map λp=>(p.2,p.1)
 |[],k,xs,h=>by simp only[M6,Option.some.injEq]at h;subst h;rfl
 |(i,x)::r,k,xs,h=>by
  simp only[M6,uJ]at h;split at h
  ·rename_i hb;have:=yJ hb;subst this;cases hs:M6 (i+1) r with
   |none=>rw[hs]at h;cases h
   |some ys=>
    rw[hs]at h;simp only[uE,Option.some.injEq]at h;subst h;simp[List.zipIdx_cons,Ac3 r _ ys hs]
  ·cases h
def Aqv(sz:Nat):∀(vs:List Value) (k:Nat) (cs:Array Value),cs.size=(k+vs.length)*sz→(∀v∈vs,v.cells.size=sz) →
  ∃r:Array Value,Instr.fill (λi=>some (i*sz,sz)) cs ((vs.zipIdx k).map λp=>(p.2,p.1))=some r∧r.toList=cs.toList.take (k*sz)++vs.flatMap (·.cells.toList)
 | [],k,cs,h,_=>⟨cs,by simp[Instr.fill],by
   simp only[List.flatMap_nil,xM];rw[xG];simp[h]⟩
 |v::vs,k,cs,h,hv=>by
  have bh:=hv v y_;have e1:(k+(v::vs).length)*sz=k*sz+sz+vs.length*sz:=by
   simp only[yM,xI,wI];omega
  have oe:k*sz+v.cells.size≤cs.size:=by rw[h,e1,bh];omega
  have im:=Akv v (k*sz) cs oe;have yl:(v.cells.zipIdx.foldl (λcs (c,j)=>cs.setIfInBounds (k*sz+j) c) cs).size=cs.size:=by
   rw[←wU,im,Cm,wU]
  obtain ⟨r,r1,r2⟩:=Aqv sz vs (k+1) (v.cells.zipIdx.foldl (λ cs (c,j)=>cs.setIfInBounds (k * sz+j) c) cs) (by
   rw[yl,h,e1];simp only[xI,wI]) (λ u hu=>hv u (by simp[hu]))
  refine⟨r,?_,?_⟩
  ·simp only[List.zipIdx_cons,xW,Instr.fill];rw[zD]
   ·exact r1
   ·simp only[yO,zK,uL];exact⟨by simpa using bh,by omega⟩
  ·rw[r2,im,Qd _ _ _ (by simpa using oe)];have:(k+1)*sz=(cs.toList.take (k*sz)++v.cells.toList).length:=by
    rw[zQ,zY,wU,wU,bh,xI,wI];omega
   rw[this,vO y_,xG (yD _),vP,xD]
def Aqu{sz:Nat}:∀(vs:List Value) (i j:Nat),(∀v∈vs,v.cells.size=sz)→j<sz→∀u,vs[i]? = some u→(vs.flatMap (·.cells.toList))[i*sz+j]? = u.cells[j]?
 |[],i,j,_,_,u,h=>by simp at h
 |v::vs,0,j,hv,hj,u,h=>by
  simp only[tG,Option.some.injEq]at h;subst h;have:=hv v y_;rw[vP,Nat.zero_mul,wH,xR (by simpa [this] using hj)];simp
 |v::vs,i+1,j,hv,hj,u,h=>by
  have h0:=hv v y_;rw[vP,wA (by simp only[wU,h0,xI,wI];omega)];have:=Aqu vs i j (λx hx=>hv x (by simp[hx])) hj u (by simpa using h);rw[←this];congr 1;simp only[wU,h0,xI,wI];omega
def Aj5(sz:Nat):List SV→Bool
 |[]=>true
 |x::l=>x.boxed&&x.data&&Nat.beq (cellsOf x).length sz&&Aj5 sz l
def Acd{sz:Nat}:∀{l:List SV} {i:Nat} {x:SV},Aj5 sz l=true→Ih l i=some x→x.boxed=true∧x.data=true∧(cellsOf x).length=sz
 |[],i,x,_,h=>by cases i<;>simp[Ih]at h
 |y::l,0,x,h,h'=>by
  simp only[Aj5,zG]at h;simp only[Ih,Option.some.injEq]at h';subst h';exact⟨h.1.1.1,h.1.1.2,yJ h.1.2⟩
 |y::l,i+1,x,h,h'=>by
  simp only[Aj5,zG]at h;exact Acd h.2 h'
def Aex{α:Type 1}:∀{l:List α} {i:Nat} {x:α},Ih l i=some x→i<l.length
 |[],i,x,h=>by cases i<;>simp[Ih]at h
 |_::l,0,x,_=>by simp
 |_::l,i+1,x,h=>by have:=Aex (l:=l) (i:=i) h;simp;omega
def V3{α:Type 1}:∀{l:List α} {i:Nat},i<l.length→∃x,Ih l i=some x
 |[],i,h=>by simp at h
 |x::l,0,_=>⟨x,rfl⟩
 |_::l,i+1,h=>V3 (l:=l) (by simpa using h)
def Aem{P:Program}(Γ:Ty P){o:Oper}{s:SS}{t:TypeId}{ti:TI}{et:TypeId}{sz eb len:Nat}{ez:List Value}{ps:List (Nat×Operand)}{xs:List Operand}{d:Nat}(h:o.op=.buildSlice t len ps.toArray)(hd:s.h d=.fresh)(ht:Γ.get t=some ti)(hk:ti.k=.slice et sz eb ez)(hq:M6 0 ps=some xs)(hlen:xs.length=len)(hbig:len*sz≤16777216)(ax:Aj5 sz (xs.map (ev s))=true):Good P o s ⟨.osl d,[],[(d,.lit sz (xs.map (ev s)))]⟩ :=
 Aam hd λκ a w hi hr _ hn=>by
  have oc:=Ac3 ps 0 xs hq;obtain ⟨hu,i,z,q1,q2,q3,q4,q5⟩:=Ct Γ ht hk;have hops:∀ x∈xs,Rd κ w (ev s x) (a.eval x):=λ x hx=>hr x (by
   simp only[h,Op.operands,oc];simp only[List.mem_toArray,yS];obtain ⟨j,hj,rfl⟩:=yZ.1 hx;exact⟨(j,xs[j]),⟨(xs[j],j),by rw[tD];simp[hj],E⟩,E⟩)
  have wy:RdL κ w (xs.map (ev s)) (xs.map a.eval):=Qp xs hops;have uh:∀j x,Ih (xs.map (ev s)) j=some x→∃v,(xs.map a.eval)[j]? = some v∧Rd κ w x v∧v.cells.size=sz∧Ones v.cells.toList:=λj x hj=>by
   obtain ⟨v,h1,h2⟩:=wy.get hj;obtain ⟨c1,c2,c3⟩:=Acd ax hj;obtain ⟨e1,e2⟩:=h2.cells c1;exact⟨v,h1,h2,by rw[←c3,←e2.length];simp,e1⟩
  have l7:∀v∈xs.map a.eval,v.cells.size=sz:=λv hv=>by
   obtain ⟨j,hj,rfl⟩:=yZ.1 hv;obtain ⟨x,hx⟩:=V3 (l:=xs.map (ev s)) (i:=j) (by simpa using hj);obtain ⟨v',h1,_,h2,_⟩:=uh j x hx;rw[zU hj]at h1;simp only[Option.some.injEq]at h1;rw[h1];exact h2
  generalize bu:(Array.range (len*sz)).map ((if len*sz=0 then #[] else z.cells)[·%(if len*sz=0 then #[] else z.cells).size]!)=z0;have hz0s:z0.size=(0+(xs.map a.eval).length)*sz:=by rw[←bu];simp[hlen]
  obtain ⟨r,r1,r2⟩:=Aqv sz (xs.map a.eval) 0 z0 hz0s l7;have iy:r.toList=(xs.map a.eval).flatMap (·.cells.toList):=by rw[r2];simp
  refine⟨.slice (some ⟨w.heap.size,0,none⟩) len len,w.alloc (.cells r et),.row w.heap.size len len,?_,Grew.alloc w _,?_,?_⟩
  ·have hp:(ps.toArray.map λ(p:Nat×Operand)=>(p.1,a.eval p.2)).toList=((xs.map a.eval).zipIdx 0).map λp=>(p.2,p.1):=by
    rw[oc];simp only[List.map_toArray,List.map_map,List.zipIdx_map];rfl
   have ym:¬(16777216<len*sz):=by omega
   simp only[execOp,h,Sem.run_bind,Instr.buildSlice,run_underlying hu,Result.andThen_ok,sizeOf,typeInfo,run_program,q1,Sem.run_pure,q2];rw[zD (by simpa using ym)];by_cases h0:len*sz=0
   ·rw[zE h0];simp only[zE h0]at bu;simp only[Sem.run_bind,Sem.run_pure,Result.andThen_ok,bu,hp,r1,newRow,run_newObj];rfl
   ·rw[zD h0];simp only[zD h0]at bu;simp only[Sem.run_bind,zeroValue,typeInfo,run_program,Result.andThen_ok,q1,Sem.run_pure,q4,bu,hp,r1,newRow,run_newObj];rfl
  ·intro b hb;simp only[Ent.block?,Option.some.injEq]at hb;subst hb;simp
  ·intro st;refine⟨by simp[Rd,Ay],w.heap.size,len,r.toList,et,(0,0),by simp[Ay,hlen],?_,NoFr.zero _,?_,by simp[hlen],?_⟩
   ·rw[heap_alloc_new]
   ·have:=r2;have h9:r.toList.length=len*sz:=by
     rw[iy];have:∀vs:List Value,(∀v∈vs,v.cells.size=sz)→(vs.flatMap (·.cells.toList)).length=vs.length*sz:=by
      intro vs
      induction vs with
      |nil=>simp
      |cons v vs ih=>
       intro hv;rw[vP,zQ,ih (λu hu=>hv u (by simp[hu])),wU,hv v y_,yM,xI,wI];omega
     rw[this _ l7];simp[hlen]
    omega
   ·intro j x hx;obtain ⟨v,h1,h2,h3,h4⟩:=uh j x hx;have hj:j<xs.length:=by have:=Aex hx;simpa using this
    obtain ⟨c1,c2,c3⟩:=Acd ax hx;refine⟨by simpa using hj,v,RdD.keep st.keeps _ _ (Rd.data _ _ c2 h2),h3,h4,λm hm=>?_⟩;rw[iy];exact Aqu _ j m l7 hm v h1
def Aft{α:Type}{e:α→SV}{l:List α}(i:Nat)(h:i<l.length):∃x,rowF e l i x:=⟨_,h,rfl⟩
inductive AppBase(s:SS)(sz:Nat):SV→Option Nat→Nat→(Nat→SV→Prop)→Prop
 |nil:AppBase s sz (.val (.slice none 0 0)) none 0 (λ_ _=>False)
 |row {k:Nat} {α:Type} {e:α→SV} {l:List α} (h:s.h k=.row sz e l):AppBase s sz (.osl k) (some k) l.length (rowF e l)
 |lit {k:Nat} {l:List SV} (h:s.h k=.lit sz l):AppBase s sz (.osl k) (some k) l.length (Aix l)
inductive AppSrc(s:SS)(sz:Nat):SV→List Nat→Nat→(Nat→SV→Prop)→Prop
 |sl {α:Type} {e:α→SV} {l:List α}:AppSrc s sz (.sl sz e l) [] l.length (rowF e l)
 |row {k:Nat} {α:Type} {e:α→SV} {l:List α} (h:s.h k=.row sz e l):AppSrc s sz (.osl k) [k] l.length (rowF e l)
 |lit {k:Nat} {l:List SV} (h:s.h k=.lit sz l):AppSrc s sz (.osl k) [k] l.length (Aix l)
 |nil:AppSrc s sz (.val (.slice none 0 0)) [] 0 (λ_ _=>False)
theorem AppBase.base{s:SS}{sz:Nat}{x:SV}{k:Option Nat}{n:Nat}{f:Nat→SV→Prop}(h:AppBase s sz x k n f){κ:Ka}{w:World}{v:Value}(hr:Rd κ w x v)(ho:∀j,k=some j→ObOK κ w j (s.h j)):Base κ w v n sz f k:=by
 cases h with
 |nil=>exact⟨hr.val,rfl⟩
 | @row k α e l h=>
  have h1:=ho k rfl;rw[h]at h1;rcases h1 with ⟨h2,rfl⟩|h2
  ·simp only[Rd,h2]at hr;exact .inl ⟨h2,E,hr⟩
  ·obtain ⟨b,cap,h3,h4⟩:=h2.src Aft;simp only[Rd,h3]at hr;exact .inr ⟨h2,Aft,b,cap,h3,hr⟩
 | @lit k l h=>
  have h1:=ho k rfl;rw[h]at h1;have h2:RowAt κ w k sz l.length (Aix l):=h1;obtain ⟨b,cap,h3,h4⟩:=h2.src (λi hi=>V3 hi);simp only[Rd,h3]at hr;exact .inr ⟨h2,λi hi=>V3 hi,b,cap,h3,hr⟩
theorem AppSrc.src{s:SS}{sz:Nat}{x:SV}{ks:List Nat}{n:Nat}{f:Nat→SV→Prop}(h:AppSrc s sz x ks n f){κ:Ka}{w:World}{v:Value}(hr:Rd κ w x v)(ho:∀j∈ks,ObOK κ w j (s.h j)):Src κ w v n sz f:=by
 cases h with
 |sl=>exact hr.src
 |nil=>exact .inl ⟨rfl,λ_ _ h=>h,none,0,hr.val⟩
 | @row k α e l h=>
  have h1:=ho k y_;rw[h]at h1;rcases h1 with ⟨h2,rfl⟩|h2
  ·simp only[Rd,h2]at hr;exact .inl ⟨rfl,λi x hx=>(by obtain ⟨h,_⟩:=hx;simp at h),none,0,hr⟩
  ·obtain ⟨b,cap,h3,h4⟩:=h2.src Aft;simp only[Rd,h3]at hr;subst hr;exact h4
 | @lit k l h=>
  have h1:=ho k y_;rw[h]at h1;have h2:RowAt κ w k sz l.length (Aix l):=h1;obtain ⟨b,cap,h3,h4⟩:=h2.src (λi hi=>V3 hi);simp only[Rd,h3]at hr;subst hr;exact h4
def Ua(k:Option Nat)(d:Nat)(ob:Ob):List (Nat×Ob):=match k with
 |some k=>[(k,.non),(d,ob)]
 |none=>[(d,ob)]
def Adw{P:Program}(Γ:Ty P){o:Oper}{s:SS}{t:TypeId}{ti:TI}{et:TypeId}{sz eb n m:Nat}{ez:List Value}{x y:Operand}{d:Nat}{k:Option Nat}{ks:List Nat}{f g:Nat→SV→Prop}{ob:Ob}(h:o.op=.call ⟨.builtin .append,#[x,y],#[t,t]⟩)(hd:s.h d=.fresh)(ht:Γ.get t=some ti)(hk:ti.k=.slice et sz eb ez)(pg:ez.length=sz)(hb:AppBase s sz (ev s x) k n f)(hs:AppSrc s sz (ev s y) ks m g)(pp:∀j,k=some j→j≠d)(cx:(n+m)*eb≤140737488355328)(sg:n+m≤9223372036854775807)(cn:∀κ w,((κ d=.nil∧n+m=0)∨RowAt κ w d sz (n+m) (A05 n f g))→ObOK κ w d ob):Good P o s ⟨.osl d,ks,Ua k d ob⟩:=by
 intro κ a w hi hr ho N Q hN;have h1:=hr x (by simp[h,Op.operands,Call.operands]);have h2:=hr y (by simp[h,Op.operands,Call.operands]);have jq:∀j,j∈(Up.mk (.osl d) ks (Ua k d ob)).ws↔(k=some j∨j=d):=by
  intro j;cases k<;>simp[Up.ws,Ua,eq_comm]
 have az:κ d=.new:=by have:=ho d (.inr ((jq d).2 (.inr rfl)));rwa [hd]at this
 obtain ⟨hu,i,z,q1,q2,q3,q4,q5⟩:=Ct Γ ht hk;have sf:z.cells.size=sz:=by rw[←pg,←q5];simp
 obtain ⟨v',w',κ',r1,r2,r3,r4,r5⟩:=Ark (P:=P) (ty:=o.type) hi hu q1 q4 q2 sf az (hb.base h1 (λj hj=>ho j (.inr ((jq j).2 (.inl hj))))) (hs.src h2 (λj hj=>ho j (.inl hj))) sg (by rw[q3];exact cx);have au:(execOp a.eval o).run P w=.ok (.value v') w':=by
  simp[execOp,h,resolve,invoke,builtin,r1]
 simp only[Oper.wp,au,Oper.upon];refine hN v' κ' w' (r2.weaken (λj hj=>(jq j).2 hj)) r3 r4 (λp hp=>?_);have fx:=cn κ' w' r5;cases k with
 |none=>
  simp only[Ua,yA]at hp;subst hp;exact fx
 |some k=>
  simp only[Ua,yH,xU,uH]at hp;rcases hp with rfl|rfl
  ·trivial
  ·exact fx
def A5k{α:Type}{e:α→SV}{l:List α}{κ:Ka}{w:World}{d sz n m:Nat}{f g:Nat→SV→Prop}(h:(κ d=.nil∧n+m=0)∨RowAt κ w d sz (n+m) (A05 n f g))(hl:l.length=n+m)(hf:∀i x,rowF e l i x→A05 n f g i x):ObOK κ w d (.row sz e l):=by
 rcases h with ⟨h1,h2⟩|⟨b,cap,cs,T,fr,e1,e2,e3,e4,e5,e6⟩
 ·exact .inl ⟨h1,zX q_⟩
 ·exact .inr ⟨b,cap,cs,T,fr,by rw[hl];exact e1,e2,e3,e4,by omega,λi x hx=>by rw[hl];exact e6 i x (hf i x hx)⟩
def A2l{α:Type}{e:α→SV}{l m:List α}{f g:Nat→SV→Prop}(h1:∀i x,rowF e l i x→f i x)(h2:∀i x,rowF e m i x→g i x)(i:Nat)(x:SV)(h:rowF e (l++m) i x):A05 l.length f g i x:=by
 obtain ⟨hi,rfl⟩:=h;by_cases hl:i<l.length
 ·exact .inl ⟨hl,h1 i _ ⟨hl,by rw[yU hl]⟩⟩
 ·have uc:l.length≤i:=by omega
  exact .inr ⟨uc,h2 _ _ ⟨by simp at hi;omega,by rw[xO uc]⟩⟩
def getI_map{α:Type}{e:α→SV}:∀{l:List α} {i:Nat} (h:i<l.length),Ih (l.map e) i=some (e l[i])
 |[],i,h=>by simp at h
 |x::l,0,_=>rfl
 |_::l,i+1,h=>getI_map (l:=l) (i:=i) (by simpa using h)
def Q5{α:Type}{e:α→SV}{l:List α}{svs:List SV}(h:l.map e=svs)(i:Nat)(x:SV)(hx:rowF e l i x):Aix svs i x:=by
 obtain ⟨hi,rfl⟩:=hx;subst h;exact getI_map hi
def B4{P:Program}(Γ:Ty P){o:Oper}{s:SS}{t:TypeId}{ti:TI}{et:TypeId}{sz eb:Nat}{ez:List Value}{x y:Operand}{d:Nat}{ik ik':IntKind}{n:Nat}{α:Type}(e:α→SV)(z:α)(h:o.op=.makeSlice t x y)(hd:s.h d=.fresh)(ht:Γ.get t=some ti)(hk:ti.k=.slice et sz eb ez)(pg:ez.length=sz)(h1:Adf ez=true)(hx:ev s x=.val (.int ik n))(hy:ev s y=.val (.int ik' n))(cx:n*eb≤281474976710656)(sg:n≤9223372036854775807)(hz:cellsOf (e z)=ez.map .val)(xm:(e z).boxed=true)(xn:(e z).data=true):Good P o s ⟨.osl d,[],[(d,.row sz e (List.replicate n z))]⟩ :=
 Aam hd λκ a w hi hr _ hn=>by
  have r1:=hr x (by simp[h,Op.operands]);have r2:=hr y (by simp[h,Op.operands]);rw[hx]at r1;rw[hy]at r2;obtain ⟨hu,i,zv,q1,q2,q3,q4,q5⟩:=Ct Γ ht hk;have sf:zv.cells.size=sz:=by rw[←pg,←q5];simp
  have uf:(i.bytes:Int)*(n:Int)≤281474976710656:=by
   have:((i.bytes*n:Nat):Int)≤281474976710656:=by rw[q3,vB];omega
   rwa [Int.natCast_mul]at this
  have hm:=run_make (P:=P) w t et i zv hu q1 q4 ik ik' n n q_ (wB _) uf q_;simp only[zZ]at hm;refine⟨.slice (some ⟨w.heap.size,0,none⟩) n n,w.alloc (.cells (madeCells zv.cells (n*i.size)) et),.row w.heap.size n n,?_,Grew.alloc w _,?_,?_⟩
  ·simp[execOp,h,r1.val,r2.val,hm]
  ·intro b hb;simp only[Ent.block?,Option.some.injEq]at hb;subst hb;simp
  ·intro st;refine⟨by simp[Rd,Ay],.inr ⟨w.heap.size,n,(madeCells zv.cells (n*i.size)).toList,et,(0,0),by simp[Ay],?_,NoFr.zero _,?_,by simp,?_⟩⟩
   ·rw[heap_alloc_new]
   ·simp[size_madeCells,q2]
   ·rintro j y ⟨hj,rfl⟩;have qx:j<n:=by simpa using hj
    obtain ⟨u,u1,u2⟩:=Rd.of_cells (κ:=Ei κ d (.row w.heap.size n n)) (w:=w.alloc (.cells (madeCells zv.cells (n*i.size)) et)) xm (Vm h1) (by rw[hz];exact Abi _);rw[tL];have hus:u.cells.size=sz:=by rw[←wU,u2,pg]
    refine⟨by simpa using qx,u,Rd.data _ _ xn u1,hus,by rw[u2];exact Vm h1,λm hm=>?_⟩;have ab:j*sz+m<n*sz:=by
     have:(j+1)*sz≤n*sz:=yY sz q_;rw[xI,wI]at this;omega
    have hmod:(j*sz+m)%zv.cells.size=m:=by rw[sf,tK,Nat.add_mul_mod_self_right];exact xH hm
    rw[←vS,u2,←q5];simp only[madeCells,q2,Array.toList_map,Array.toList_range,vN,uD ab,uE,hmod];rw[vS,uG q_];simp[sf,hm]
def A2d{κ:Ka}{w:World}{sz:Nat}{α:Type}{e:α→SV}{l:List α}{lo hi:Nat}{ad:Option Addr}{cap:Nat}(h:Rd κ w (.sl sz e l) (.slice ad l.length cap))(h1:lo≤hi)(h2:hi≤l.length):Rd κ w (.sl sz e ((l.take hi).drop lo)) (.slice (if cap=lo then ad else ad.map (·.add (lo*sz))) (hi-lo) (cap-lo)):=by
 simp only[Rd,RdD]at h⊢;by_cases he:lo=hi
 ·subst he;exact .inl ⟨by rw[List.drop_eq_nil_iff];simp;omega,if cap=lo then ad else ad.map (·.add (lo*sz)),cap-lo,by simp⟩
 ·rcases h with ⟨rfl,_⟩|⟨b,off,du,h3,h0,h4,h5,h6⟩
  ·simp at h2;omega
  ·cases h3;have il:cap≠lo:=by omega
   refine .inr ⟨b,off+lo*sz,cap-lo,?_,by simp;omega,h4,h5,λi hi'=>?_⟩
   ·rw[zD il];simp only[uE,Addr.add_lit];congr 1;simp;omega
   ·have ab:lo+i<l.length:=by simp at hi';omega
    obtain ⟨u,h7,h8⟩:=h6 (lo+i) ab;refine⟨u,?_,?_⟩
    ·rw[vQ,wD];exact h7
    ·rw[show off+lo*sz+i*sz=off+(lo+i)*sz from by rw[xI];omega];exact h8
def Jp{P:Program}(w:World){len cap lo hi:Nat}{lo' hi':Option Value}(oq:lo'=none∧lo=0∨∃k,lo'=some (.int k lo))(ma:hi'=none∧hi=len∨∃k,hi'=some (.int k hi))(h1:lo≤hi)(h2:hi≤cap):(Instr.sliceBounds true len cap lo' hi' none).run P w=.ok (lo,hi,cap) w:=by
 rcases oq with ⟨rfl,rfl⟩|⟨k,rfl⟩<;>rcases ma with ⟨rfl,rfl⟩|⟨k',rfl⟩<;>simp[Instr.sliceBounds,Instr.sliceBound,asIntOf,h1,h2]
def cap_ge{κ:Ka}{w:World}{sz:Nat}{α:Type}{e:α→SV}{l:List α}{v:Value}(h:Rd κ w (.sl sz e l) v):∃ad cap,v=.slice ad l.length cap∧l.length≤cap:=by
 simp only[Rd,RdD]at h;rcases h with ⟨rfl,ad,cap,h⟩|⟨b,off,cap,h,h0,_⟩
 ·exact⟨ad,cap,h,xQ _⟩
 ·exact⟨_,cap,h,h0⟩
def BoundIs(s:SS)(x:Option Operand)(s6 n:Nat):Prop:=(x=none∧n=s6)∨∃y k,x=some y∧ev s y=.val (.int k n)
theorem BoundIs.val{κ:Ka}{w:World}{s:SS}{a:Act}{x:Option Operand}{s6 n:Nat}(h:BoundIs s x s6 n)(hr:∀y,x=some y→Rd κ w (ev s y) (a.eval y)):(x.map a.eval=none∧n=s6)∨∃k,x.map a.eval=some (.int k n):=by
 rcases h with ⟨rfl,h⟩|⟨y,k,rfl,h⟩
 ·exact .inl ⟨E,h⟩
 ·have:=hr y rfl;rw[h]at this;exact .inr ⟨k,by simp[this.val]⟩
def D0{P:Program}(Γ:Ty P){o:Oper}{s:SS}{t:TypeId}{ti:TI}{et:TypeId}{sz eb lo hi:Nat}{ez:List Value}{x:Operand}{lx hx:Option Operand}{α:Type}{e:α→SV}{l:List α}(h:o.op=.slice t x lx hx none)(ht:Γ.get t=some ti)(hk:ti.k=.slice et sz eb ez)(l6:ev s x=.sl sz e l)(oq:BoundIs s lx 0 lo)(ma:BoundIs s hx l.length hi)(h1:lo≤hi)(h2:hi≤l.length):Good P o s ⟨.sl sz e ((l.take hi).drop lo),[],[]⟩ :=
 Good.pure λκ a w _ hr _=>by
  have r1:=hr x (by simp[h,Op.operands]);rw[l6]at r1;obtain ⟨hu,i,zv,q1,q2,q3,q4,q5⟩:=Ct Γ ht hk;obtain ⟨ad,cap,e1,e2⟩:=cap_ge r1;have b1:=oq.val (a:=a) (λy hy=>hr y (by simp[h,Op.operands,hy]));have b2:=ma.val (a:=a) (λy hy=>hr y (by simp[h,Op.operands,hy]));rw[e1]at r1;have hb:=Jp (P:=P) w (len:=l.length) (cap:=cap) b1 b2 h1 q_;refine⟨_,?_,A2d r1 h1 h2⟩;simp[execOp,h,e1,Instr.sliceAt,Instr.slice,run_underlying hu,hb,sizeOf,typeInfo,q1,q2]
def Aal{P:Program}(Γ:Ty P){o:Oper}{s:SS}{t:TypeId}{ti:TI}{lo hi:Nat}{x:Operand}{lx hx:Option Operand}{b:ByteArray}(h:o.op=.slice t x lx hx none)(ht:Γ.get t=some ti)(hk:ti.k=.string)(l6:ev s x=.val (.string b))(oq:BoundIs s lx 0 lo)(ma:BoundIs s hx b.size hi)(h1:lo≤hi)(h2:hi≤b.size):Good P o s ⟨.val (.string (b.extract lo hi)),[],[]⟩ :=
 Good.pure λκ a w _ hr _=>by
  have r1:=hr x (by simp[h,Op.operands]);rw[l6]at r1;obtain ⟨d,info,z,k1,k2,k3,k4,k5,k6⟩:=Γ.ok t ti ht;rw[hk]at k2;simp only[TK.ok]at k2;subst k2;have b1:=oq.val (a:=a) (λy hy=>hr y (by simp[h,Op.operands,hy]));have b2:=ma.val (a:=a) (λy hy=>hr y (by simp[h,Op.operands,hy]));have hb:(Instr.sliceBounds false b.size b.size (lx.map a.eval) (hx.map a.eval) none).run P w=.ok (lo,hi,b.size) w:=by
   rcases b1 with ⟨c1,rfl⟩|⟨k,c1⟩<;>rcases b2 with ⟨c2,rfl⟩|⟨k',c2⟩<;>rw[c1,c2]<;>simp[Instr.sliceBounds,Instr.sliceBound,asIntOf,h1,h2]
  refine⟨.string (b.extract lo hi),?_,by simp only[Rd]⟩;simp[execOp,h,r1.val,Instr.sliceAt,Instr.slice,run_underlying k1,hb]
def Ag5{P:Program}(Γ:Ty P){o:Oper}{s:SS}{t:TypeId}{ti:TI}{et:TypeId}{sz eb hi k d:Nat}{ez:List Value}{x:Operand}{lx hx:Option Operand}{α:Type}{e:α→SV}{l:List α}(h:o.op=.slice t x lx hx none)(hd:s.h d=.fresh)(ht:Γ.get t=some ti)(hk:ti.k=.slice et sz eb ez)(l6:ev s x=.osl k)(cd:k≠d)(gm:s.h k=.row sz e l)(oq:BoundIs s lx 0 0)(ma:BoundIs s hx l.length hi)(h2:hi≤l.length):Good P o s ⟨.osl d,[],[(k,.non),(d,.row sz e (l.take hi))]⟩:=by
 intro κ a w hinv hr ho N Q hN;have r1:=hr x (by simp[h,Op.operands]);rw[l6]at r1;obtain ⟨hu,i,zv,q1,q2,q3,q4,q5⟩:=Ct Γ ht hk;have az:κ d=.new:=by have:=ho d (.inr (by simp[Up.ws]));rwa [hd]at this
 have cn:=ho k (.inr (by simp[Up.ws]));rw[gm]at cn;have b1:=oq.val (a:=a) (λy hy=>hr y (by simp[h,Op.operands,hy]));have b2:=ma.val (a:=a) (λy hy=>hr y (by simp[h,Op.operands,hy]));rcases cn with ⟨e1,rfl⟩|⟨b,cap,cs,T,fr,e1,e2,e3,e4,e5,e6⟩
 ·simp only[Rd,e1]at r1;have hhi0:hi=0:=by simpa using h2
  subst hhi0;have hb:=Jp (P:=P) w (len:=0) (cap:=0) (hi:=0) (hi':=hx.map a.eval) b1 b2 (yD _) (yD _);have au:(execOp a.eval o).run P w=.ok (.value (.slice none 0 0)) w:=by
   simp[execOp,h,r1,Instr.sliceAt,Instr.slice,run_underlying hu,hb,sizeOf,typeInfo,q1]
  have st:=Kl (Lz hinv (some k)) (by show Ei κ k .dead d=.new;rw[Cd _ _ (Ne.symm cd)];exact az) (e:=.nil) (Grew.refl w) (λb hb=>by cases hb);simp only[Oper.wp,au,Oper.upon];refine hN _ _ w ((((J4 (some k)).weaken (λj hj=>by simp only[Option.some.injEq]at hj;subst hj;simp[Up.ws])).trans (st.1.weaken (λj hj=>by subst hj;simp[Up.ws])))) st.2 (by simp[Rd,Ay]) (λp hp=>?_);simp only[yH,xU,uH]at hp;rcases hp with rfl|rfl
  ·trivial
  ·exact .inl ⟨Ay _ _ _,by simp⟩
 ·simp only[Rd,e1]at r1;have hb:=Jp (P:=P) w (len:=l.length) (cap:=cap) b1 b2 (xQ _) q_;have au:(execOp a.eval o).run P w=.ok (.value (.slice (some ⟨b,0,none⟩) hi cap)) w:=by
   simp only[execOp,h,r1,Instr.sliceAt,Instr.slice,Sem.run_bind,run_underlying hu,Result.andThen_ok,Option.map_none,hb,sizeOf,typeInfo,run_program,q1,Sem.run_pure];by_cases hc:cap=0<;>simp[hc,Addr.add]
  obtain ⟨st,inv⟩:=Q3 (n':=hi) (w':=w) hinv e1 az rfl rfl rfl rfl (λ_ _=>rfl);simp only[Oper.wp,au,Oper.upon];refine hN _ _ w (st.weaken (λj hj=>by rcases hj with rfl|rfl<;>simp[Up.ws])) inv (by simp[Rd,Ay]) (λp hp=>?_);simp only[yH,xU,uH]at hp;rcases hp with rfl|rfl
  ·trivial
  ·have hlen:(l.take hi).length=hi:=by simp;omega
   refine .inr ⟨b,cap,cs,T,fr,by rw[hlen];exact Ay _ _ _,e2,e3,e4,by omega,λi x hx=>?_⟩;obtain ⟨hi',rfl⟩:=hx;have ls:i<l.length:=by simp at hi';omega
   obtain ⟨h0,u,u1,u2⟩:=e6 i (e l[i]) ⟨ls,rfl⟩;refine⟨by simpa using hi',u,?_,u2⟩;rw[wD];exact RdD.keep st.keeps _ _ u1
def L2{P:Program}{o:Oper}{s:SS}{op:BinOp}{t yt:TypeId}{x y:Operand}{m n:ByteArray}{u:Value}(h:o.op=.binOp op t x y yt)(hop:op≠.shl∧op≠.shr)(hx:ev s x=.val (.string m))(hy:ev s y=.val (.string n))(hr:∀w,(Op.stringOp op m n).run P w=.ok u w):Good P o s ⟨.val u,[],[]⟩ :=
 Good.pure λκ a w _ iw _=>by
  have h1:=iw x (by simp[h,Op.operands]);have h2:=iw y (by simp[h,Op.operands]);rw[hx]at h1;rw[hy]at h2;refine⟨u,?_,by simp[Rd]⟩;have hb:binOp op t (.string m) (.string n)=Op.stringOp op m n:=by cases op<;>simp[binOp]at hop⊢
  simp[execOp,h,h1.val,h2.val,eqGuard_at_string,hb,hr]
mutual
def SV.ren(ρ:Nat→Nat):SV→SV
 | .ptr k o=>.ptr (ρ k) o
 | .rpt k sz i o=>.rpt (ρ k) sz i o
 | .osl k=>.osl (ρ k)
 | .agg l=>.agg (Lt ρ l)
 | .tup l=>.tup (Lt ρ l)
 | .ifc t x=>.ifc t (x.ren ρ)
 | .clo fn f l=>.clo fn (Lt ρ f) (Lt ρ l)
 | .top=>.top
 | .val v=>.val v
 | .sl sz e l=>.sl sz e l
 | .ref sz x o=>.ref sz x o
def Lt(ρ:Nat→Nat):List SV→List SV
 |[]=>[]
 |x::l=>x.ren ρ::Lt ρ l
end
def Se(K:List Nat)(k:Nat):Bool:=match K with
 |[]=>false
 |x::l=>Nat.beq x k||Se l k
def memN_iff{K:List Nat}{k:Nat}:Se K k=true↔k∈K:=by
 induction K with
 |nil=>simp[Se]
 |cons x l ih=>
  have hb:Nat.beq x k=true↔x=k:=⟨yJ,λh=>by subst h;simp⟩
  simp only[Se,yO,yH,ih,hb];constructor
  ·rintro (h|h)
   ·exact .inl h.symm
   ·exact .inr h
  ·rintro (h|h)
   ·exact .inl h.symm
   ·exact .inr h
mutual
def SV.inn(K:List Nat):SV→Bool
 | .ptr k _=>Se K k
 | .rpt k _ _ _=>Se K k
 | .osl k=>Se K k
 | .agg l=>B8 K l
 | .tup l=>B8 K l
 | .ifc _ x=>x.inn K
 | .clo _ f l=>B8 K f&&B8 K l
 |_=>true
def B8(K:List Nat):List SV→Bool
 |[]=>true
 |x::l=>x.inn K&&B8 K l
end
def Ob.ren(ρ:Nat→Nat):Ob→Ob
 | .box l=>.box (Lt ρ l)
 | .rown sz e l i cl=>.rown sz e l i (Lt ρ cl)
 | .tbox T l=>.tbox T (Lt ρ l)
 |o=>o
def Ob.inn(K:List Nat):Ob→Bool
 | .box l=>B8 K l
 | .rown _ _ _ _ cl=>B8 K cl
 | .tbox _ l=>B8 K l
 |_=>true
structure Ren(ρ:Nat→Nat)(K:List Nat)(κ κ₂:Ka):Prop where
 ent:∀k,k∈K→κ₂ k=κ (ρ k)
mutual
theorem Rd.unren{ρ:Nat→Nat}{K:List Nat}{κ κ₂:Ka}{w:World}(r:Ren ρ K κ κ₂)(ho:∀b,b<w.heap.size→¬Own κ b→¬Own κ₂ b):∀(x:SV) (v:Value),x.inn K=true→Rd κ w (x.ren ρ) v→Rd κ₂ w x v
 | .top,_,_,_=>by simp[Rd]
 | .val u,v,_,h=>by simpa [Rd,SV.ren] using h
 | .agg l,v,hi,h=>by
  simp only[Rd,SV.ren,SV.inn]at h hi⊢;obtain ⟨cs,h1,h0,h2⟩:=h;exact⟨cs,h1,h0,RdL.unren r ho l cs hi h2⟩
 | .tup l,v,hi,h=>by
  simp only[Rd,SV.ren,SV.inn]at h hi⊢;obtain ⟨cs,h1,h2⟩:=h;exact⟨cs,h1,RdL.unren r ho l cs hi h2⟩
 | .sl sz e l,v,_,h=>by
  simp only[Rd,SV.ren]at h⊢;exact RdD.keep ⟨yD _,λ_ _ _=>rfl,ho⟩ _ _ h
 | .ref sz x off,v,_,h=>by
  simp only[Rd,SV.ren]at h⊢;exact RdD.keep ⟨yD _,λ_ _ _=>rfl,ho⟩ _ _ h
 | .ptr k off,v,hi,h=>by
  simp only[Rd,SV.ren,SV.inn]at h hi⊢;rw[r.ent k (memN_iff.1 hi)];exact h
 | .rpt k sz i off,v,hi,h=>by
  simp only[Rd,SV.ren,SV.inn]at h hi⊢;rw[r.ent k (memN_iff.1 hi)];exact h
 | .osl k,v,hi,h=>by
  simp only[Rd,SV.ren,SV.inn]at h hi⊢;rw[r.ent k (memN_iff.1 hi)];exact h
 | .ifc t x,v,hi,h=>by
  simp only[Rd,SV.ren,SV.inn]at h hi⊢;obtain ⟨u,h1,h2⟩:=h;exact⟨u,h1,Rd.unren r ho x u hi h2⟩
 | .clo fn first cap,v,hi,h=>by
  simp only[Rd,SV.ren,SV.inn,zG]at h hi⊢;obtain ⟨fs,cs,h1,h2,h3⟩:=h;exact⟨fs,cs,h1,RdL.unren r ho first fs hi.1 h2,RdL.unren r ho cap cs hi.2 h3⟩
theorem RdL.unren{ρ:Nat→Nat}{K:List Nat}{κ κ₂:Ka}{w:World}(r:Ren ρ K κ κ₂)(ho:∀b,b<w.heap.size→¬Own κ b→¬Own κ₂ b):∀(l:List SV) (vs:List Value),B8 K l=true→RdL κ w (Lt ρ l) vs→RdL κ₂ w l vs
 |[],_,_,h=>by simpa [RdL,Lt] using h
 |x::l,vs,hi,h=>by
  simp only[RdL,Lt,B8,zG]at h hi⊢;obtain ⟨v,q,h1,h2,h3⟩:=h;exact⟨v,q,h1,Rd.unren r ho x v hi.1 h2,RdL.unren r ho l q hi.2 h3⟩
end
mutual
theorem Rd.ren{ρ:Nat→Nat}{K:List Nat}{κ κ₂:Ka}{w:World}(r:Ren ρ K κ κ₂)(ho:∀b,b<w.heap.size→¬Own κ₂ b→¬Own κ b):∀(x:SV) (v:Value),x.inn K=true→Rd κ₂ w x v→Rd κ w (x.ren ρ) v
 | .top,_,_,_=>by simp[Rd,SV.ren]
 | .val u,v,_,h=>by simpa [Rd,SV.ren] using h
 | .agg l,v,hi,h=>by
  simp only[Rd,SV.ren,SV.inn]at h hi⊢;obtain ⟨cs,h1,h0,h2⟩:=h;exact⟨cs,h1,h0,RdL.ren r ho l cs hi h2⟩
 | .tup l,v,hi,h=>by
  simp only[Rd,SV.ren,SV.inn]at h hi⊢;obtain ⟨cs,h1,h2⟩:=h;exact⟨cs,h1,RdL.ren r ho l cs hi h2⟩
 | .sl sz e l,v,_,h=>by
  simp only[Rd,SV.ren]at h⊢;exact RdD.keep ⟨yD _,λ_ _ _=>rfl,ho⟩ _ _ h
 | .ref sz x off,v,_,h=>by
  simp only[Rd,SV.ren]at h⊢;exact RdD.keep ⟨yD _,λ_ _ _=>rfl,ho⟩ _ _ h
 | .ptr k off,v,hi,h=>by
  simp only[Rd,SV.ren,SV.inn]at h hi⊢;rw[←r.ent k (memN_iff.1 hi)];exact h
 | .rpt k sz i off,v,hi,h=>by
  simp only[Rd,SV.ren,SV.inn]at h hi⊢;rw[←r.ent k (memN_iff.1 hi)];exact h
 | .osl k,v,hi,h=>by
  simp only[Rd,SV.ren,SV.inn]at h hi⊢;rw[←r.ent k (memN_iff.1 hi)];exact h
 | .ifc t x,v,hi,h=>by
  simp only[Rd,SV.ren,SV.inn]at h hi⊢;obtain ⟨u,h1,h2⟩:=h;exact⟨u,h1,Rd.ren r ho x u hi h2⟩
 | .clo fn first cap,v,hi,h=>by
  simp only[Rd,SV.ren,SV.inn,zG]at h hi⊢;obtain ⟨fs,cs,h1,h2,h3⟩:=h;exact⟨fs,cs,h1,RdL.ren r ho first fs hi.1 h2,RdL.ren r ho cap cs hi.2 h3⟩
theorem RdL.ren{ρ:Nat→Nat}{K:List Nat}{κ κ₂:Ka}{w:World}(r:Ren ρ K κ κ₂)(ho:∀b,b<w.heap.size→¬Own κ₂ b→¬Own κ b):∀(l:List SV) (vs:List Value),B8 K l=true→RdL κ₂ w l vs→RdL κ w (Lt ρ l) vs
 |[],_,_,h=>by simpa [RdL,Lt] using h
 |x::l,vs,hi,h=>by
  simp only[RdL,Lt,B8,zG]at h hi⊢;obtain ⟨v,q,h1,h2,h3⟩:=h;exact⟨v,q,h1,Rd.ren r ho x v hi.1 h2,RdL.ren r ho l q hi.2 h3⟩
end
theorem RowAt.own{κ κ₂:Ka}{w:World}{k k₂ sz n:Nat}{f:Nat→SV→Prop}(h:RowAt κ w k sz n f)(he:κ₂ k₂=κ k)(ho:∀b,b<w.heap.size→¬Own κ b→¬Own κ₂ b):RowAt κ₂ w k₂ sz n f:=by
 obtain ⟨b,cap,cs,T,fr,h1,h2,h3,h4,h5,h6⟩:=h;refine⟨b,cap,cs,T,fr,he.trans h1,h2,h3,h4,h5,λi x hi=>?_⟩;obtain ⟨h0,u,h7,h8⟩:=h6 i x hi;exact⟨h0,u,RdD.keep ⟨yD _,λ_ _ _=>rfl,ho⟩ _ _ h7,h8⟩
theorem ObOK.unren{ρ:Nat→Nat}{K:List Nat}{κ κ₂:Ka}{w:World}(r:Ren ρ K κ κ₂)(ho:∀b,b<w.heap.size→¬Own κ b→¬Own κ₂ b){k:Nat}(hk:k∈K):∀{o:Ob},o.inn K=true→ObOK κ w (ρ k) (o.ren ρ)→ObOK κ₂ w k o
 | .fresh,_,h=>(r.ent k hk).trans h
 | .non,_,_=>trivial
 | .box l,hi,h=>by
  obtain ⟨b,cs,T,fr,h1,h2,h3,h4,h5⟩:=h;exact⟨b,cs,T,fr,(r.ent k hk).trans h1,h2,h3,h4,RdL.unren r ho l cs hi h5⟩
 | .tbox T l,hi,h=>by
  obtain ⟨b,cs,fr,h1,h2,h3,h4,h5⟩:=h;exact⟨b,cs,fr,(r.ent k hk).trans h1,h2,h3,h4,RdL.unren r ho l cs hi h5⟩
 | .trow T l,_,h=>h.imp (λh=>⟨(r.ent k hk).trans h.1,h.2⟩) (λ⟨h0,b,cap,cs,fr,h1,h2⟩=>⟨h0,b,cap,cs,fr,(r.ent k hk).trans h1,h2⟩)
 | .row sz e l,_,h=>h.imp (λh=>⟨(r.ent k hk).trans h.1,h.2⟩) (λh=>h.own (r.ent k hk) ho)
 | .lit sz l,_,h=>RowAt.own h (r.ent k hk) ho
 | .pin b n cap sz e l,_,h=>⟨(r.ent k hk).trans h.1,RowAt.own h.2 (r.ent k hk) ho⟩
 | .glob sz x g,_,h=>by
  simp only[Ob.ren,ObOK,Rd]at h⊢;exact RdD.keep ⟨yD _,λ_ _ _=>rfl,ho⟩ _ _ h
 | .dat v sz e l,_,h=>by
  simp only[Ob.ren,ObOK,Rd]at h⊢;exact RdD.keep ⟨yD _,λ_ _ _=>rfl,ho⟩ _ _ h
 | .rown sz e l i cl,hi,h=>by
  obtain ⟨b,cap,cs,T,fr,h1,h2,h3,h4,h5,h6,h7,us,u1,u2,u3,u4⟩:=h;refine⟨b,cap,cs,T,fr,(r.ent k hk).trans h1,h2,h3,h4,h5,λj x hj hx=>?_,h7,us,u1,u2,RdL.unren r ho cl us hi u3,u4⟩;obtain ⟨g0,u,g7,g8⟩:=h6 j x hj hx;exact⟨g0,u,RdD.keep ⟨yD _,λ_ _ _=>rfl,ho⟩ _ _ g7,g8⟩
theorem ObOK.ren{ρ:Nat→Nat}{K:List Nat}{κ κ₂:Ka}{w:World}(r:Ren ρ K κ κ₂)(ho:∀b,b<w.heap.size→¬Own κ₂ b→¬Own κ b){k:Nat}(hk:k∈K):∀{o:Ob},o.inn K=true→ObOK κ₂ w k o→ObOK κ w (ρ k) (o.ren ρ)
 | .fresh,_,h=>(r.ent k hk).symm.trans h
 | .non,_,_=>trivial
 | .box l,hi,h=>by
  obtain ⟨b,cs,T,fr,h1,h2,h3,h4,h5⟩:=h;exact⟨b,cs,T,fr,(r.ent k hk).symm.trans h1,h2,h3,h4,RdL.ren r ho l cs hi h5⟩
 | .tbox T l,hi,h=>by
  obtain ⟨b,cs,fr,h1,h2,h3,h4,h5⟩:=h;exact⟨b,cs,fr,(r.ent k hk).symm.trans h1,h2,h3,h4,RdL.ren r ho l cs hi h5⟩
 | .trow T l,_,h=>h.imp (λh=>⟨(r.ent k hk).symm.trans h.1,h.2⟩) (λ⟨h0,b,cap,cs,fr,h1,h2⟩=>⟨h0,b,cap,cs,fr,(r.ent k hk).symm.trans h1,h2⟩)
 | .row sz e l,_,h=>h.imp (λh=>⟨(r.ent k hk).symm.trans h.1,h.2⟩) (λh=>h.own (r.ent k hk).symm ho)
 | .lit sz l,_,h=>RowAt.own h (r.ent k hk).symm ho
 | .pin b n cap sz e l,_,h=>⟨(r.ent k hk).symm.trans h.1,RowAt.own h.2 (r.ent k hk).symm ho⟩
 | .glob sz x g,_,h=>by
  simp only[Ob.ren,ObOK,Rd]at h⊢;exact RdD.keep ⟨yD _,λ_ _ _=>rfl,ho⟩ _ _ h
 | .dat v sz e l,_,h=>by
  simp only[Ob.ren,ObOK,Rd]at h⊢;exact RdD.keep ⟨yD _,λ_ _ _=>rfl,ho⟩ _ _ h
 | .rown sz e l i cl,hi,h=>by
  obtain ⟨b,cap,cs,T,fr,h1,h2,h3,h4,h5,h6,h7,us,u1,u2,u3,u4⟩:=h;refine⟨b,cap,cs,T,fr,((r.ent k hk).symm).trans h1,h2,h3,h4,h5,λj x hj hx=>?_,h7,us,u1,u2,RdL.ren r ho cl us hi u3,u4⟩;obtain ⟨g0,u,g7,g8⟩:=h6 j x hj hx;exact⟨g0,u,RdD.keep ⟨yD _,λ_ _ _=>rfl,ho⟩ _ _ g7,g8⟩
abbrev Obs:=List (Nat×Ob)
def Obs.keys(H:Obs):List Nat:=H.map (·.1)
def Obs.ok(κ:Ka)(w:World)(H:Obs):Prop:=∀p∈H,ObOK κ w p.1 p.2
def Spec(P:Program)(f:FuncId)(A:List SV)(H:Obs)(R:SV)(H':Obs):Prop :=
 ∀(κ:Ka) (w:World) (vs:List Value),Inv κ w→(∀k,κ k≠.new→k∈H.keys)→RdL κ w A vs→H.ok κ w →
  Calls P f vs.toArray w λe w'=>∃v κ',e=.returned v∧Ctx ⟨w,κ,[]⟩ κ' w'∧Inv κ' w'∧Rd κ' w' R v∧H'.ok κ' w'
inductive KI
 |code (c:Code)
 |ops (all:Array Oper) (rest:List Oper)
 |blk (id:Nat)
 |inv (I:Act→World→Prop)
 |scp
def den(P:Program)(B:Exit→Act→World→Prop):List KI→Exit→Act→World→Prop
 |[]=>B
 | .code c::k=>Exit.then (c.wp P (den P B k)) (den P B k)
 | .ops all rest::k=>Exit.then (wpList P all (den P B k) rest) (den P B k)
 | .blk id::k=>Exit.inBlock id (den P B k)
 | .inv I::k=>Exit.then I (den P B k)
 | .scp::k=>Exit.noGoto (den P B k)
structure Cx where
 P:Program
 Γ:Ty P
 F:Fr
 n:Nat
 B:Exit→Act→World→Prop
 bn:List Nat
 hbn:∀k,F.k0 k≠.new→k∈bn
def G(C:Cx)(k:List KI)(s:SS):Prop:=∀κ a w,St C.F C.n s κ a w→den C.P C.B k .normal a w
theorem St.ev{F:Fr}{n:Nat}{s:SS}{κ:Ka}{a:Act}{w:World}(h:St F n s κ a w)(x:Operand):Rd κ w (ev s x) (a.eval x):=by
 cases x with
 |tmp t=>exact h.slot t
 |const v=>simp[Sy.ev,Act.eval,Rd]
 |global g=>simp[Sy.ev,Act.eval,Rd]
 |func f=>simp only[Sy.ev,Act.eval,Rd];exact⟨[],[],rfl,by simp[RdL],by simp[RdL]⟩
def Ul(h:Nat→Ob):List (Nat×Ob)→Nat→Ob
 |[]=>h
 |(k,o)::r=>Ul (upd h k o) r
def SS.upd(s:SS)(dst:Option Nat)(U:Up):SS:=⟨match dst with|some d=>Sy.upd s.σ d U.v|none=>s.σ,Ul s.h U.objs⟩
def Ae9{h:Nat→Ob}:∀{l:List (Nat×Ob)} {k:Nat},k∉l.map (·.1)→Ul h l k=h k
 |[],k,_=>rfl
 |(j,o)::r,k,hk=>by
  simp only[xW,yH,uL]at hk;rw[Ul,Ae9 hk.2,Cy _ _ hk.1]
def Alk{κ:Ka}{w:World}:∀(l:List (Nat×Ob)) (h:Nat→Ob) (k:Nat),(∀p∈l,ObOK κ w p.1 p.2)→(k∉l.map (·.1)→ObOK κ w k (h k))→ObOK κ w k (Ul h l k)
 |[],h,k,_,h2=>h2 y_
 |(j,o)::r,h,k,h1,h2=>by
  refine Alk r (Sy.upd h j o) k (λp hp=>h1 p (by simp[hp])) (λhk=>?_);by_cases hj:k=j
  ·subst hj;rw[B1];exact h1 (k,o) y_
  ·rw[Cy _ _ hj];exact h2 (by simp[hj];simpa using hk)
theorem St.put{F:Fr}{n:Nat}{s:SS}{κ κ':Ka}{a:Act}{w w':World}(h:St F n s κ a w){dst:Option Nat}{U:Up}{v:Value}(hd:∀d,dst=some d→d<n)(st:Step (·∈U.ws) κ w κ' w')(hi:Inv κ' w')(hv:Rd κ' w' U.v v)(ho:∀x∈U.objs,ObOK κ' w' x.1 x.2):St F n (s.upd dst U) κ' (a.put dst v) w' where
 defers:=by cases dst<;>exact h.defers
 size:=by cases dst<;>simp[Act.put,h.size]
 inv:=hi
 ctx:=h.ctx.step hi st
 slot i:=by
  cases dst with
  |none=>exact Rd.step st _ _ (h.slot i)
  |some d=>
   have ab:=hd d rfl;by_cases hi':i=d
   ·subst hi';simp only[SS.upd,B1,Act.put];have hs:i<a.tmps.size:=by rw[h.size];exact ab
    simpa [hs] using hv
   ·simp only[SS.upd,Cy _ _ hi',Act.put];have:(a.tmps.setIfInBounds d v).getD i undef=a.tmps.getD i undef:=by
     simp[Array.getElem?_setIfInBounds_ne (Ne.symm hi')]
    rw[this];exact Rd.step st _ _ (h.slot i)
 obj k:=Alk _ _ _ ho (λhk=>ObOK.step st hk _ (h.obj k))
variable {C:Cx} {k:List KI} {s:SS}
theorem G_seq{x y:Code}(h:G C (.code x::.code y::k) s):G C (.code (.seq x y)::k) s:=λκ a w hs=>wp_seq (h κ a w hs)
theorem G_skip(h:G C k s):G C (.code .skip::k) s:=λκ a w hs=>wp_skip (h κ a w hs)
theorem A77{id:Nat}{c:Code}(h:G C (.code c::.blk id::k) s):G C (.code (.block id c)::k) s:=λκ a w hs=>wp_block (h κ a w hs)
theorem G_blk{id:Nat}(h:G C k s):G C (.blk id::k) s:=λκ a w hs=>h κ a w hs
theorem A74{c:Code}(h:G C (.code c::.scp::k) s):G C (.code (.scope c)::k) s:=λκ a w hs=>wp_scope_straight (h κ a w hs)
theorem G_scp(h:G C k s):G C (.scp::k) s:=λκ a w hs=>h κ a w hs
theorem A75{l:Nat}(h:G C k s):G C (.code (.label l)::k) s:=λκ a w hs=>wp_label (h κ a w hs)
theorem G_nil(h:∀κ a w,St C.F C.n s κ a w→C.B .normal a w):G C [] s:=λκ a w hs=>h κ a w hs
theorem G_cond{c:Operand}{x y:Code}{b:Bool}(hc:ev s c=.val (.bool b))(ht:b=true→G C (.code x::k) s)(hf:b=false→G C (.code y::k) s):G C (.code (.cond c x y)::k) s:=λκ a w hs=>by
 have h:=hs.ev c;rw[hc]at h;exact wp_cond_split h.val (λhb=>ht hb κ a w hs) (λhb=>hf hb κ a w hs)
def Ya(id:Nat):List KI→Option (List KI)
 |[]=>none
 | .blk i::k=>bif Nat.beq i id then some k else Ya id k
 | .code _::k=>Ya id k
 | .ops _ _::k=>Ya id k
 | .inv _::k=>Ya id k
 | .scp::k=>Ya id k
theorem Sr{P:Program}{B:Exit→Act→World→Prop}{id:Nat}{a:Act}{w:World}:∀{k k':List KI},Ya id k=some k'→den P B k' .normal a w→den P B k (.exit id) a w
 |[],k',h,_=>by simp[Ya]at h
 | .blk i::k,k',h,hd=>by
  simp only[Ya,uJ]at h;split at h
  ·rename_i hb;have:=yJ hb;subst this;simp only[Option.some.injEq]at h;subst h;simp only[den,Exit.inBlock,if_true];exact hd
  ·rename_i hb;have af:id≠i:=λe=>hb (by subst e;simp)
   simp only[den,Exit.inBlock,zD af];exact Sr h hd
 | .code _::k,k',h,hd=>Sr (k:=k) h hd
 | .ops _ _::k,k',h,hd=>Sr (k:=k) h hd
 | .inv _::k,k',h,hd=>Sr (k:=k) h hd
 | .scp::k,k',h,hd=>Sr (k:=k) h hd
theorem G_exit{id:Nat}{k':List KI}(h:Ya id k=some k')(hg:G C k' s):G C (.code (.exit id)::k) s:=λκ a w hs=>wp_exit (Sr h (hg κ a w hs))
theorem W7{P:Program}{B:Exit→Act→World→Prop}{a:Act}{w:World}:∀{k:List KI},B .ret a w→den P B k .ret a w
 |[],h=>h
 | .blk _::k,h=>W7 (k:=k) h
 | .code _::k,h=>W7 (k:=k) h
 | .ops _ _::k,h=>W7 (k:=k) h
 | .inv _::k,h=>W7 (k:=k) h
 | .scp::k,h=>W7 (k:=k) h
theorem A8j(h:∀κ a w,St C.F C.n s κ a w→C.B .ret a w):G C (.code .ret::k) s:=λκ a w hs=>wp_ret (W7 (h κ a w hs))
theorem A5w{id:Nat}{ops:Array Oper}(h:G C (.ops ops ops.toList::k) s):G C (.code (.region id ops false)::k) s:=λκ a w hs=>wp_region_list (h κ a w hs)
theorem A1h{all:Array Oper}(h:G C k s):G C (.ops all []::k) s:=λκ a w hs=>wpList_nil (P:=C.P) (ops:=all) (h κ a w hs)
def Zg(all:Array Oper)(s:SS)(g:Option (Nat×Bool))(b:Bool):Prop :=
 match g with
 |none=>b=true
 |some (j,want)=>∃d,((all[j]?).bind (·.dst))=some d∧((∃c,s.σ d=.val (.bool c)∧b=(c==want))∨(s.σ d=.val undef∧b=false))
theorem Wn{F:Fr}{n:Nat}{κ:Ka}{a:Act}{w:World}(h:St F n s κ a w){all:Array Oper}{o:Oper}{b:Bool}(hd:∀j want,o.guard=some (j,want)→∀d,((all[j]?).bind (·.dst))=some d→d<n)(hw:Zg all s o.guard b):Region.wanted o (yielded all a.tmps)=b:=by
 unfold Zg at hw;unfold Region.wanted;cases hg:o.guard with
 |none=>rw[hg]at hw;simp[hw]
 |some p=>
  obtain ⟨j,want⟩:=p;rw[hg]at hw;obtain ⟨d,h1,h2⟩:=hw;have ab:=hd j want hg d h1;have m9:=h.slot d;have bg:a.tmps[d]? = some (a.tmps.getD d undef):=by simp[h.size,ab]
  simp only[yielded,h1,Option.bind_some,bg];rcases h2 with ⟨c,h3,rfl⟩|⟨h3,rfl⟩
  ·rw[h3]at m9;rw[m9.val];rfl
  ·rw[h3]at m9;rw[m9.val];rfl
theorem G_op{all:Array Oper}{o:Oper}{rest:List Oper}{U:Up}(hg:Good C.P o s U)(hw:∀κ a w,St C.F C.n s κ a w→Region.wanted o (yielded all a.tmps)=true)(hd:∀d,o.dst=some d→d<C.n)(h:G C (.ops all rest::k) (s.upd o.dst U)):G C (.ops all (o::rest)::k) s:=λκ a w hs=>
 wpList_step λK hK=>by
  rw[zE (hw κ a w hs)];exact hg κ a w hs.inv (λx _=>hs.ev x) (λj _=>hs.obj j) K _ (λv κ' w' st hi hv ho=>hK _ _ (h κ' _ w' (hs.put hd st hi hv ho)))
theorem A1i{all:Array Oper}{o:Oper}{rest:List Oper}(hw:∀κ a w,St C.F C.n s κ a w→Region.wanted o (yielded all a.tmps)=false)(hd:∀d,o.dst=some d→d<C.n)(h:G C (.ops all rest::k) (s.upd o.dst ⟨.val undef,[],[]⟩)):G C (.ops all (o::rest)::k) s:=λκ a w hs=>
 wpList_step λK hK=>by
  rw[zD (by rw[hw κ a w hs];simp)];exact hK _ _ (h κ _ w (hs.put (U:=⟨.val undef,[],[]⟩) hd (Step.refl _ κ w) hs.inv (by simp[Rd]) (λp hp=>by cases hp)))
def Bg:List (Nat×Nat)→Nat→Nat
 |[],k=>k
 |(a,b)::r,k=>bif Nat.beq a k then b else Bg r k
def mkσ:List (Nat×SV)→Nat→SV
 |[],_=>.top
 |(i,x)::r,j=>bif Nat.beq i j then x else mkσ r j
def mkh:List (Nat×Ob)→Nat→Ob
 |[],_=>.fresh
 |(i,x)::r,j=>bif Nat.beq i j then x else mkh r j
def mkS(L:List (Nat×SV))(O:Obs):SS:=⟨mkσ L,mkh O⟩
def Av0(ρ:List (Nat×Nat))(K:List Nat)(s:SS):List (Nat×SV)→Prop
 |[]=>True
 |(i,x)::r=>x.ren (Bg ρ)=s.σ i∧x.inn K=true∧Av0 ρ K s r
def A1g(ρ:List (Nat×Nat))(K:List Nat)(s:SS):Obs→Prop
 |[]=>True
 |(i,x)::r=>(x.ren (Bg ρ)=s.h (Bg ρ i)∨x=.non)∧x.inn K=true∧A1g ρ K s r
def Xt(ρ:List (Nat×Nat))(bn:List Nat):List Nat→Bool
 |[]=>bn.all λk=>Nat.beq (Bg ρ k) k
 |k::r=>(r.all λj=>Nat.beq j k||!(Nat.beq (Bg ρ j) (Bg ρ k)))&&Xt ρ bn r
theorem Wp{ρ:List (Nat×Nat)}{bn:List Nat}:∀{K:List Nat},Xt ρ bn K=true→(∀i∈K,∀j∈K,Bg ρ i=Bg ρ j→i=j)∧∀k∈bn,Bg ρ k=k
 | [],h=>⟨by simp,λ k hk=>by
   simp only[Xt,yV]at h;exact yJ (h k hk)⟩
 |k::r,h=>by
  simp only[Xt,zG,yV,yO,yT]at h;obtain ⟨h1,h2⟩:=h;obtain ⟨h3,h4⟩:=Wp h2;refine⟨λi hi j hj e=>?_,h4⟩;simp only[yH]at hi hj;rcases hi with rfl|hi<;>rcases hj with rfl|hj
  ·rfl
  ·rcases h1 j hj with h|h
   ·exact(yJ h).symm
   ·rw[e]at h;simp at h
  ·rcases h1 i hi with h|h
   ·exact yJ h
   ·rw[e]at h;simp at h
  ·exact h3 i hi j hj e
def Zw(κ:Ka)(ρ:Nat→Nat)(K:List Nat):Ka:=⟨λk=>bif Se K k then κ (ρ k) else .new,κ.M⟩
theorem Zv{κ:Ka}{ρ:Nat→Nat}{K:List Nat}{k:Nat}(h:k∈K):Zw κ ρ K k=κ (ρ k):=by simp[Zw,memN_iff.2 h]
theorem Aox{κ:Ka}{ρ:Nat→Nat}{K:List Nat}{k:Nat}(h:k∉K):Zw κ ρ K k=.new:=by
 have:Se K k=false:=by
  cases hm:Se K k with
  |false=>rfl
  |true=>exact yB (memN_iff.1 hm) h
 simp[Zw,this]
theorem Lg{κ:Ka}{ρ:Nat→Nat}{K:List Nat}{k b:Nat}(h:(Zw κ ρ K k).block? = some b):k∈K∧(κ (ρ k)).block? = some b:=by
 by_cases hk:k∈K
 ·rw[Zv hk]at h;exact⟨hk,h⟩
 ·rw[Aox hk]at h;cases h
theorem Zu{κ:Ka}{ρ:Nat→Nat}{K:List Nat}(b:Nat)(h:¬Own κ b):¬Own (Zw κ ρ K) b:=by
 rintro (⟨k,hk⟩|hk)
 ·exact h (.inl ⟨_,(Lg hk).2⟩)
 ·exact h (.inr hk)
theorem A2r{κ:Ka}{w:World}{ρ:Nat→Nat}{K:List Nat}(hi:Inv κ w)(ie:∀i∈K,∀j∈K,ρ i=ρ j→i=j):Inv (Zw κ ρ K) w :=
 ⟨λ i j b h1 h2=>by
   obtain ⟨a1,a2⟩:=Lg h1;obtain ⟨b1,b2⟩:=Lg h2;exact ie i a1 j b1 (hi.inj _ _ b a2 b2),
  λ k b h=>hi.bnd _ b (Lg h).2,λ k b h=>hi.apart _ b (Lg h).2,hi.mbnd⟩
theorem A2s{F:Fr}{κ:Ka}{w:World}{ρ:Nat→Nat}{K bn:List Nat}(c:Ctx F κ w)(hbn:∀k,F.k0 k≠.new→k∈bn)(hK:∀k∈bn,k∈K∧ρ k=k):Ctx F (Zw κ ρ K) w :=
 ⟨c.size,c.os,c.tape,c.output,c.M,c.old,λ k b h=>c.own _ b (Lg h).2,λ k hk=>by
  obtain ⟨h1,h2⟩:=hK k (hbn k hk);rw[Zv h1,h2];exact c.nam k hk⟩
def Alr(bn K:List Nat):Bool:=bn.all (Se K)
structure Sub(C:Cx)(s:SS)(ρ:List (Nat×Nat))(L:List (Nat×SV))(O:Obs):Prop where
 slots:Av0 ρ O.keys s L
 objs:A1g ρ O.keys s O
 names:Xt ρ C.bn O.keys=true∧Alr C.bn O.keys=true
theorem Sub.st{s:SS}{ρ:List (Nat×Nat)}{L:List (Nat×SV)}{O:Obs}(h:Sub C s ρ L O){κ:Ka}{a:Act}{w:World}(hs:St C.F C.n s κ a w):St C.F C.n (mkS L O) (Zw κ (Bg ρ) O.keys) a w:=by
 obtain ⟨ie,hbn⟩:=Wp h.names.1;have a8:∀k∈C.bn,k∈O.keys:=λk hk=>by
  have:=h.names.2;simp only[Alr,yV]at this;exact memN_iff.1 (this k hk)
 have ku:Ren (Bg ρ) O.keys κ (Zw κ (Bg ρ) O.keys):=⟨λk hk=>Zv hk⟩
 refine⟨hs.defers,hs.size,A2r hs.inv ie,A2s hs.ctx C.hbn (λk hk=>⟨a8 k hk,hbn k hk⟩),?_,?_⟩
 ·intro i;have h1:=h.slots;revert h1;simp only[mkS];generalize hL:L=L';clear hL
  induction L' with
  |nil=>intro _;simp[mkσ,Rd]
  |cons p r ih=>
   obtain ⟨j,x⟩:=p;intro h1;simp only[Av0]at h1;simp only[mkσ,uJ];split
   ·rename_i hb;have:=yJ hb;subst this;have h2:=hs.slot j;rw[←h1.1]at h2;exact Rd.unren ku (λb _=>Zu b) _ _ h1.2.1 h2
   ·exact ih h1.2.2
 ·intro i;have h1:=h.objs;have hK:∀p∈O,p.1∈O.keys:=λp hp=>yS.2 ⟨p,hp,rfl⟩
  have key:∀O':Obs,(∀p∈O',p.1∈O.keys)→A1g ρ O.keys s O'→(i∈O'.map (·.1)→ObOK (Zw κ (Bg ρ) O.keys) w i (mkh O' i))∧(i∉O'.map (·.1)→mkh O' i=.fresh):=by
   intro O'
   induction O' with
   |nil=>intro _ _;exact⟨by simp,λ_=>rfl⟩
   |cons p r ih=>
    obtain ⟨j,x⟩:=p;intro hk h1;simp only[A1g]at h1;obtain ⟨h2,h3⟩:=ih (λp hp=>hk p (by simp[hp])) h1.2.2;simp only[mkh,uJ,xW,yH,uL];constructor
    ·intro hm;split
     ·rename_i hb;have:=yJ hb;subst this;rcases h1.1 with h4|h4
      ·have h5:=hs.obj (Bg ρ j);rw[←h4]at h5;exact ObOK.unren ku (λb _=>Zu b) (hk (j,x) y_) h1.2.1 h5
      ·rw[h4];trivial
     ·rename_i hb;exact h2 (hm.resolve_left (λe=>hb (by subst e;simp)))
    ·rintro ⟨ck,bx⟩;rw[zD (λhb=>ck (yJ hb).symm)];exact h3 bx
  obtain ⟨h2,h3⟩:=key O hK h1;by_cases hi:i∈O.map (·.1)
  ·exact h2 hi
  ·simp only[mkS];rw[h3 hi];exact Aox hi
theorem Wl{body:Code}{α:Type}(L:α→List (Nat×SV))(O:α→Obs)(μ:α→Nat)(x₀:α)(ρ:List (Nat×Nat))(a8:Sub C s ρ (L x₀) (O x₀))(h:∀x,G C (.code body::.inv (λa w=>∃x' κ,μ x'<μ x∧St C.F C.n (mkS (L x') (O x')) κ a w)::k) (mkS (L x) (O x))):G C (.code (.loop body)::k) s:=λκ a w hs=>by
 refine wp_loop_ghost (λm a w=>∃x κ,μ x=m∧St C.F C.n (mkS (L x) (O x)) κ a w) (μ x₀) ⟨x₀,_,E,a8.st hs⟩ ?_;rintro m a' w' ⟨x,κ',rfl,xa⟩;refine wp_mono (h x κ' a' w' xa) ?_;intro e a'' x9 hq;cases e with
 |normal=>
  obtain ⟨x',κ'',h1,h2⟩:=hq;exact⟨μ x',h1,x',κ'',E,h2⟩
 |exit id=>exact hq
 |goto l=>exact hq
 |ret=>exact hq
 |panic c=>exact hq
 |outgrown=>exact hq
theorem Ye{α:Type}{L:α→List (Nat×SV)}{O:α→Obs}{μ:α→Nat}{x:α}(x':α)(ρ:List (Nat×Nat))(hμ:μ x'<μ x)(a8:Sub C s ρ (L x') (O x')):G C (.inv (λa w=>∃x' κ,μ x'<μ x∧St C.F C.n (mkS (L x') (O x')) κ a w)::k) s:=λ_ _ _ hs=>⟨x',_,hμ,a8.st hs⟩
variable {C:Cx} {k:List KI} {s:SS}
inductive ResV(Γ:TypeId→Option TI)(s:SS):ResultVar→SV→Prop
 |tmp {t:Nat}:ResV Γ s (.tmp t) (s.σ t)
 |cell {a:Nat} {t:TypeId} {k off:Nat} {l:List SV} {i:TI} {x:SV} (h1:s.σ a=.ptr k off) (h2:s.h k=.box l) (h3:Γ t=some i) (h4:Oo i l off=some x):ResV Γ s (.cell a t) x
inductive ResVs(Γ:TypeId→Option TI)(s:SS):List ResultVar→List SV→Prop
 |nil:ResVs Γ s [] []
 |cons {r:ResultVar} {rs:List ResultVar} {x:SV} {xs:List SV} (h:ResV Γ s r x) (hs:ResVs Γ s rs xs):ResVs Γ s (r::rs) (x::xs)
def Aja:List SV→SV
 |[x]=>x
 |xs=>.tup xs
theorem A2o{F:Fr}{n:Nat}{κ:Ka}{a:Act}{w:World}{P:Program}{Γ:Ty P}(hs:St F n s κ a w){r:ResultVar}{x:SV}(h:ResV Γ.get s r x):∃v,(match r with| .tmp t=>(pure (a.tmps.getD t undef):Sem Value)| .cell b t=>do loadVar t (←asAddr (a.tmps.getD b undef))).run P w=.ok v w∧Rd κ w x v:=by
 cases h with
 | @tmp t=>exact⟨_,rfl,hs.slot t⟩
 | @cell b t k off l i x h1 h2 h3 h4=>
  have hp:=hs.slot b;have ho:=hs.obj k;rw[h2]at ho;obtain ⟨bb,e1,e2⟩:=ho.cellsAt;rw[h1]at hp;simp only[Rd,e1]at hp;obtain ⟨v,e3,e4⟩:=M8 (P:=P) Γ h3 e2 h4;rw[wH]at e3;refine⟨v,?_,e4⟩;simp only[hp,Sem.run_bind,asAddr,Sem.run_pure,Result.andThen_ok,e3]
theorem U9{F:Fr}{n:Nat}{κ:Ka}{a:Act}{w:World}{P:Program}{Γ:Ty P}(hs:St F n s κ a w){fn:Func}{rs:List ResultVar}(hf:fn.results=rs.toArray){xs:List SV}(h:ResVs Γ.get s rs xs):∃v,(results fn a.tmps).run P w=.ok v w∧Rd κ w (Aja xs) v:=by
 have key:∀(rs:List ResultVar) (xs:List SV),ResVs Γ.get s rs xs→∃vs:List Value,(rs.mapM (λ(r:ResultVar)=>match r with| .tmp t=>(pure (a.tmps.getD t undef):Sem Value)| .cell b t=>do loadVar t (←asAddr (a.tmps.getD b undef)))).run P w=.ok vs w∧RdL κ w xs vs:=by
  intro rs xs h
  induction h with
  |nil=>exact⟨[],by simp,by simp[RdL]⟩
  | @cons r rs x xs h xa ih=>
   obtain ⟨v,h1,h2⟩:=A2o (P:=P) (Γ:=Γ) hs h;obtain ⟨vs,h3,h4⟩:=ih;refine⟨v::vs,?_,by simp only[RdL];exact⟨v,vs,E,h2,h4⟩⟩;simp only[List.mapM_cons,Sem.run_bind,h1,Result.andThen_ok,h3,Sem.run_pure]
 obtain ⟨vs,h1,h2⟩:=key rs xs h;have au:(fn.results.mapM (λ(r:ResultVar)=>match r with| .tmp t=>(pure (a.tmps.getD t undef):Sem Value)| .cell b t=>do loadVar t (←asAddr (a.tmps.getD b undef)))).run P w=.ok vs.toArray w:=by
  rw[hf,Array.mapM_eq_mapM_toList];simp only[Sem.run_map,h1,Result.andThen_ok]
 refine⟨if h:vs.toArray.size=1 then vs.toArray[0] else .tuple vs.toArray,?_,?_⟩
 ·unfold results;rw[Sem.run_bind];change ((Sem.run P (fn.results.mapM (λ(r:ResultVar)=>match r with| .tmp t=>(pure (a.tmps.getD t undef):Sem Value)| .cell b t=>do loadVar t (←asAddr (a.tmps.getD b undef)))) w).andThen λq w'=>Sem.run P (pure (if h:q.size=1 then q[0] else Value.tuple q)) w')=_;rw[au];rfl
 ·have hlen:=h2.length
  match xs,hlen,h2 with
  |[],hlen,h2=>
   simp only[RdL]at h2;subst h2;simp[Aja,Rd,RdL]
  |[x],hlen,h2=>
   simp only[RdL]at h2;obtain ⟨v,r,rfl,h3,rfl⟩:=h2;simpa [Aja] using h3
  |x::y::xs,hlen,h2=>
   have af:vs.toArray.size≠1:=by simp at hlen⊢;omega
   rw[dif_neg af];simp only[Aja,Rd];exact⟨vs,E,h2⟩
def argσ(A:List SV):Nat→SV:=λi=>match Ih A i with|some x=>x|none=>.val undef
theorem RdL.getD{κ:Ka}{w:World}:∀{A:List SV} {vs:List Value} (m i:Nat),RdL κ w A vs→Rd κ w (argσ A i) ((vs++List.replicate m undef).getD i undef)
 |[],vs,m,i,h=>by
  simp only[RdL]at h;subst h;have:argσ [] i=.val undef:=by cases i<;>rfl
  rw[this];simp only[Rd,wP,wC,tH];split<;>rfl
 |x::A,vs,m,0,h=>by
  simp only[RdL]at h;obtain ⟨v,r,rfl,h1,h2⟩:=h;simpa [argσ,Ih] using h1
 |x::A,vs,m,i+1,h=>by
  simp only[RdL]at h;obtain ⟨v,r,rfl,h1,h2⟩:=h;have:=RdL.getD (i:=i) m h2;simpa [argσ,Ih] using this
def Xm(P:Program)(fn:Func)(F:Fr)(R:SV)(H':Obs):Exit→Act→World→Prop:=match F.ds with
 |[]=>bodyPost P fn λe w'=>∃v κ',e=.returned v∧Ctx F κ' w'∧Inv κ' w'∧Rd κ' w' R v∧H'.ok κ' w'
 |_=>λ_ _ _=>True
theorem At4{κ:Ka}{w:World}:∀{O:Obs} {i:Nat},(∀p∈O,ObOK κ w p.1 p.2)→(i∉O.map (·.1)→κ i=.new)→ObOK κ w i (mkh O i)
 |[],i,_,h=>h y_
 |(j,x)::r,i,h1,h2=>by
  simp only[mkh,uJ];split
  ·rename_i hb;have:=yJ hb;subst this;exact h1 (j,x) y_
  ·rename_i hb;exact At4 (λ p hp=>h1 p (by simp[hp])) (λ hi=>h2 (by
    simp only[xW,yH,uL];exact⟨λ e=>hb (by subst e;simp),hi⟩))
theorem Ayd{P:Program}(Γ:Ty P){f:FuncId}{fn:Func}{c:Code}{A:List SV}{H:Obs}{R:SV}{H':Obs}(hf:P.funcs[f]? = some fn)(hb:fn.body=some c){n:Nat}(mc:fn.ntmps=n)(hn:A.length≤n)(h:∀(F:Fr) (hF:∀k,F.k0 k≠.new→k∈H.keys),G ⟨P,Γ,F,n,Xm P fn F R H',H.keys,hF⟩ [.code c] ⟨argσ A,mkh H⟩):Spec P f A H R H':=by
 subst mc;intro κ w vs hi az hA hH;refine calls_of_wp hf hb ?_;have hlen:=hA.length;refine h ⟨w,κ,[]⟩ az κ _ w ⟨E,?_,hi,Ctx.refl κ w,?_,?_⟩
 ·simp;omega
 ·intro i;have:=hA.getD (fn.ntmps-vs.length) i;have he:(vs.toArray++Array.replicate (fn.ntmps-vs.length) undef)=(vs++List.replicate (fn.ntmps-vs.length) undef).toArray:=by simp
  show Rd κ w _ ((vs.toArray++Array.replicate (fn.ntmps-vs.toArray.size) undef).getD i undef);rw[uW,he];simpa using this
 ·intro k;exact At4 hH (λhk=>Classical.byContradiction λaf=>hk (az k af))
theorem Awn{P:Program}{fn:Func}{F:Fr}{R:SV}{H':Obs}{Γ:Ty P}{n:Nat}{bn:List Nat}{hbn:∀k,F.k0 k≠.new→k∈bn}{rs:List ResultVar}(hf:fn.results=rs.toArray){xs:List SV}(hx:ResVs Γ.get s rs xs)(ρ:List (Nat×Nat))(L:Obs)(hL:∀p∈H',p∈L)(hR:R.ren (Bg ρ)=Aja xs)(ot:R.inn L.keys=true)(a8:Sub ⟨P,Γ,F,n,Xm P fn F R H',bn,hbn⟩ s ρ [] L){κ:Ka}{a:Act}{w:World}(hs:St F n s κ a w):Xm P fn F R H' .ret a w∧Xm P fn F R H' .normal a w:=by
 obtain ⟨v,h1,h2⟩:=U9 (P:=P) (Γ:=Γ) hs hf hx;have br:=a8.st hs;have ku:Ren (Bg ρ) L.keys κ (Zw κ (Bg ρ) L.keys):=⟨λk hk=>Zv hk⟩
 rw[←hR]at h2;have h3:=Rd.unren ku (λb _=>Zu b) _ _ ot h2;have hO:H'.ok (Zw κ (Bg ρ) L.keys) w:=λp hp=>by
  have hpL:=hL p hp;have h1:=a8.objs;have key:∀O':Obs,(∀q∈O',q.1∈L.keys)→A1g ρ L.keys s O'→∀q∈O',ObOK (Zw κ (Bg ρ) L.keys) w q.1 q.2:=by
   intro O'
   induction O' with
   |nil=>intro _ _ q hq;cases hq
   |cons q r ih=>
    obtain ⟨j,x⟩:=q;intro hk hm q hq;simp only[A1g]at hm;rcases yH.1 hq with rfl|hq
    ·rcases hm.1 with h4|h4
     ·have h5:=hs.obj (Bg ρ j);rw[←h4]at h5;exact ObOK.unren ku (λb _=>Zu b) (hk (j,x) y_) hm.2.1 h5
     ·show ObOK _ _ j x;rw[h4];trivial
    ·exact ih (λq hq=>hk q (by simp[hq])) hm.2.2 q hq
  exact key L (λq hq=>yS.2 ⟨q,hq,E⟩) h1 p hpL
 have fx:∃v' κ',Ending.returned v=.returned v'∧Ctx F κ' w∧Inv κ' w∧Rd κ' w R v'∧H'.ok κ' w:=⟨v,_,rfl,br.ctx,br.inv,h3,hO⟩
 have h0:=hs.defers;unfold Xm;cases hd:F.ds with
 |nil=>
  rw[hd]at h0;exact⟨⟨h0,v,h1,fx⟩,⟨h0,v,h1,fx⟩⟩
 |cons=>exact⟨trivial,trivial⟩
theorem G_set(d:Nat){x:SV}(h:∀κ w v,Rd κ w (s.σ d) v→Rd κ w x v)(hg:G C k ⟨upd s.σ d x,s.h⟩):G C k s:=λκ a w hs=>
 hg κ a w ⟨hs.defers,hs.size,hs.inv,hs.ctx,λ i=>by
  show Rd κ w (upd s.σ d x i) _;by_cases hi:i=d
  ·subst hi;rw[B1];exact h κ w _ (hs.slot i)
  ·rw[Cy _ _ hi];exact hs.slot i,hs.obj⟩
theorem Aru(d:Nat){sz:Nat}{α:Type}{e:α→SV}{l:List α}{svs:List SV}(h:s.h d=.lit sz svs)(hl:l.map e=svs)(hg:G C k ⟨s.σ,upd s.h d (.row sz e l)⟩):G C k s:=λκ a w hs=>
 hg κ a w ⟨hs.defers,hs.size,hs.inv,hs.ctx,hs.slot,λ i=>by
  show ObOK κ w i (upd s.h d (.row sz e l) i);by_cases hi:i=d
  ·subst hi;rw[B1];have:=hs.obj i;rw[h]at this;obtain ⟨b,cap,cs,T,fr,e1,e2,e3,e4,e5,e6⟩:=this;have hlen:l.length=svs.length:=by rw[←hl];simp
   exact .inr ⟨b,cap,cs,T,fr,by rw[hlen];exact e1,e2,e3,e4,by omega,λi x hx=>by rw[hlen];exact e6 i x (Q5 hl i x hx)⟩
  ·rw[Cy _ _ hi];exact hs.obj i⟩
theorem Ce(i d sz:Nat){α:Type}(e:α→SV)(h:s.σ i=.val (.slice none 0 0))(hd:s.h d=.fresh)(hg:G C k ⟨upd s.σ i (.osl d),upd s.h d (.row sz e [])⟩):G C k s:=λκ a w hs=>by
 have az:κ d=.new:=by have:=hs.obj d;rwa [hd]at this
 obtain ⟨st,inv⟩:=Kl hs.inv az (e:=.nil) (Grew.refl w) (λb hb=>by cases hb);refine hg (Ei κ d .nil) a w ⟨hs.defers,hs.size,inv,hs.ctx.step inv st,λj=>?_,λj=>?_⟩
 ·show Rd _ w (upd s.σ i (.osl d) j) _;by_cases hj:j=i
  ·subst hj;rw[B1];have:=hs.slot j;rw[h]at this;simp[Rd,Ay,this.val]
  ·rw[Cy _ _ hj];exact Rd.step st _ _ (hs.slot j)
 ·show ObOK _ w j (upd s.h d (.row sz e []) j);by_cases hj:j=d
  ·subst hj;rw[B1];exact .inl ⟨Ay _ _ _,rfl⟩
  ·rw[Cy _ _ hj];exact ObOK.step st hj _ (hs.obj j)
def freezeσ(σ:Nat→SV)(x:SV):List Nat→Nat→SV
 |[]=>σ
 |i::r=>freezeσ (upd σ i x) x r
theorem RowAt.freeze{κ κ':Ka}{w:World}{d sz:Nat}{α:Type}{e:α→SV}{l:List α}(h:RowAt κ w d sz l.length (rowF e l)){v:Value}(hv:Rd κ w (.osl d) v)(ho:∀b,b<w.heap.size→¬Own κ b→¬Own κ' b)(hd:∀b,(κ d).block? = some b→b<w.heap.size∧¬Own κ' b):Rd κ' w (.sl sz e l) v:=by
 obtain ⟨b,cap,cs,T,fr,e1,e2,e3,e4,e5,e6⟩:=h;simp only[Rd,e1]at hv;obtain ⟨h1,h2⟩:=hd b (by rw[e1];rfl);simp only[Rd,RdD];refine .inr ⟨b,0,cap,hv,e5,h2,h1,λi hi=>?_⟩;obtain ⟨h0,u,u1,u2,u3,u4⟩:=e6 i (e l[i]) ⟨hi,rfl⟩;refine⟨u,RdD.keep ⟨yD _,λ_ _ _=>rfl,ho⟩ _ _ u1,u2,u3,λj hj=>?_⟩;rw[wH,cell_of_row w b _ cs.toArray T fr e2];simpa using u4 j hj
theorem freezeσ_ok{κ:Ka}{w:World}{a:Act}{x:SV}:∀(r:List Nat) (σ:Nat→SV) (i:Nat),Rd κ w (σ i) (a.tmps.getD i undef)→(i∈r→Rd κ w x (a.tmps.getD i undef))→Rd κ w (freezeσ σ x r i) (a.tmps.getD i undef)
 |[],σ,i,h,_=>h
 |j::r,σ,i,h,h'=>by
  refine freezeσ_ok r (upd σ j x) i ?_ (λhi=>h' (by simp[hi]));by_cases hj:i=j
  ·subst hj;rw[B1];exact h' y_
  ·rw[Cy _ _ hj];exact h
variable {C:Cx} {k:List KI} {s:SS}
structure Fun(P:Program)(f:FuncId)(fn:Func)(c:Code):Prop where
 has:P.funcs[f]? = some fn
 body:fn.body=some c
 name : (fn.name == "runtime.NumGoroutine") = false
theorem Mr{P:Program}{f:FuncId}{fn:Func}{c:Code}(h:Fun P f fn c)(args:Array Value)(w:World):(callFunc f args).run P w=.ok (.enter f args) w:=by
 have hn : ¬fn.name = "runtime.NumGoroutine" := by simpa using h.name
 simp[callFunc,h.has,hn,h.body]
theorem Spec.at{P:Program}{f:FuncId}{A:List SV}{H:Obs}{R:SV}{H':Obs}(h:Spec P f A H R H'){ρ:Nat→Nat}(ie:∀i∈H'.keys,∀j∈H'.keys,ρ i=ρ j→i=j)(pi:∀k∈H.keys,k∈H'.keys)(yn:B8 H.keys A=true)(hHn:∀p∈H,p.2.inn H.keys=true)(ot:R.inn H'.keys=true)(hHn':∀p∈H',p.2.inn H'.keys=true){κ:Ka}{w:World}{vs:List Value}(hi:Inv κ w)(hA:RdL κ w (Lt ρ A) vs)(hH:∀p∈H,ObOK κ w (ρ p.1) (p.2.ren ρ))(az:∀k∈H'.keys,k∉H.keys→κ (ρ k)=.new):Calls P f vs.toArray w λe w'=>∃v κ',e=.returned v∧Step (λn=>∃k∈H'.keys,ρ k=n) κ w κ' w'∧Inv κ' w'∧Rd κ' w' (R.ren ρ) v∧∀p∈H',ObOK κ' w' (ρ p.1) (p.2.ren ρ):=by
 let κc:Ka:=⟨λk=>if k∈H.keys then κ (ρ k) else .new,λb=>κ.M b∨∃n,(∀k∈H.keys,ρ k≠n)∧(κ n).block? = some b⟩
 have tq:∀k,k∈H.keys→κc k=κ (ρ k):=λk hk=>by simp[κc,hk]
 have lh:∀k,k∉H.keys→κc k=.new:=λk hk=>by simp[κc,hk]
 have rl:∀k b,(κc k).block? = some b→k∈H.keys∧(κ (ρ k)).block? = some b:=λk b hb=>by
  by_cases hk:k∈H.keys
  ·rw[tq k hk]at hb;exact⟨hk,hb⟩
  ·rw[lh k hk]at hb;cases hb
 have hic:Inv κc w:=by
  refine⟨λi j b h1 h2=>?_,λj b h1=>hi.bnd _ b (rl j b h1).2,λj b h1 hm=>?_,λb hm=>?_⟩
  ·obtain ⟨a1,a2⟩:=rl i b h1;obtain ⟨b1,b2⟩:=rl j b h2;exact ie i (pi i a1) j (pi j b1) (hi.inj _ _ b a2 b2)
  ·obtain ⟨a1,a2⟩:=rl j b h1;rcases hm with hm|⟨n,hn,hm⟩
   ·exact hi.apart _ b a2 hm
   ·exact hn j a1 (hi.inj _ _ b a2 hm)
  ·rcases hm with hm|⟨n,_,hm⟩
   ·exact hi.mbnd b hm
   ·exact hi.bnd n b hm
 have og:∀b,b<w.heap.size→¬Own κ b→¬Own κc b:=by
  rintro b _ hn (⟨j,hj⟩|(hm|⟨n,_,hm⟩))
  ·exact hn (.inl ⟨_,(rl j b hj).2⟩)
  ·exact hn (.inr hm)
  ·exact hn (.inl ⟨n,hm⟩)
 have ku:Ren ρ H.keys κ κc:=⟨λk hk=>tq k hk⟩
 have hA':RdL κc w A vs:=RdL.unren ku og A vs yn hA;have hH':Obs.ok κc w H:=λp hp=>ObOK.unren ku og (yS.2 ⟨p,hp,rfl⟩) (hHn p hp) (hH p hp)
 refine(h κc w vs hic (λj hj=>Classical.byContradiction λhn=>hj (lh j hn)) hA' hH').mono ?_;rintro e w' ⟨v,κd,rfl,bz,hid,hR,hO⟩
 let pick:Nat→Option Nat:=λn=>H'.keys.find? (λk=>decide (ρ k=n))
 let κ':Ka:=⟨λn=>match pick n with|some k=>κd k|none=>κ n,κ.M⟩
 have gu:∀k,k∈H'.keys→pick (ρ k)=some k:=λk hk=>by
  cases hf:pick (ρ k) with
  |none=>
   have:=List.find?_eq_none.1 hf k hk;simp at this
  |some j=>
   have h1:=List.find?_some hf;have h2:=List.mem_of_find?_eq_some hf;rw[ie j h2 k hk (zO h1)]
 have d8:∀n,(∀k∈H'.keys,ρ k≠n)→pick n=none:=λn hn=>List.find?_eq_none.2 (λk hk=>by simpa using hn k hk)
 have cw:∀k,k∈H'.keys→κ' (ρ k)=κd k:=λk hk=>by show (match pick (ρ k) with|some k=>κd k|none=>κ (ρ k))=κd k;rw[gu k hk]
 have cq:∀n,(∀k∈H'.keys,ρ k≠n)→κ' n=κ n:=λn hn=>by show (match pick n with|some k=>κd k|none=>κ n)=κ n;rw[d8 n hn]
 have da:∀n,(∃k∈H'.keys,ρ k=n)∨(∀k∈H'.keys,ρ k≠n):=λn=>by
  by_cases hn:∃k∈H'.keys,ρ k=n
  ·exact .inl hn
  ·exact .inr (λk hk e=>hn ⟨k,hk,e⟩)
 have hMd:κd.M=κc.M:=bz.M;have vp:∀b,b<w.heap.size→(∀j,(κc j).block? ≠ some b)→w'.heap[b]? = w.heap[b]?:=λb hb hn=>bz.old b hb hn
 have jj:∀j b,(κd j).block? = some b→w.heap.size≤b∨∃i∈H.keys,(κ (ρ i)).block? = some b:=λj b hj=>by
  rcases bz.own j b hj with h1|⟨i,h1⟩
  ·exact .inl h1
  ·exact .inr ⟨i,rl i b h1⟩
 have im:Step (λn=>∃k∈H'.keys,ρ k=n) κ w κ' w':=by
  refine⟨bz.size,bz.os,bz.tape,bz.output,E,λb hm=>?_,λb hb hn=>?_,λn b hn hb=>?_,λn hn=>cq n (λk hk e=>hn ⟨k,hk,e⟩),?_,?_⟩
  ·exact vp b (hi.mbnd b hm) (λj hj=>hi.apart _ b (rl j b hj).2 hm)
  ·exact vp b hb (λj hj=>hn (.inl ⟨_,(rl j b hj).2⟩))
  ·refine vp b (hi.bnd n b hb) (λj hj=>?_);obtain ⟨a1,a2⟩:=rl j b hj;exact hn ⟨j,pi j a1,hi.inj _ _ b a2 hb⟩
  ·rintro n ⟨j,hj,rfl⟩;rw[cw j hj];by_cases hjH:j∈H.keys
   ·by_cases ya:κ (ρ j)=.new
    ·exact .inl ya
    ·have:=bz.nam j (by show κc j≠.new;rw[tq j hjH];exact ya);rw[←tq j hjH];exact .inr this
   ·exact .inl (az j hj hjH)
  ·rintro b (⟨n,hn⟩|hn)
   ·rcases da n with ⟨j,hj,rfl⟩|af
    ·rw[cw j hj]at hn;rcases jj j b hn with h1|⟨i,_,h1⟩
     ·exact .inr h1
     ·exact .inl (.inl ⟨_,h1⟩)
    ·rw[cq n af]at hn;exact .inl (.inl ⟨n,hn⟩)
   ·exact .inl (.inr hn)
 have hinv:Inv κ' w':=by
  have mixed:∀j∈H'.keys,∀n,(∀k∈H'.keys,ρ k≠n)→∀b,(κd j).block? = some b→(κ n).block? = some b→False:=λj hj n hn b h1 h2=>by
   rcases jj j b h1 with h3|⟨i,hi',h3⟩
   ·have:=hi.bnd n b h2;omega
   ·exact hn i (pi i hi') (hi.inj _ _ b h3 h2)
  refine⟨λm n b h1 h2=>?_,λn b h1=>?_,λn b h1 hm=>?_,λb hm=>yW (hi.mbnd b hm) bz.size⟩
  ·rcases da m with ⟨i,hi',rfl⟩|hm<;>rcases da n with ⟨j,hj,rfl⟩|hn
   ·rw[cw i hi']at h1;rw[cw j hj]at h2;rw[hid.inj i j b h1 h2]
   ·rw[cw i hi']at h1;rw[cq n hn]at h2;exact(mixed i hi' n hn b h1 h2).elim
   ·rw[cq m hm]at h1;rw[cw j hj]at h2;exact(mixed j hj m hm b h2 h1).elim
   ·rw[cq m hm]at h1;rw[cq n hn]at h2;exact hi.inj m n b h1 h2
  ·rcases da n with ⟨j,hj,rfl⟩|hn
   ·rw[cw j hj]at h1;exact hid.bnd j b h1
   ·rw[cq n hn]at h1;exact yW (hi.bnd n b h1) bz.size
  ·rcases da n with ⟨j,hj,rfl⟩|hn
   ·rw[cw j hj]at h1;exact hid.apart j b h1 (by rw[hMd];exact .inl hm)
   ·rw[cq n hn]at h1;exact hi.apart n b h1 hm
 have ui:Ren ρ H'.keys κ' κd:=⟨λk hk=>(cw k hk).symm⟩
 have uj:∀b,b<w'.heap.size→¬Own κd b→¬Own κ' b:=by
  rintro b _ hn (⟨n,h1⟩|h1)
  ·rcases da n with ⟨j,hj,rfl⟩|af
   ·rw[cw j hj]at h1;exact hn (.inl ⟨j,h1⟩)
   ·rw[cq n af]at h1;exact hn (.inr (by rw[hMd];exact .inr ⟨n,λk hk=>af k (pi k hk),h1⟩))
  ·exact hn (.inr (by rw[hMd];exact .inl h1))
 exact⟨v,κ',E,im,hinv,Rd.ren ui uj R v ot hR,λp hp=>ObOK.ren ui uj (yS.2 ⟨p,hp,E⟩) (hHn' p hp) (hO p hp)⟩
def O1(A:List SV)(H:Obs)(R:SV)(H':Obs)(ρ:List (Nat×Nat)):Bool :=
 Xt ρ [] H'.keys&&Alr H.keys H'.keys&&B8 H.keys A&&(H.all λp=>p.2.inn H.keys)&&R.inn H'.keys&&(H'.all λp=>p.2.inn H'.keys)
def Adi(s:SS)(ρ:List (Nat×Nat))(K:List Nat):List Nat→Prop
 |[]=>True
 |k::r=>(Se K k=true∨s.h (Bg ρ k)=.fresh)∧Adi s ρ K r
def Aef(s:SS)(ρ:List (Nat×Nat)):Obs→Prop
 |[]=>True
 |(i,x)::r=>x.ren (Bg ρ)=s.h (Bg ρ i)∧Aef s ρ r
def Td(ρ:List (Nat×Nat)):Obs→Obs
 |[]=>[]
 |(i,x)::r=>(Bg ρ i,x.ren (Bg ρ))::Td ρ r
theorem Q8(ρ:List (Nat×Nat)):∀H:Obs,Td ρ H=H.map λp=>(Bg ρ p.1,p.2.ren (Bg ρ))
 |[]=>rfl
 |(i,x)::r=>by simp[Td,Q8 ρ r]
def Ud(P:Program)(o:Oper)(s:SS)(rd:List Nat)(f:FuncId)(B:List SV):Prop :=
 ∀(κ:Ka) (a:Act) (w:World),(∀x∈o.op.operands,Rd κ w (ev s x) (a.eval x))→(∀k∈rd,ObOK κ w k (s.h k))→∃vs:List Value,(execOp a.eval o).run P w=.ok (.enter f vs.toArray) w∧RdL κ w B vs
theorem Adz{P:Program}{o:Oper}{s:SS}{f:FuncId}{fn:Func}{c:Code}{xs:List Operand}{ts:Array TypeId}(h:o.op=.call ⟨.value (.func f),xs.toArray,ts⟩)(hf:Fun P f fn c):Ud P o s [] f (xs.map (ev s)) :=
 λκ a w hr _=>by
  refine⟨xs.map a.eval,?_,Qp xs (λx hx=>hr x (by simp[h,Op.operands,Call.operands,hx]))⟩;have:=Mr hf (xs.map a.eval).toArray w;simp[execOp,h,resolve,Act.eval,Deferred.ofValue,invoke]at this⊢;exact this
theorem Av{P:Program}{o:Oper}{s:SS}{f:FuncId}{fn:Func}{c:Code}{x:Operand}{xs:List Operand}{ts:Array TypeId}{first cap:List SV}(h:o.op=.call ⟨.value x,xs.toArray,ts⟩)(hx:ev s x=.clo (.func f) first cap)(hf:Fun P f fn c):Ud P o s [] f (first++xs.map (ev s)++cap) :=
 λκ a w hr _=>by
  have h1:=hr x (by simp[h,Op.operands,Call.operands]);rw[hx]at h1;simp only[Rd]at h1;obtain ⟨fs,cs,e1,e2,e3⟩:=h1;refine⟨fs++xs.map a.eval++cs,?_,RdL.append (RdL.append e2 (Qp xs (λy hy=>hr y (by simp[h,Op.operands,Call.operands,hy])))) e3⟩;have:=Mr hf (fs++xs.map a.eval++cs).toArray w;simp only[execOp,h,resolve,Deferred.ofValue,invoke,e1,Sem.run_bind,Sem.run_pure,Result.andThen_ok]at this⊢;rw[←this];simp
theorem Au{P:Program}{o:Oper}{s:SS}{f:FuncId}{rd:List Nat}{B:List SV}{A:List SV}{H:Obs}{R:SV}{H':Obs}(ρ:List (Nat×Nat))(hE:Ud P o s rd f B)(hs:Spec P f A H R H')(hA:Lt (Bg ρ) A=B)(hH:Aef s ρ H)(ax:O1 A H R H' ρ=true)(az:Adi s ρ H.keys H'.keys):Good P o s ⟨R.ren (Bg ρ),rd,Td ρ H'⟩:=by
 intro κ a w hi hr ho N Q hN;simp only[O1,zG,yV]at ax;obtain ⟨⟨⟨⟨⟨c1,c2⟩,c3⟩,c4⟩,c5⟩,c6⟩:=ax;obtain ⟨ie,_⟩:=Wp c1;have pi:∀k∈H.keys,k∈H'.keys:=λk hk=>by
  simp only[Alr,yV]at c2;exact memN_iff.1 (c2 k hk)
 have jq:∀k∈H'.keys,Bg ρ k∈(Up.mk (R.ren (Bg ρ)) rd (Td ρ H')).ws:=λk hk=>by
  obtain ⟨p,hp,rfl⟩:=yS.1 hk;simp only[Up.ws,Q8,List.map_map,yS];exact⟨p,hp,E⟩
 obtain ⟨vs,au,qy⟩:=hE κ a w hr (λk hk=>ho k (.inl hk));have jl:RdL κ w (Lt (Bg ρ) A) vs:=by rw[hA];exact qy
 have hHk:∀H0:Obs,(∀p∈H0,p∈H)→Aef s ρ H0→∀p∈H0,ObOK κ w (Bg ρ p.1) (p.2.ren (Bg ρ)):=by
  intro H0
  induction H0 with
  |nil=>intro _ _ p hp;cases hp
  |cons q r ih=>
   obtain ⟨i,x⟩:=q;intro a8 he p hp;simp only[Aef]at he;rcases yH.1 hp with rfl|hp
   ·have hk:i∈H.keys:=yS.2 ⟨(i,x),a8 _ y_,rfl⟩;rw[he.1];exact ho _ (.inr (jq i (pi i hk)))
   ·exact ih (λq hq=>a8 q (by simp[hq])) he.2 p hp
 have hnk:∀k∈H'.keys,k∉H.keys→κ (Bg ρ k)=.new:=by
  have key:∀K:List Nat,(∀k∈K,k∈H'.keys)→Adi s ρ H.keys K→∀k∈K,k∉H.keys→κ (Bg ρ k)=.new:=by
   intro K
   induction K with
   |nil=>intro _ _ k hk;cases hk
   |cons j r ih=>
    intro a8 hn k hk jw;simp only[Adi]at hn;rcases yH.1 hk with rfl|hk
    ·rcases hn.1 with h1|h1
     ·exact yB (memN_iff.1 h1) jw
     ·have:=ho _ (.inr (jq k (a8 k y_)));rw[h1]at this;exact this
    ·exact ih (λk hk=>a8 k (by simp[hk])) hn.2 k hk jw
  exact key _ (λ_ hk=>hk) az
 have dz:=hs.at (ρ:=Bg ρ) ie pi c3 (λp hp=>c4 p hp) c5 (λp hp=>c6 p hp) hi jl (hHk H (λ_ hp=>hp) hH) hnk;simp only[Oper.wp,au,Oper.upon];refine dz.mono ?_;rintro e w' ⟨v,κ',rfl,st,inv,hv,hO⟩;refine hN v κ' w' (st.weaken ?_) inv hv (λp hp=>?_)
 ·rintro n ⟨j,hj,rfl⟩;exact jq j hj
 ·simp only[Q8,yS]at hp;obtain ⟨q,hq,rfl⟩:=hp;exact hO q hq
def Jk(κ:Ka):List Nat→Ka
 |[]=>κ
 |n::V=>Jk (Ei κ n .dead) V
theorem Aw0(κ:Ka):∀V:List Nat,(Jk κ V).M=κ.M
 |[]=>rfl
 |n::V=>by rw[Jk,Aw0];rfl
theorem Jw{w:World}:∀(V:List Nat) (κ:Ka),Inv κ w→Step (·∈V) κ w (Jk κ V) w∧Inv (Jk κ V) w
 |[],κ,hi=>⟨Step.refl _ κ w,hi⟩
 |n::V,κ,hi=>by
  have h1:=J4 (κ:=κ) (w:=w) (some n);have h2:=Lz hi (some n);obtain ⟨h3,h4⟩:=Jw V (Ei κ n .dead) h2;exact⟨(h1.weaken (λj hj=>by simp only[Option.some.injEq]at hj;subst hj;simp)).trans (h3.weaken (λj hj=>by simp[hj])),h4⟩
theorem Agr(κ:Ka):∀(V:List Nat) (n:Nat),n∈V∨κ n=.dead→Jk κ V n=.dead
 |[],n,h=>h.resolve_left y_
 |m::V,n,h=>by
  rw[Jk];apply Agr;by_cases hm:n=m
  ·subst hm;right;exact Ay _ _ _
  ·rcases h with h|h
   ·left;simpa [hm] using h
   ·right;rw[Cd _ _ hm];exact h
theorem Agq(κ:Ka):∀(V:List Nat) (n:Nat),n∉V→Jk κ V n=κ n
 |[],n,_=>rfl
 |m::V,n,h=>by
  simp only[yH,uL]at h;rw[Jk,Agq _ V n h.2,Cd _ _ h.1]
theorem Aj9{κ:Ka}{w:World}(hi:Inv κ w){V:List Nat}{n b:Nat}(hn:n∈V)(hb:(κ n).block? = some b):¬Own (Jk κ V) b:=by
 rintro (⟨j,hj⟩|hj)
 ·by_cases hjV:j∈V
  ·rw[Agr κ V j (.inl hjV)]at hj;cases hj
  ·rw[Agq κ V j hjV]at hj;exact hjV (by rw[hi.inj j n b hj hb];exact hn)
 ·rw[Aw0]at hj;exact hi.apart n b hb hj
mutual
inductive Vw(s:SS)(V:List Nat):SV→SV→Prop
 |refl (x:SV):Vw s V x x
 |row {n sz:Nat} {α:Type} {e:α→SV} {l:List α} (h:s.h n=.row sz e l) (hn:Se V n=true):Vw s V (.osl n) (.sl sz e l)
 |lit {n sz:Nat} {α:Type} {e:α→SV} {l:List α} {svs:List SV} (h:s.h n=.lit sz svs) (hl:l.map e=svs) (hn:Se V n=true):Vw s V (.osl n) (.sl sz e l)
 |nil {sz:Nat} {α:Type} {e:α→SV}:Vw s V (.val (.slice none 0 0)) (.sl sz e [])
 |box {n sz o:Nat} {y:SV} {l:List SV} (h:s.h n=.box l) (hl:cellsOf y=l) (hc:(y.boxed&&y.data&&Nat.beq l.length sz)=true) (hn:Se V n=true):Vw s V (.ptr n o) (.ref sz y o)
 |agg {l m:List SV} (h:VwL s V l m):Vw s V (.agg l) (.agg m)
inductive VwL(s:SS)(V:List Nat):List SV→List SV→Prop
 |nil:VwL s V [] []
 |cons {x y:SV} {l m:List SV} (h:Vw s V x y) (hs:VwL s V l m):VwL s V (x::l) (y::m)
end
def Arf{κ κ':Ka}{w:World}{d sz:Nat}{l:List SV}{x:SV}(h:ObOK κ w d (.box l))(hl:cellsOf x=l)(hb:x.boxed=true)(bh:l.length=sz)(ho:∀b,b<w.heap.size→¬Own κ b→¬Own κ' b)(qz:∀b,(κ d).block? = some b→b<w.heap.size∧¬Own κ' b)(yo:x.data=true)(o:Nat)(v:Value)(hv:Rd κ w (.ptr d o) v):Rd κ' w (.ref sz x o) v:=by
 obtain ⟨b,cs,T,fr,e1,e2,e3,e4,e5⟩:=h;simp only[Rd,e1]at hv;obtain ⟨h1,h2⟩:=qz b (by rw[e1];rfl);rw[←hl]at e5;obtain ⟨u,f1,f2⟩:=Rd.of_cells hb e4 e5;simp only[Rd,RdD];refine⟨b,0,u,by rw[wH];exact hv,h2,h1,RdD.keep ⟨yD _,λ_ _ _=>rfl,ho⟩ _ _ (Rd.data _ _ yo f1),?_,by rw[f2];exact e4,λj hj=>?_⟩
 ·have:=e5.length;rw[←bh,←hl,←this,←f2];simp
 ·rw[wH,cell_of_row w b _ cs.toArray T fr e2,←f2]
def Axl{V:List Nat}{κ:Ka}{w:World}(hi:Inv κ w){n sz:Nat}{α:Type}{e:α→SV}{l:List α}(hn:n∈V)(h:(κ n=.nil∧l=[])∨RowAt κ w n sz l.length (rowF e l)){v:Value}(hv:Rd κ w (.osl n) v):Rd (Jk κ V) w (.sl sz e l) v:=by
 rcases h with ⟨h1,rfl⟩|h1
 ·simp only[Rd,h1]at hv;simp only[Rd,RdD];exact .inl ⟨by simp,none,0,hv⟩
 ·exact h1.freeze hv (Jw V κ hi).1.keeps.out (λb hb=>⟨hi.bnd n b hb,Aj9 hi hn hb⟩)
mutual
theorem Vw.rd{s:SS}{V:List Nat}{κ:Ka}{w:World}(hi:Inv κ w)(ho:∀n∈V,ObOK κ w n (s.h n)):∀{x y:SV} (_:Vw s V x y) {v:Value},Rd κ w x v→Rd (Jk κ V) w y v
 |_,_,.refl x,_,hv=>Rd.step (Jw V κ hi).1 _ _ hv
 |_,_,.row h hn,_,hv=>by
  have h1:=ho _ (memN_iff.1 hn);rw[h]at h1;exact Axl hi (memN_iff.1 hn) h1 hv
 |_,_,.lit (l:=l) h hl hn,_,hv=>by
  have h1:=ho _ (memN_iff.1 hn);rw[h]at h1;obtain ⟨b,cap,cs,T,fr,e1,e2,e3,e4,e5,e6⟩:=h1;refine Axl hi (memN_iff.1 hn) (.inr ?_) hv;have hlen:=zH List.length hl;simp only[xA]at hlen;exact⟨b,cap,cs,T,fr,by rw[hlen];exact e1,e2,e3,e4,by omega,λi x hx=>by rw[hlen];exact e6 i x (Q5 hl i x hx)⟩
 |_,_,.nil,_,hv=>by
  simp only[Rd,RdD];exact .inl ⟨by simp,none,0,hv.val⟩
 |_,_,.box h hl hc hn,_,hv=>by
  have h1:=ho _ (memN_iff.1 hn);rw[h]at h1;simp only[zG]at hc;exact Arf h1 hl hc.1.1 (yJ hc.2) (Jw V κ hi).1.keeps.out (λb hb=>⟨hi.bnd _ b hb,Aj9 hi (memN_iff.1 hn) hb⟩) hc.1.2 _ _ hv
 |_,_,.agg h,_,hv=>by
  simp only[Rd]at hv⊢;obtain ⟨cs,h1,h2,h3⟩:=hv;exact⟨cs,h1,h2,VwL.rd hi ho h h3⟩
theorem VwL.rd{s:SS}{V:List Nat}{κ:Ka}{w:World}(hi:Inv κ w)(ho:∀n∈V,ObOK κ w n (s.h n)):∀{l m:List SV} (_:VwL s V l m) {vs:List Value},RdL κ w l vs→RdL (Jk κ V) w m vs
 |_,_,.nil,_,hv=>by simpa [RdL] using hv
 |_,_,.cons h hs,_,hv=>by
  simp only[RdL]at hv⊢;obtain ⟨v,r,h1,h2,h3⟩:=hv;exact⟨v,r,h1,Vw.rd hi ho h h2,VwL.rd hi ho hs h3⟩
end
def A5l(ρ:List (Nat×Nat))(K V:List Nat):Bool:=K.all λk=>!(Se V (Bg ρ k))
def L3{P:Program}{o:Oper}{s:SS}{f:FuncId}{B:List SV}{A:List SV}{H:Obs}{R:SV}{H':Obs}(ρ:List (Nat×Nat))(V:List Nat)(hE:Ud P o s [] f B)(hs:Spec P f A H R H')(hA:VwL s V B (Lt (Bg ρ) A))(hH:Aef s ρ H)(ax:O1 A H R H' ρ=true)(az:Adi s ρ H.keys H'.keys)(hV:A5l ρ H'.keys V=true):Good P o s ⟨R.ren (Bg ρ),[],V.map (λn=>(n,.non))++Td ρ H'⟩:=by
 intro κ a w hi hr ho N Q hN;simp only[O1,zG,yV]at ax;obtain ⟨⟨⟨⟨⟨c1,c2⟩,c3⟩,c4⟩,c5⟩,c6⟩:=ax;obtain ⟨ie,_⟩:=Wp c1;have pi:∀k∈H.keys,k∈H'.keys:=λk hk=>by
  simp only[Alr,yV]at c2;exact memN_iff.1 (c2 k hk)
 have hVa:∀k∈H'.keys,Bg ρ k∉V:=λk hk hm=>by
  simp only[A5l,yV]at hV;have:=hV k hk;rw[memN_iff.2 hm]at this;cases this
 have vq:∀k∈H'.keys,Bg ρ k∈(Up.mk (R.ren (Bg ρ)) [] (V.map (λn=>(n,Ob.non))++Td ρ H')).ws:=λk hk=>by
  obtain ⟨p,hp,rfl⟩:=yS.1 hk;simp only[Up.ws,Q8,wZ,List.map_map,yL,yS];exact .inr ⟨p,hp,E⟩
 have yp:∀n∈V,n∈(Up.mk (R.ren (Bg ρ)) [] (V.map (λn=>(n,Ob.non))++Td ρ H')).ws:=λn hn=>by
  simp only[Up.ws,wZ,List.map_map,yL,yS];exact .inl ⟨n,hn,E⟩
 have hoV:∀n∈V,ObOK κ w n (s.h n):=λn hn=>ho n (.inr (yp n hn))
 obtain ⟨st0,inv0⟩:=Jw V κ hi;obtain ⟨vs,au,qy⟩:=hE κ a w hr (λk hk=>by cases hk);have jl:RdL (Jk κ V) w (Lt (Bg ρ) A) vs:=hA.rd hi hoV qy;have hHk:∀H0:Obs,(∀p∈H0,p∈H)→Aef s ρ H0→∀p∈H0,ObOK (Jk κ V) w (Bg ρ p.1) (p.2.ren (Bg ρ)):=by
  intro H0
  induction H0 with
  |nil=>intro _ _ p hp;cases hp
  |cons q r ih=>
   obtain ⟨i,x⟩:=q;intro a8 he p hp;simp only[Aef]at he;rcases yH.1 hp with rfl|hp
   ·have hk:i∈H.keys:=yS.2 ⟨(i,x),a8 _ y_,rfl⟩;rw[he.1];exact ObOK.step st0 (hVa i (pi i hk)) _ (ho _ (.inr (vq i (pi i hk))))
   ·exact ih (λq hq=>a8 q (by simp[hq])) he.2 p hp
 have hnk:∀k∈H'.keys,k∉H.keys→(Jk κ V) (Bg ρ k)=.new:=by
  have key:∀K:List Nat,(∀k∈K,k∈H'.keys)→Adi s ρ H.keys K→∀k∈K,k∉H.keys→(Jk κ V) (Bg ρ k)=.new:=by
   intro K
   induction K with
   |nil=>intro _ _ k hk;cases hk
   |cons j r ih=>
    intro a8 hn k hk jw;simp only[Adi]at hn;rcases yH.1 hk with rfl|hk
    ·rcases hn.1 with h1|h1
     ·exact yB (memN_iff.1 h1) jw
     ·have:=ho _ (.inr (vq k (a8 k y_)));rw[h1]at this;rw[Agq κ V _ (hVa k (a8 k y_))];exact this
    ·exact ih (λk hk=>a8 k (by simp[hk])) hn.2 k hk jw
  exact key _ (λ_ hk=>hk) az
 have dz:=hs.at (ρ:=Bg ρ) ie pi c3 (λp hp=>c4 p hp) c5 (λp hp=>c6 p hp) inv0 jl (hHk H (λ_ hp=>hp) hH) hnk;simp only[Oper.wp,au,Oper.upon];refine dz.mono ?_;rintro e w' ⟨v,κ',rfl,st,inv,hv,hO⟩;refine hN v κ' w' ((st0.weaken yp).trans (st.weaken ?_)) inv hv (λp hp=>?_)
 ·rintro n ⟨j,hj,rfl⟩;exact vq j hj
 ·rcases yL.1 hp with hp|hp
  ·obtain ⟨n,_,rfl⟩:=yS.1 hp;trivial
  ·simp only[Q8,yS]at hp;obtain ⟨q,hq,rfl⟩:=hp;exact hO q hq
mutual
def SV.plain:SV→Bool
 | .top=>true
 | .val _=>true
 | .agg l=>Af8 l
 | .tup l=>Af8 l
 |_=>false
def Af8:List SV→Bool
 |[]=>true
 |x::l=>x.plain&&Af8 l
end
mutual
theorem Rd.plain{κ κ':Ka}{w w':World}:∀(x:SV) (v:Value),x.plain=true→Rd κ w x v→Rd κ' w' x v
 | .top,_,_,_=>by simp[Rd]
 | .val u,v,_,h=>by simpa [Rd] using h
 | .agg l,v,hp,h=>by
  simp only[Rd,SV.plain]at h hp⊢;obtain ⟨cs,h1,h0,h2⟩:=h;exact⟨cs,h1,h0,RdL.plain l cs hp h2⟩
 | .tup l,v,hp,h=>by
  simp only[Rd,SV.plain]at h hp⊢;obtain ⟨cs,h1,h2⟩:=h;exact⟨cs,h1,RdL.plain l cs hp h2⟩
 | .sl _ _ _,_,hp,_=>by simp[SV.plain]at hp
 | .ref _ _ _,_,hp,_=>by simp[SV.plain]at hp
 | .ptr _ _,_,hp,_=>by simp[SV.plain]at hp
 | .rpt _ _ _ _,_,hp,_=>by simp[SV.plain]at hp
 | .osl _,_,hp,_=>by simp[SV.plain]at hp
 | .ifc _ _,_,hp,_=>by simp[SV.plain]at hp
 | .clo _ _ _,_,hp,_=>by simp[SV.plain]at hp
theorem RdL.plain{κ κ':Ka}{w w':World}:∀(l:List SV) (vs:List Value),Af8 l=true→RdL κ w l vs→RdL κ' w' l vs
 |[],_,_,h=>by simpa [RdL] using h
 |x::l,vs,hp,h=>by
  simp only[RdL,Af8,zG]at h hp⊢;obtain ⟨v,r,h1,h2,h3⟩:=h;exact⟨v,r,h1,Rd.plain x v hp.1 h2,RdL.plain l r hp.2 h3⟩
end
mutual
theorem Bd:∀x:SV,x.ren id=x
 | .ptr _ _=>rfl
 | .rpt _ _ _ _=>rfl
 | .osl _=>rfl
 | .agg l=>by simp only[SV.ren,Jr l]
 | .tup l=>by simp only[SV.ren,Jr l]
 | .ifc t x=>by simp only[SV.ren,Bd x]
 | .clo fn f l=>by simp only[SV.ren,Jr f,Jr l]
 | .top=>rfl
 | .val _=>rfl
 | .sl _ _ _=>rfl
 | .ref _ _ _=>rfl
theorem Jr:∀l:List SV,Lt id l=l
 |[]=>rfl
 |x::l=>by simp only[Lt,Bd x,Jr l]
end
def Ho{P:Program}{o:Oper}{s:SS}{f:FuncId}{rd:List Nat}{B:List SV}{A:List SV}{R:SV}(V:List Nat)(hE:Ud P o s rd f B)(hs:Spec P f A [] R [])(hA:VwL s V B A)(yn:B8 [] A=true)(hR:R.plain=true):Good P o s ⟨R,V++rd,[]⟩:=by
 intro κ a w hi hr ho N Q hN;have hoV:∀n∈V,ObOK κ w n (s.h n):=λn hn=>ho n (.inl (by simp[hn]))
 obtain ⟨st0,inv0⟩:=Jw V κ hi;obtain ⟨vs,au,qy⟩:=hE κ a w hr (λk hk=>ho k (.inl (by simp[hk])));have jl:RdL (Jk κ V) w A vs:=hA.rd hi hoV qy
 let κc:Ka:=⟨λ_=>.new,Own (Jk κ V)⟩
 have hic:Inv κc w:=by
  refine⟨λi j b h1 _=>?_,λj b h1=>?_,λj b h1=>?_,λb hb=>?_⟩
  ·cases h1
  ·cases h1
  ·cases h1
  ·rcases hb with ⟨j,hj⟩|hj
   ·exact inv0.bnd j b hj
   ·exact inv0.mbnd b hj
 have og:∀b,b<w.heap.size→¬Own (Jk κ V) b→¬Own κc b:=by
  rintro b _ hn (⟨j,hj⟩|hj)
  ·cases hj
  ·exact hn hj
 have hA':RdL κc w A vs:=RdL.unren (ρ:=id) (K:=[]) (κ:=Jk κ V) ⟨λk hk=>by cases hk⟩ og A _ yn (by rw[Jr];exact jl);have dz:=hs κc w _ hic (λj hj=>yB rfl hj) hA' (λp hp=>by cases hp);simp only[Oper.wp,au,Oper.upon];refine dz.mono ?_;rintro e w' ⟨v,κ',rfl,bz,inv,hv,_⟩;have df:∀b,b<w.heap.size→w'.heap[b]? = w.heap[b]?:=λb hb=>bz.old b hb (λj hj=>by cases hj)
 refine hN v κ w' ⟨bz.size,bz.os,bz.tape,bz.output,E,λb hb=>df b (hi.mbnd b hb),λb hb _=>df b hb,λj b _ hb=>df b (hi.bnd j b hb),λ_ _=>rfl,λ_ _=>.inr (.inl E),λ_ hb=>.inl hb⟩
  ⟨hi.inj,λj b hb=>yW (hi.bnd j b hb) bz.size,hi.apart,λb hb=>yW (hi.mbnd b hb) bz.size⟩ (Rd.plain _ _ hR hv) (λp hp=>by cases hp)
def Ad{P:Program}{o:Oper}{s:SS}{f:FuncId}{fn:Func}{c:Code}{xs:List Operand}{ts:Array TypeId}{A:List SV}{H:Obs}{R:SV}{H':Obs}(ρ:List (Nat×Nat))(h:o.op=.call ⟨.value (.func f),xs.toArray,ts⟩)(hf:Fun P f fn c)(hs:Spec P f A H R H')(hA:Lt (Bg ρ) A=xs.map (ev s))(hH:Aef s ρ H)(ax:O1 A H R H' ρ=true)(az:Adi s ρ H.keys H'.keys):Good P o s ⟨R.ren (Bg ρ),[],Td ρ H'⟩ :=
 Au ρ (Adz h hf) hs hA hH ax az
def Iy{P:Program}{o:Oper}{s:SS}{f:FuncId}{fn:Func}{c:Code}{xs:List Operand}{ts:Array TypeId}{A:List SV}{R:SV}(V:List Nat)(h:o.op=.call ⟨.value (.func f),xs.toArray,ts⟩)(hf:Fun P f fn c)(hs:Spec P f A [] R [])(hA:VwL s V (xs.map (ev s)) A)(yn:B8 [] A=true)(hR:R.plain=true):Good P o s ⟨R,V,[]⟩ :=
 by simpa using Ho V (Adz h hf) hs hA yn hR
end Go.Sy
