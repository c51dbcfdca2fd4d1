/- Parts of a proof. -/
import Derived.Test.YtodbnbfjhjcanaaGreatDoorXB1
import Derived.Deep.LoopGhost
set_option linter.all false
namespace Go.Sy
def Agv(off:Nat):∀(vs:List Value) (n:Nat) (cs:Array Value),off+n+vs.length<=cs.size ->
  ((vs.zipIdx n).foldl (λ(cs:Array Value) (p:Value×Nat)=>cs.setIfInBounds (off+p.2) p.1) cs).toList=setV cs.toList (off+n) vs
 |[],n,cs,_=>by cases h:cs.toList<;>simp[setV,h]
 |v::vs,n,cs,h=>by
  simp only[List.zipIdx_cons,vP];rw[Agv off vs (n+1) _ (by simp at h|-;omega)];simp only[Array.toList_setIfInBounds];rw[Qx _ _ _ (by simp at h|-;omega),Qx _ _ _ (by simp at h|-;omega)];have:=list_seg_step cs.toList (off+n) v vs (by simp at h|-;omega);simpa [uG] using this
def Agw(v:Value)(off:Nat)(cs:Array Value)(h:off+v.cells.size<=cs.size):(v.cells.zipIdx.foldl (λcs (c,j)=>cs.setIfInBounds (off+j) c) cs).toList=setV cs.toList off v.cells.toList:=by
 have:=Agv off v.cells.toList 0 cs (kS h);rw[Nat.add_zero]at this;rw[<-this,<-Array.foldl_toList,Array.toList_zipIdx]
def Adb(gk:List (Nat×Nat)):List SV->List (Nat×SV)->Option (List SV)
 |cells,[]=>some cells
 |cells,(i,v)::r=>
  match gk[i]? with
  |none=>none
  |some (off,size)=>bif Nat.beq (cellsOf v).length size&&Nat.ble (off+size) cells.length&&v.boxed then Adb gk (setAt cells off (cellsOf v)) r else none
def Ai9{κ:Ka}{w:World}{s:SS}{a:Act}{gk:List (Nat×Nat)}:∀(ps:List (Nat×Operand)) (cells out:List SV) (cs:Array Value),RdL κ w cells cs.toList->Ones cs.toList->(∀p∈ps,Rd κ w (ev s p.2) (a.eval p.2)) ->
  Adb gk cells (ps.map λp=>(p.1,ev s p.2))=some out->∃r:Array Value,Instr.fill (λi=>gk[i]?) cs (ps.map λp=>(p.1,a.eval p.2))=some r/\RdL κ w out r.toList/\Ones r.toList
 |[],cells,out,cs,h,h1,_,hf=>by
  simp only[uA,Adb,Option.some.injEq]at hf;subst hf;exact⟨cs,by simp[Instr.fill],h,h1⟩
 |(i,x)::ps,cells,out,cs,h,h1,hr,hf=>by
  simp only[xV,Adb]at hf;cases hp:gk[i]? with
  |none=>rw[hp]at hf;cases hf
  |some os=>
   obtain ⟨off,size⟩:=os;rw[hp]at hf;simp only[uP]at hf;split at hf
   .rename_i hc;simp only[zG]at hc;obtain ⟨⟨c1,c2⟩,c3⟩:=hc;have c1:=yK c1;have c2:=wC c2;have hx:=(hr (i,x) y_).cells c3;have hlen:=hx.2.length;have gz:=h.length;have bg:(a.eval x).cells.size=size:=by rw[<-c1,<-hlen];simp
    have o9:off+(a.eval x).cells.size<=cs.size:=by rw[bg];simp at gz;omega
    have i7:=Agw (a.eval x) off cs o9;obtain ⟨r,r1,r2,r3⟩:=Ai9 ps _ out _ (by rw[i7];exact h.setAt off hx.2) (by rw[i7];exact h1.setV off hx.1) (λp hp=>hr p (by simp[hp])) hf;refine⟨r,?_,r2,r3⟩;simp only[xV,Instr.fill,hp];rw[zD]
    .exact r1
    .simp only[yO,zJ,uF];exact⟨kS bg,by omega⟩
   .cases hf
def Aba{P:Program}(w:World):∀(fs:List Field) (r:List (Nat×Nat)),Ij P fs r->(fs.mapM (λf=>do pure (f.offset,<-sizeOf f.type)):Sem (List (Nat×Nat))).run P w=.ok r w
 |[],[],_=>by simp
 |[],_::_,h=>by simp[Ij]at h
 |_::_,[],h=>by simp[Ij]at h
 |f::fs,(o,n)::r,h=>by
  simp only[Ij]at h;have ih:=Aba w fs r h.2.2;obtain ⟨ix,h4,h5⟩:∃ix,P.info? f.type=some ix/\ix.size=n:=by
   have h3:=h.2.1;cases hh:P.info? f.type with
   |none=>rw[hh]at h3;cases h3
   |some ix=>rw[hh]at h3;exact⟨ix,rfl,kS h3⟩
  simp only[List.mapM_cons,Sem.run_bind,sizeOf,typeInfo,run_program,Result.andThen_ok,h4,Sem.run_pure,h5,h.1]at ih|-;rw[ih];simp
def Aro{P:Program}(Γ:Ty P){o:Oper}{s:SS}{t:TypeId}{ti:TI}{fs:List (Nat×Nat)}{ps:List (Nat×Operand)}{out:List SV}(h:o.op=.build t ps.toArray)(ht:Γ.get t=some ti)(hk:ti.k=.struct fs)(h1:nC ti.zero=true)(hf:Adb fs (ti.zero.map .val) (ps.map λp=>(p.1,ev s p.2))=some out):Good P o s ⟨.agg out,[],[]⟩ :=
 Good.pure λb a w _ hr _=>by
  obtain ⟨d,info,z,k1,k2,k3,k4,k5,k6⟩:=Γ.ok t ti ht;rw[hk]at k2;simp only[TK.ok]at k2;obtain ⟨fa,rfl,k2⟩:=k2;have hops:∀ p∈ps,Rd b w (ev s p.2) (a.eval p.2):=λ p hp=>hr p.2 (by
   simp only[h,Op.operands];simp only[List.mem_toArray,yS];exact⟨p,hp,E⟩)
  obtain ⟨r,r1,r2,r3⟩:=Ai9 (κ:=b) (w:=w) (a:=a) ps _ out z.cells (by rw[k6];exact eD _) (by rw[k6];exact We h1) hops hf;have ay:(fa.mapM (λf=>do pure (f.offset,<-sizeOf f.type)):Sem (Array (Nat×Nat))).run P w=.ok fs.toArray w:=by
   rw[Array.mapM_eq_mapM_toList];simp only[Sem.run_map,Aba w _ _ k2,Result.andThen_ok]
  refine⟨.agg r,?_,?_⟩
  .have hfun:(λ(i:Nat)=>fs.toArray[i]?)=(λ(i:Nat)=>fs[i]?):=by funext i;simp
   simp only[execOp,h,Sem.run_bind,Instr.build,zeroValue,typeInfo,run_program,Result.andThen_ok,k3,k5,Sem.run_pure,run_underlying k1,ay,hfun,List.map_toArray];rw[r1];simp
  .simp only[Rd];exact⟨r.toList,by simp,r3,r2⟩
def Ot:Nat->List (Nat×Operand)->Option (List Operand)
 |_,[]=>some []
 |k,(i,x)::r=>bif Nat.beq i k then (Ot (k+1) r).map (x::·) else none
def lQ:∀(ps:List (Nat×Operand)) (k:Nat) (xs:List Operand),Ot k ps=some xs->ps=(xs.zipIdx k).map λp=>(p.2,p.1)
 |[],k,xs,h=>by simp only[Ot,Option.some.injEq]at h;subst h;rfl
 |(i,x)::r,k,xs,h=>by
  simp only[Ot,uP]at h;split at h
  .rename_i hb;have:=yK hb;subst this;cases hs:Ot (i+1) r with
   |none=>rw[hs]at h;cases h
   |some ys=>
    rw[hs]at h;simp only[uL,Option.some.injEq]at h;subst h;simp[List.zipIdx_cons,lQ r _ ys hs]
  .cases h
def Ana(sz:Nat):∀(vs:List Value) (k:Nat) (cs:Array Value),cs.size=(k+vs.length)*sz->(∀v∈vs,v.cells.size=sz) ->
  ∃r:Array Value,Instr.fill (λi=>some (i*sz,sz)) cs ((vs.zipIdx k).map λp=>(p.2,p.1))=some r/\r.toList=cs.toList.take (k*sz)++vs.flatMap (·.cells.toList)
 | [],k,cs,h,_=>⟨cs,by simp[Instr.fill],by
   simp only[List.flatMap_nil,xD];rw[xI];simp[h]⟩
 |v::vs,k,cs,h,hv=>by
  have bg:=hv v y_;have e1:(k+(v::vs).length)*sz=k*sz+sz+vs.length*sz:=by
   simp only[yM,xK,wO];omega
  have o9:k*sz+v.cells.size<=cs.size:=by rw[h,e1,bg];omega
  have i7:=Agw v (k*sz) cs o9;have zc:(v.cells.zipIdx.foldl (λcs (c,j)=>cs.setIfInBounds (k*sz+j) c) cs).size=cs.size:=by
   rw[<-wY,i7,Cm,wY]
  obtain ⟨r,r1,r2⟩:=Ana sz vs (k+1) (v.cells.zipIdx.foldl (λ cs (c,j)=>cs.setIfInBounds (k * sz+j) c) cs) (by
   rw[zc,h,e1];simp only[xK,wO]) (λ u hu=>hv u (by simp[hu]))
  refine⟨r,?_,?_⟩
  .simp only[List.zipIdx_cons,xV,Instr.fill];rw[zD]
   .exact r1
   .simp only[yO,zJ,uF];exact⟨kS bg,by omega⟩
  .rw[r2,i7,Qx _ _ _ (kS o9)];have:(k+1)*sz=(cs.toList.take (k*sz)++v.cells.toList).length:=by
    rw[zQ,zY,wY,wY,bg,xK,wO];omega
   rw[this,vD y_,xI (yE _),vV,xF]
def Am9{sz:Nat}:∀(vs:List Value) (i j:Nat),(∀v∈vs,v.cells.size=sz)->j<sz->∀u,vs[i]? = some u->(vs.flatMap (·.cells.toList))[i*sz+j]? = u.cells[j]?
 |[],i,j,_,_,u,h=>by simp at h
 |v::vs,0,j,hv,hj,u,h=>by
  simp only[tN,Option.some.injEq]at h;subst h;have:=hv v y_;rw[vV,Nat.zero_mul,wF,xW (by simpa [this] using hj)];simp
 |v::vs,i+1,j,hv,hj,u,h=>by
  have h0:=hv v y_;rw[vV,wH (by simp only[wY,h0,xK,wO];omega)];have:=Am9 vs i j (λx hx=>hv x (by simp[hx])) hj u (kS h);rw[<-this];congr 1;simp only[wY,h0,xK,wO];omega
def Af7(sz:Nat):List SV->Bool
 |[]=>true
 |x::l=>x.boxed&&x.data&&Nat.beq (cellsOf x).length sz&&Af7 sz l
def fL{sz:Nat}:∀{l:List SV} {i:Nat} {x:SV},Af7 sz l=true->Iu l i=some x->x.boxed=true/\x.data=true/\(cellsOf x).length=sz
 |[],i,x,_,h=>by cases i<;>simp[Iu]at h
 |y::l,0,x,h,h'=>by
  simp only[Af7,zG]at h;simp only[Iu,Option.some.injEq]at h';subst h';exact⟨h.1.1.1,h.1.1.2,yK h.1.2⟩
 |y::l,i+1,x,h,h'=>by
  simp only[Af7,zG]at h;exact fL h.2 h'
def Aaj{k:Type 1}:∀{l:List k} {i:Nat} {x:k},Iu l i=some x->i<l.length
 |[],i,x,h=>by cases i<;>simp[Iu]at h
 |_::l,0,x,_=>by simp
 |_::l,i+1,x,h=>by have:=Aaj (l:=l) (i:=i) h;simp;omega
def Wv{k:Type 1}:∀{l:List k} {i:Nat},i<l.length->∃x,Iu l i=some x
 |[],i,h=>by simp at h
 |x::l,0,_=>⟨x,rfl⟩
 |_::l,i+1,h=>Wv (l:=l) (kS h)
def oX{P:Program}(Γ:Ty P){o:Oper}{s:SS}{t:TypeId}{ti:TI}{et:TypeId}{sz eb len:Nat}{ez:List Value}{ps:List (Nat×Operand)}{xs:List Operand}{d:Nat}(h:o.op=.buildSlice t len ps.toArray)(hd:s.h d=.fresh)(ht:Γ.get t=some ti)(hk:ti.k=.slice et sz eb ez)(hq:Ot 0 ps=some xs)(hlen:xs.length=len)(hbig:len*sz<=16777216)(aq:Af7 sz (xs.map (ev s))=true):Good P o s ⟨.osl d,[],[(d,.lit sz (xs.map (ev s)))]⟩ :=
 cS hd λc a w hi hr _ hn=>by
  have ov:=lQ ps 0 xs hq;obtain ⟨hu,i,z,q1,q2,q3,q4,q5⟩:=Cu Γ ht hk;have hops:∀ x∈xs,Rd c w (ev s x) (a.eval x):=λ x hx=>hr x (by
   simp only[h,Op.operands,ov];simp only[List.mem_toArray,yS];obtain ⟨j,hj,rfl⟩:=yY.1 hx;exact⟨(j,xs[j]),⟨(xs[j],j),by rw[tK];simp[hj],E⟩,E⟩)
  have v7:RdL c w (xs.map (ev s)) (xs.map a.eval):=Sa xs hops;have uz:∀j x,Iu (xs.map (ev s)) j=some x->∃v,(xs.map a.eval)[j]? = some v/\Rd c w x v/\v.cells.size=sz/\Ones v.cells.toList:=λj x hj=>by
   obtain ⟨v,h1,h2⟩:=v7.get hj;obtain ⟨c1,c2,c3⟩:=fL aq hj;obtain ⟨e1,e2⟩:=h2.cells c1;exact⟨v,h1,h2,by rw[<-c3,<-e2.length];simp,e1⟩
  have m4:∀v∈xs.map a.eval,v.cells.size=sz:=λv hv=>by
   obtain ⟨j,hj,rfl⟩:=yY.1 hv;obtain ⟨x,hx⟩:=Wv (l:=xs.map (ev s)) (i:=j) (kS hj);obtain ⟨v',h1,_,h2,_⟩:=uz j x hx;rw[zR hj]at h1;simp only[Option.some.injEq]at h1;rw[h1];exact h2
  generalize bw:(Array.range (len*sz)).map ((if len*sz=0 then #[] else z.cells)[·%(if len*sz=0 then #[] else z.cells).size]!)=z0;have hz0s:z0.size=(0+(xs.map a.eval).length)*sz:=by rw[<-bw];simp[hlen]
  obtain ⟨r,r1,r2⟩:=Ana sz (xs.map a.eval) 0 z0 hz0s m4;have jl:r.toList=(xs.map a.eval).flatMap (·.cells.toList):=by rw[r2];simp
  refine⟨.slice (some ⟨w.heap.size,0,none⟩) len len,w.alloc (.cells r et),.row w.heap.size len len,?_,Grew.alloc w _,?_,?_⟩
  .have hp:(ps.toArray.map λ(p:Nat×Operand)=>(p.1,a.eval p.2)).toList=((xs.map a.eval).zipIdx 0).map λp=>(p.2,p.1):=by
    rw[ov];simp only[List.map_toArray,List.map_map,List.zipIdx_map];rfl
   have zd:¬(16777216<len*sz):=by omega
   simp only[execOp,h,Sem.run_bind,Instr.buildSlice,run_underlying hu,Result.andThen_ok,sizeOf,typeInfo,run_program,q1,Sem.run_pure,q2];rw[zD (kS zd)];by_cases h0:len*sz=0
   .rw[zE h0];simp only[zE h0]at bw;simp only[Sem.run_bind,Sem.run_pure,Result.andThen_ok,bw,hp,r1,newRow,run_newObj];rfl
   .rw[zD h0];simp only[zD h0]at bw;simp only[Sem.run_bind,zeroValue,typeInfo,run_program,Result.andThen_ok,q1,Sem.run_pure,q4,bw,hp,r1,newRow,run_newObj];rfl
  .intro b hb;simp only[Ent.block?,Option.some.injEq]at hb;subst hb;simp
  .intro st;refine⟨by simp[Rd,Ay],w.heap.size,len,r.toList,et,(0,0),by simp[Ay,hlen],?_,NoFr.zero _,?_,by simp[hlen],?_⟩
   .rw[heap_alloc_new]
   .have:=r2;have h9:r.toList.length=len*sz:=by
     rw[jl];have:∀vs:List Value,(∀v∈vs,v.cells.size=sz)->(vs.flatMap (·.cells.toList)).length=vs.length*sz:=by
      intro vs
      induction vs with
      |nil=>simp
      |cons v vs ih=>
       intro hv;rw[vV,zQ,ih (λu hu=>hv u (by simp[hu])),wY,hv v y_,yM,xK,wO];omega
     rw[this _ m4];simp[hlen]
    omega
   .intro j x hx;obtain ⟨v,h1,h2,h3,h4⟩:=uz j x hx;have hj:j<xs.length:=by have:=Aaj hx;simpa using this
    obtain ⟨c1,c2,c3⟩:=fL aq hx;refine⟨kS hj,v,RdD.keep st.keeps _ _ (Rd.data _ _ c2 h2),h3,h4,λm hm=>?_⟩;rw[jl];exact Am9 _ j m m4 hm v h1
def Abf{k:Type}{e:k->SV}{l:List k}(i:Nat)(h:i<l.length):∃x,rowF e l i x:=⟨_,h,rfl⟩
inductive AppBase(s:SS)(sz:Nat):SV->Option Nat->Nat->(Nat->SV->Prop)->Prop
 |nil:AppBase s sz (.val (.slice none 0 0)) none 0 (λ_ _=>False)
 |row {k:Nat} {α:Type} {e:α->SV} {l:List α} (h:s.h k=.row sz e l):AppBase s sz (.osl k) (some k) l.length (rowF e l)
 |lit {k:Nat} {l:List SV} (h:s.h k=.lit sz l):AppBase s sz (.osl k) (some k) l.length (Aex l)
inductive AppSrc(s:SS)(sz:Nat):SV->List Nat->Nat->(Nat->SV->Prop)->Prop
 |sl {α:Type} {e:α->SV} {l:List α}:AppSrc s sz (.sl sz e l) [] l.length (rowF e l)
 |row {k:Nat} {α:Type} {e:α->SV} {l:List α} (h:s.h k=.row sz e l):AppSrc s sz (.osl k) [k] l.length (rowF e l)
 |lit {k:Nat} {l:List SV} (h:s.h k=.lit sz l):AppSrc s sz (.osl k) [k] l.length (Aex l)
 |nil:AppSrc s sz (.val (.slice none 0 0)) [] 0 (λ_ _=>False)
theorem AppBase.base{s:SS}{sz:Nat}{x:SV}{k:Option Nat}{n:Nat}{f:Nat->SV->Prop}(h:AppBase s sz x k n f){a:Ka}{w:World}{v:Value}(hr:Rd a w x v)(ho:∀j,k=some j->ObOK a w j (s.h j)):Base a w v n sz f k:=by
 cases h with
 |nil=>exact⟨hr.val,rfl⟩
 | @row k r e l h=>
  have h1:=ho k rfl;rw[h]at h1;rcases h1 with ⟨h2,rfl⟩|h2
  .simp only[Rd,h2]at hr;exact .inl ⟨h2,E,hr⟩
  .obtain ⟨b,cap,h3,h4⟩:=h2.src Abf;simp only[Rd,h3]at hr;exact .inr ⟨h2,Abf,b,cap,h3,hr⟩
 | @lit k l h=>
  have h1:=ho k rfl;rw[h]at h1;have h2:RowAt a w k sz l.length (Aex l):=h1;obtain ⟨b,cap,h3,h4⟩:=h2.src (λi hi=>Wv hi);simp only[Rd,h3]at hr;exact .inr ⟨h2,λi hi=>Wv hi,b,cap,h3,hr⟩
theorem AppSrc.src{s:SS}{sz:Nat}{x:SV}{ks:List Nat}{n:Nat}{f:Nat->SV->Prop}(h:AppSrc s sz x ks n f){a:Ka}{w:World}{v:Value}(hr:Rd a w x v)(ho:∀j∈ks,ObOK a w j (s.h j)):Src a w v n sz f:=by
 cases h with
 |sl=>exact hr.src
 |nil=>exact .inl ⟨rfl,λ_ _ h=>h,none,0,hr.val⟩
 | @row k r e l h=>
  have h1:=ho k y_;rw[h]at h1;rcases h1 with ⟨h2,rfl⟩|h2
  .simp only[Rd,h2]at hr;exact .inl ⟨rfl,λi x hx=>(by obtain ⟨h,_⟩:=hx;simp at h),none,0,hr⟩
  .obtain ⟨b,cap,h3,h4⟩:=h2.src Abf;simp only[Rd,h3]at hr;subst hr;exact h4
 | @lit k l h=>
  have h1:=ho k y_;rw[h]at h1;have h2:RowAt a w k sz l.length (Aex l):=h1;obtain ⟨b,cap,h3,h4⟩:=h2.src (λi hi=>Wv hi);simp only[Rd,h3]at hr;subst hr;exact h4
def U4(k:Option Nat)(d:Nat)(ob:Ob):List (Nat×Ob):=match k with
 |some k=>[(k,.non),(d,ob)]
 |none=>[(d,ob)]
def nS{P:Program}(Γ:Ty P){o:Oper}{s:SS}{t:TypeId}{ti:TI}{et:TypeId}{sz eb n m:Nat}{ez:List Value}{x y:Operand}{d:Nat}{k:Option Nat}{ks:List Nat}{f g:Nat->SV->Prop}{ob:Ob}(h:o.op=.call ⟨.builtin .append,#[x,y],#[t,t]⟩)(hd:s.h d=.fresh)(ht:Γ.get t=some ti)(hk:ti.k=.slice et sz eb ez)(p6:ez.length=sz)(hb:AppBase s sz (ev s x) k n f)(hs:AppSrc s sz (ev s y) ks m g)(pc:∀j,k=some j->j≠d)(da:(n+m)*eb<=140737488355328)(s8:n+m<=9223372036854775807)(cq:∀b w,((b d=.nil/\n+m=0)\/RowAt b w d sz (n+m) (Ax7 n f g))->ObOK b w d ob):Good P o s ⟨.osl d,ks,U4 k d ob⟩:=by
 intro b a w hi hr ho N Q hN;have h1:=hr x (by simp[h,Op.operands,Call.operands]);have h2:=hr y (by simp[h,Op.operands,Call.operands]);have j6:∀j,j∈(Up.mk (.osl d) ks (U4 k d ob)).ws↔(k=some j\/j=d):=by
  intro j;cases k<;>simp[Up.ws,U4,eq_comm]
 have az:b d=.new:=by have:=ho d (.inr ((j6 d).2 (.inr rfl)));rwa [hd]at this
 obtain ⟨hu,i,z,q1,q2,q3,q4,q5⟩:=Cu Γ ht hk;have s7:z.cells.size=sz:=by rw[<-p6,<-q5];simp
 obtain ⟨v',w',b',r1,r2,r3,r4,r5⟩:=An7 (P:=P) (ty:=o.type) hi hu q1 q4 q2 s7 az (hb.base h1 (λj hj=>ho j (.inr ((j6 j).2 (.inl hj))))) (hs.src h2 (λj hj=>ho j (.inl hj))) s8 (by rw[q3];exact da);have au:(execOp a.eval o).run P w=.ok (.value v') w':=by
  simp[execOp,h,resolve,invoke,builtin,r1]
 simp only[Oper.wp,au,Oper.upon];refine hN v' b' w' (r2.weaken (λj hj=>(j6 j).2 hj)) r3 r4 (λp hp=>?_);have gj:=cq b' w' r5;cases k with
 |none=>
  simp only[U4,zX]at hp;subst hp;exact gj
 |some k=>
  simp only[U4,yI,xH,vJ]at hp;rcases hp with rfl|rfl
  .trivial
  .exact gj
def A29{a:Type}{e:a->SV}{l:List a}{k:Ka}{w:World}{d sz n m:Nat}{f g:Nat->SV->Prop}(h:(k d=.nil/\n+m=0)\/RowAt k w d sz (n+m) (Ax7 n f g))(hl:l.length=n+m)(hf:∀i x,rowF e l i x->Ax7 n f g i x):ObOK k w d (.row sz e l):=by
 rcases h with ⟨h1,h2⟩|⟨b,cap,cs,T,fr,e1,e2,e3,e4,e5,e6⟩
 .exact .inl ⟨h1,yC q_⟩
 .exact .inr ⟨b,cap,cs,T,fr,by rw[hl];exact e1,e2,e3,e4,by omega,λi x hx=>by rw[hl];exact e6 i x (hf i x hx)⟩
def Azq{k:Type}{e:k->SV}{l m:List k}{f g:Nat->SV->Prop}(h1:∀i x,rowF e l i x->f i x)(h2:∀i x,rowF e m i x->g i x)(i:Nat)(x:SV)(h:rowF e (l++m) i x):Ax7 l.length f g i x:=by
 obtain ⟨hi,rfl⟩:=h;by_cases hl:i<l.length
 .exact .inl ⟨hl,h1 i _ ⟨hl,by rw[yZ hl]⟩⟩
 .have uk:l.length<=i:=by omega
  exact .inr ⟨uk,h2 _ _ ⟨by simp at hi;omega,by rw[xQ uk]⟩⟩
def getI_map{k:Type}{e:k->SV}:∀{l:List k} {i:Nat} (h:i<l.length),Iu (l.map e) i=some (e l[i])
 |[],i,h=>by simp at h
 |x::l,0,_=>rfl
 |_::l,i+1,h=>getI_map (l:=l) (i:=i) (kS h)
def Sx{k:Type}{e:k->SV}{l:List k}{svs:List SV}(h:l.map e=svs)(i:Nat)(x:SV)(hx:rowF e l i x):Aex svs i x:=by
 obtain ⟨hi,rfl⟩:=hx;subst h;exact getI_map hi
def B4{P:Program}(Γ:Ty P){o:Oper}{s:SS}{t:TypeId}{ti:TI}{et:TypeId}{sz eb:Nat}{ez:List Value}{x y:Operand}{d:Nat}{ik ik':IntKind}{n:Nat}{c:Type}(e:c->SV)(z:c)(h:o.op=.makeSlice t x y)(hd:s.h d=.fresh)(ht:Γ.get t=some ti)(hk:ti.k=.slice et sz eb ez)(p6:ez.length=sz)(h1:nC ez=true)(hx:ev s x=.val (.int ik n))(hy:ev s y=.val (.int ik' n))(da:n*eb<=281474976710656)(s8:n<=9223372036854775807)(hz:cellsOf (e z)=ez.map .val)(ym:(e z).boxed=true)(yn:(e z).data=true):Good P o s ⟨.osl d,[],[(d,.row sz e (List.replicate n z))]⟩ :=
 cS hd λr a w hi hr _ hn=>by
  have r1:=hr x (by simp[h,Op.operands]);have r2:=hr y (by simp[h,Op.operands]);rw[hx]at r1;rw[hy]at r2;obtain ⟨hu,i,zv,q1,q2,q3,q4,q5⟩:=Cu Γ ht hk;have s7:zv.cells.size=sz:=by rw[<-p6,<-q5];simp
  have u0:(i.bytes:Int)*(n:Int)<=281474976710656:=by
   have:((i.bytes*n:Nat):Int)<=281474976710656:=by rw[q3,vK];omega
   rwa [Int.natCast_mul]at this
  have hm:=run_make (P:=P) w t et i zv hu q1 q4 ik ik' n n q_ (xZ _) u0 q_;simp only[zZ]at hm;refine⟨.slice (some ⟨w.heap.size,0,none⟩) n n,w.alloc (.cells (madeCells zv.cells (n*i.size)) et),.row w.heap.size n n,?_,Grew.alloc w _,?_,?_⟩
  .simp[execOp,h,r1.val,r2.val,hm]
  .intro b hb;simp only[Ent.block?,Option.some.injEq]at hb;subst hb;simp
  .intro st;refine⟨by simp[Rd,Ay],.inr ⟨w.heap.size,n,(madeCells zv.cells (n*i.size)).toList,et,(0,0),by simp[Ay],?_,NoFr.zero _,?_,by simp,?_⟩⟩
   .rw[heap_alloc_new]
   .simp[size_madeCells,q2]
   .rintro j y ⟨hj,rfl⟩;have rf:j<n:=kS hj;obtain ⟨u,u1,u2⟩:=Rd.of_cells (κ:=Em r d (.row w.heap.size n n)) (w:=w.alloc (.cells (madeCells zv.cells (n*i.size)) et)) ym (We h1) (by rw[hz];exact eD _);rw[tR];have hus:u.cells.size=sz:=by rw[<-wY,u2,p6]
    refine⟨kS rf,u,Rd.data _ _ yn u1,hus,by rw[u2];exact We h1,λm hm=>?_⟩;have ab:j*sz+m<n*sz:=by
     have:(j+1)*sz<=n*sz:=xB sz q_;rw[xK,wO]at this;omega
    have hmod:(j*sz+m)%zv.cells.size=m:=by rw[s7,tQ,Nat.add_mul_mod_self_right];exact xJ hm
    rw[<-vY,u2,<-q5];simp only[madeCells,q2,Array.toList_map,Array.toList_range,vU,uK ab,uL,hmod];rw[vY,uN q_];simp[s7,hm]
def Akn{k:Ka}{w:World}{sz:Nat}{a:Type}{e:a->SV}{l:List a}{lo hi:Nat}{ad:Option Addr}{cap:Nat}(h:Rd k w (.sl sz e l) (.slice ad l.length cap))(h1:lo<=hi)(h2:hi<=l.length):Rd k w (.sl sz e ((l.take hi).drop lo)) (.slice (if cap=lo then ad else ad.map (·.add (lo*sz))) (hi-lo) (cap-lo)):=by
 simp only[Rd,RdD]at h|-;by_cases he:lo=hi
 .subst he;exact .inl ⟨by rw[List.drop_eq_nil_iff];simp;omega,if cap=lo then ad else ad.map (·.add (lo*sz)),cap-lo,by simp⟩
 .rcases h with ⟨rfl,_⟩|⟨b,off,d6,h3,h0,h4,h5,h6⟩
  .simp at h2;omega
  .cases h3;have iq:cap≠lo:=by omega
   refine .inr ⟨b,off+lo*sz,cap-lo,?_,by simp;omega,h4,h5,λi hi'=>?_⟩
   .rw[zD iq];simp only[uL,Addr.add_lit];congr 1;simp;omega
   .have ab:lo+i<l.length:=by simp at hi';omega
    obtain ⟨u,h7,h8⟩:=h6 (lo+i) ab;refine⟨u,?_,?_⟩
    .rw[vW,wD];exact h7
    .rw[show off+lo*sz+i*sz=off+(lo+i)*sz from by rw[xK];omega];exact h8
def Ie{P:Program}(w:World){len cap lo hi:Nat}{lo' hi':Option Value}(j4:lo'=none/\lo=0\/∃k,lo'=some (.int k lo))(kw:hi'=none/\hi=len\/∃k,hi'=some (.int k hi))(h1:lo<=hi)(h2:hi<=cap):(Instr.sliceBounds true len cap lo' hi' none).run P w=.ok (lo,hi,cap) w:=by
 rcases j4 with ⟨rfl,rfl⟩|⟨k,rfl⟩<;>rcases kw with ⟨rfl,rfl⟩|⟨k',rfl⟩<;>simp[Instr.sliceBounds,Instr.sliceBound,asIntOf,h1,h2]
def A20{k:Ka}{w:World}{sz:Nat}{a:Type}{e:a->SV}{l:List a}{v:Value}(h:Rd k w (.sl sz e l) v):∃ad cap,v=.slice ad l.length cap/\l.length<=cap:=by
 simp only[Rd,RdD]at h;rcases h with ⟨rfl,ad,cap,h⟩|⟨b,off,cap,h,h0,_⟩
 .exact⟨ad,cap,h,xN _⟩
 .exact⟨_,cap,h,h0⟩
def BoundIs(s:SS)(x:Option Operand)(t7 n:Nat):Prop:=(x=none/\n=t7)\/∃y k,x=some y/\ev s y=.val (.int k n)
theorem BoundIs.val{b:Ka}{w:World}{s:SS}{a:Act}{x:Option Operand}{t7 n:Nat}(h:BoundIs s x t7 n)(hr:∀y,x=some y->Rd b w (ev s y) (a.eval y)):(x.map a.eval=none/\n=t7)\/∃k,x.map a.eval=some (.int k n):=by
 rcases h with ⟨rfl,h⟩|⟨y,k,rfl,h⟩
 .exact .inl ⟨E,h⟩
 .have:=hr y rfl;rw[h]at this;exact .inr ⟨k,by simp[this.val]⟩
def D3{P:Program}(Γ:Ty P){o:Oper}{s:SS}{t:TypeId}{ti:TI}{et:TypeId}{sz eb lo hi:Nat}{ez:List Value}{x:Operand}{lx hx:Option Operand}{r:Type}{e:r->SV}{l:List r}(h:o.op=.slice t x lx hx none)(ht:Γ.get t=some ti)(hk:ti.k=.slice et sz eb ez)(kv:ev s x=.sl sz e l)(j4:BoundIs s lx 0 lo)(kw:BoundIs s hx l.length hi)(h1:lo<=hi)(h2:hi<=l.length):Good P o s ⟨.sl sz e ((l.take hi).drop lo),[],[]⟩ :=
 Good.pure λb a w _ hr _=>by
  have r1:=hr x (by simp[h,Op.operands]);rw[kv]at r1;obtain ⟨hu,i,zv,q1,q2,q3,q4,q5⟩:=Cu Γ ht hk;obtain ⟨ad,cap,e1,e2⟩:=A20 r1;have b1:=j4.val (a:=a) (λy hy=>hr y (by simp[h,Op.operands,hy]));have b2:=kw.val (a:=a) (λy hy=>hr y (by simp[h,Op.operands,hy]));rw[e1]at r1;have hb:=Ie (P:=P) w (len:=l.length) (cap:=cap) b1 b2 h1 q_;refine⟨_,?_,Akn r1 h1 h2⟩;simp[execOp,h,e1,Instr.sliceAt,Instr.slice,run_underlying hu,hb,sizeOf,typeInfo,q1,q2]
def cR{P:Program}(Γ:Ty P){o:Oper}{s:SS}{t:TypeId}{ti:TI}{lo hi:Nat}{x:Operand}{lx hx:Option Operand}{b:ByteArray}(h:o.op=.slice t x lx hx none)(ht:Γ.get t=some ti)(hk:ti.k=.string)(kv:ev s x=.val (.string b))(j4:BoundIs s lx 0 lo)(kw:BoundIs s hx b.size hi)(h1:lo<=hi)(h2:hi<=b.size):Good P o s ⟨.val (.string (b.extract lo hi)),[],[]⟩ :=
 Good.pure λr a w _ hr _=>by
  have r1:=hr x (by simp[h,Op.operands]);rw[kv]at r1;obtain ⟨d,info,z,k1,k2,k3,k4,k5,k6⟩:=Γ.ok t ti ht;rw[hk]at k2;simp only[TK.ok]at k2;subst k2;have b1:=j4.val (a:=a) (λy hy=>hr y (by simp[h,Op.operands,hy]));have b2:=kw.val (a:=a) (λy hy=>hr y (by simp[h,Op.operands,hy]));have hb:(Instr.sliceBounds false b.size b.size (lx.map a.eval) (hx.map a.eval) none).run P w=.ok (lo,hi,b.size) w:=by
   rcases b1 with ⟨c1,rfl⟩|⟨k,c1⟩<;>rcases b2 with ⟨c2,rfl⟩|⟨k',c2⟩<;>rw[c1,c2]<;>simp[Instr.sliceBounds,Instr.sliceBound,asIntOf,h1,h2]
  refine⟨.string (b.extract lo hi),?_,by simp only[Rd]⟩;simp[execOp,h,r1.val,Instr.sliceAt,Instr.slice,run_underlying k1,hb]
def Acz{P:Program}(Γ:Ty P){o:Oper}{s:SS}{t:TypeId}{ti:TI}{et:TypeId}{sz eb hi k d:Nat}{ez:List Value}{x:Operand}{lx hx:Option Operand}{m:Type}{e:m->SV}{l:List m}(h:o.op=.slice t x lx hx none)(hd:s.h d=.fresh)(ht:Γ.get t=some ti)(hk:ti.k=.slice et sz eb ez)(kv:ev s x=.osl k)(ck:k≠d)(gx:s.h k=.row sz e l)(j4:BoundIs s lx 0 0)(kw:BoundIs s hx l.length hi)(h2:hi<=l.length):Good P o s ⟨.osl d,[],[(k,.non),(d,.row sz e (l.take hi))]⟩:=by
 intro r a w hinv hr ho N Q hN;have r1:=hr x (by simp[h,Op.operands]);rw[kv]at r1;obtain ⟨hu,i,zv,q1,q2,q3,q4,q5⟩:=Cu Γ ht hk;have az:r d=.new:=by have:=ho d (.inr (by simp[Up.ws]));rwa [hd]at this
 have cq:=ho k (.inr (by simp[Up.ws]));rw[gx]at cq;have b1:=j4.val (a:=a) (λy hy=>hr y (by simp[h,Op.operands,hy]));have b2:=kw.val (a:=a) (λy hy=>hr y (by simp[h,Op.operands,hy]));rcases cq with ⟨e1,rfl⟩|⟨b,cap,cs,T,fr,e1,e2,e3,e4,e5,e6⟩
 .simp only[Rd,e1]at r1;have hhi0:hi=0:=kS h2;subst hhi0;have hb:=Ie (P:=P) w (len:=0) (cap:=0) (hi:=0) (hi':=hx.map a.eval) b1 b2 (yE _) (yE _);have au:(execOp a.eval o).run P w=.ok (.value (.slice none 0 0)) w:=by
   simp[execOp,h,r1,Instr.sliceAt,Instr.slice,run_underlying hu,hb,sizeOf,typeInfo,q1]
  have st:=Ky (Mh hinv (some k)) (by show Em r k .dead d=.new;rw[Cc _ _ (Ne.symm ck)];exact az) (e:=.nil) (Grew.refl w) (λb hb=>by cases hb);simp only[Oper.wp,au,Oper.upon];refine hN _ _ w ((((Kg (some k)).weaken (λj hj=>by simp only[Option.some.injEq]at hj;subst hj;simp[Up.ws])).trans (st.1.weaken (λj hj=>by subst hj;simp[Up.ws])))) st.2 (by simp[Rd,Ay]) (λp hp=>?_);simp only[yI,xH,vJ]at hp;rcases hp with rfl|rfl
  .trivial
  .exact .inl ⟨Ay _ _ _,by simp⟩
 .simp only[Rd,e1]at r1;have hb:=Ie (P:=P) w (len:=l.length) (cap:=cap) b1 b2 (xN _) q_;have au:(execOp a.eval o).run P w=.ok (.value (.slice (some ⟨b,0,none⟩) hi cap)) w:=by
   simp only[execOp,h,r1,Instr.sliceAt,Instr.slice,Sem.run_bind,run_underlying hu,Result.andThen_ok,Option.map_none,hb,sizeOf,typeInfo,run_program,q1,Sem.run_pure];by_cases hc:cap=0<;>simp[hc,Addr.add]
  obtain ⟨st,inv⟩:=Sw (n':=hi) (w':=w) hinv e1 az rfl rfl rfl rfl (λ_ _=>rfl);simp only[Oper.wp,au,Oper.upon];refine hN _ _ w (st.weaken (λj hj=>by rcases hj with rfl|rfl<;>simp[Up.ws])) inv (by simp[Rd,Ay]) (λp hp=>?_);simp only[yI,xH,vJ]at hp;rcases hp with rfl|rfl
  .trivial
  .have hlen:(l.take hi).length=hi:=by simp;omega
   refine .inr ⟨b,cap,cs,T,fr,by rw[hlen];exact Ay _ _ _,e2,e3,e4,by omega,λi x hx=>?_⟩;obtain ⟨hi',rfl⟩:=hx;have mz:i<l.length:=by simp at hi';omega
   obtain ⟨h0,u,u1,u2⟩:=e6 i (e l[i]) ⟨mz,rfl⟩;refine⟨kS hi',u,?_,u2⟩;rw[wD];exact RdD.keep st.keeps _ _ u1
def Ml{P:Program}{o:Oper}{s:SS}{op:BinOp}{t yt:TypeId}{x y:Operand}{m n:ByteArray}{u:Value}(h:o.op=.binOp op t x y yt)(hop:op≠.shl/\op≠.shr)(hx:ev s x=.val (.string m))(hy:ev s y=.val (.string n))(hr:∀w,(Op.stringOp op m n).run P w=.ok u w):Good P o s ⟨.val u,[],[]⟩ :=
 Good.pure λk a w _ jg _=>by
  have h1:=jg x (by simp[h,Op.operands]);have h2:=jg y (by simp[h,Op.operands]);rw[hx]at h1;rw[hy]at h2;refine⟨u,?_,by simp[Rd]⟩;have hb:binOp op t (.string m) (.string n)=Op.stringOp op m n:=by cases op<;>simp[binOp]at hop|-
  simp[execOp,h,h1.val,h2.val,eqGuard_at_string,hb,hr]
mutual
def SV.ren(a:Nat->Nat):SV->SV
 | .ptr k o=>.ptr (a k) o
 | .rpt k sz i o=>.rpt (a k) sz i o
 | .osl k=>.osl (a k)
 | .agg l=>.agg (Ma a l)
 | .tup l=>.tup (Ma a l)
 | .ifc t x=>.ifc t (x.ren a)
 | .clo fn f l=>.clo fn (Ma a f) (Ma a l)
 | .top=>.top
 | .val v=>.val v
 | .sl sz e l=>.sl sz e l
 | .ref sz x o=>.ref sz x o
def Ma(k:Nat->Nat):List SV->List SV
 |[]=>[]
 |x::l=>x.ren k::Ma k l
end
def S7(K:List Nat)(k:Nat):Bool:=match K with
 |[]=>false
 |x::l=>Nat.beq x k||S7 l k
def memN_iff{K:List Nat}{k:Nat}:S7 K k=true↔k∈K:=by
 induction K with
 |nil=>simp[S7]
 |cons x l ih=>
  have hb:Nat.beq x k=true↔x=k:=⟨yK,λh=>by subst h;simp⟩
  simp only[S7,yO,yI,ih,hb];constructor
  .rintro (h|h)
   .exact .inl h.symm
   .exact .inr h
  .rintro (h|h)
   .exact .inl h.symm
   .exact .inr h
mutual
def SV.inn(K:List Nat):SV->Bool
 | .ptr k _=>S7 K k
 | .rpt k _ _ _=>S7 K k
 | .osl k=>S7 K k
 | .agg l=>B7 K l
 | .tup l=>B7 K l
 | .ifc _ x=>x.inn K
 | .clo _ f l=>B7 K f&&B7 K l
 |_=>true
def B7(K:List Nat):List SV->Bool
 |[]=>true
 |x::l=>x.inn K&&B7 K l
end
def Ob.ren(k:Nat->Nat):Ob->Ob
 | .box l=>.box (Ma k l)
 | .rown sz e l i cl=>.rown sz e l i (Ma k cl)
 | .tbox T l=>.tbox T (Ma k l)
 |o=>o
def Ob.inn(K:List Nat):Ob->Bool
 | .box l=>B7 K l
 | .rown _ _ _ _ cl=>B7 K cl
 | .tbox _ l=>B7 K l
 |_=>true
structure Ren(ρ:Nat->Nat)(K:List Nat)(κ κ₂:Ka):Prop where
 ent:∀k,k∈K->κ₂ k=κ (ρ k)
mutual
theorem Rd.unren{ρ:Nat->Nat}{K:List Nat}{κ κ₂:Ka}{w:World}(r:Ren ρ K κ κ₂)(ho:∀b,b<w.heap.size->¬Own κ b->¬Own κ₂ b):∀(x:SV) (v:Value),x.inn K=true->Rd κ w (x.ren ρ) v->Rd κ₂ w x v
 | .top,_,_,_=>by simp[Rd]
 | .val u,v,_,h=>by simpa [Rd,SV.ren] using h
 | .agg l,v,hi,h=>by
  simp only[Rd,SV.ren,SV.inn]at h hi|-;obtain ⟨cs,h1,h0,h2⟩:=h;exact⟨cs,h1,h0,RdL.unren r ho l cs hi h2⟩
 | .tup l,v,hi,h=>by
  simp only[Rd,SV.ren,SV.inn]at h hi|-;obtain ⟨cs,h1,h2⟩:=h;exact⟨cs,h1,RdL.unren r ho l cs hi h2⟩
 | .sl sz e l,v,_,h=>by
  simp only[Rd,SV.ren]at h|-;exact RdD.keep ⟨yE _,λ_ _ _=>rfl,ho⟩ _ _ h
 | .ref sz x off,v,_,h=>by
  simp only[Rd,SV.ren]at h|-;exact RdD.keep ⟨yE _,λ_ _ _=>rfl,ho⟩ _ _ h
 | .ptr k off,v,hi,h=>by
  simp only[Rd,SV.ren,SV.inn]at h hi|-;rw[r.ent k (memN_iff.1 hi)];exact h
 | .rpt k sz i off,v,hi,h=>by
  simp only[Rd,SV.ren,SV.inn]at h hi|-;rw[r.ent k (memN_iff.1 hi)];exact h
 | .osl k,v,hi,h=>by
  simp only[Rd,SV.ren,SV.inn]at h hi|-;rw[r.ent k (memN_iff.1 hi)];exact h
 | .ifc t x,v,hi,h=>by
  simp only[Rd,SV.ren,SV.inn]at h hi|-;obtain ⟨u,h1,h2⟩:=h;exact⟨u,h1,Rd.unren r ho x u hi h2⟩
 | .clo fn first cap,v,hi,h=>by
  simp only[Rd,SV.ren,SV.inn,zG]at h hi|-;obtain ⟨fs,cs,h1,h2,h3⟩:=h;exact⟨fs,cs,h1,RdL.unren r ho first fs hi.1 h2,RdL.unren r ho cap cs hi.2 h3⟩
theorem RdL.unren{ρ:Nat->Nat}{K:List Nat}{κ κ₂:Ka}{w:World}(r:Ren ρ K κ κ₂)(ho:∀b,b<w.heap.size->¬Own κ b->¬Own κ₂ b):∀(l:List SV) (vs:List Value),B7 K l=true->RdL κ w (Ma ρ l) vs->RdL κ₂ w l vs
 |[],_,_,h=>by simpa [RdL,Ma] using h
 |x::l,vs,hi,h=>by
  simp only[RdL,Ma,B7,zG]at h hi|-;obtain ⟨v,q,h1,h2,h3⟩:=h;exact⟨v,q,h1,Rd.unren r ho x v hi.1 h2,RdL.unren r ho l q hi.2 h3⟩
end
mutual
theorem Rd.ren{m:Nat->Nat}{K:List Nat}{a a₂:Ka}{w:World}(r:Ren m K a a₂)(ho:∀b,b<w.heap.size->¬Own a₂ b->¬Own a b):∀(x:SV) (v:Value),x.inn K=true->Rd a₂ w x v->Rd a w (x.ren m) v
 | .top,_,_,_=>by simp[Rd,SV.ren]
 | .val u,v,_,h=>by simpa [Rd,SV.ren] using h
 | .agg l,v,hi,h=>by
  simp only[Rd,SV.ren,SV.inn]at h hi|-;obtain ⟨cs,h1,h0,h2⟩:=h;exact⟨cs,h1,h0,RdL.ren r ho l cs hi h2⟩
 | .tup l,v,hi,h=>by
  simp only[Rd,SV.ren,SV.inn]at h hi|-;obtain ⟨cs,h1,h2⟩:=h;exact⟨cs,h1,RdL.ren r ho l cs hi h2⟩
 | .sl sz e l,v,_,h=>by
  simp only[Rd,SV.ren]at h|-;exact RdD.keep ⟨yE _,λ_ _ _=>rfl,ho⟩ _ _ h
 | .ref sz x off,v,_,h=>by
  simp only[Rd,SV.ren]at h|-;exact RdD.keep ⟨yE _,λ_ _ _=>rfl,ho⟩ _ _ h
 | .ptr k off,v,hi,h=>by
  simp only[Rd,SV.ren,SV.inn]at h hi|-;rw[<-r.ent k (memN_iff.1 hi)];exact h
 | .rpt k sz i off,v,hi,h=>by
  simp only[Rd,SV.ren,SV.inn]at h hi|-;rw[<-r.ent k (memN_iff.1 hi)];exact h
 | .osl k,v,hi,h=>by
  simp only[Rd,SV.ren,SV.inn]at h hi|-;rw[<-r.ent k (memN_iff.1 hi)];exact h
 | .ifc t x,v,hi,h=>by
  simp only[Rd,SV.ren,SV.inn]at h hi|-;obtain ⟨u,h1,h2⟩:=h;exact⟨u,h1,Rd.ren r ho x u hi h2⟩
 | .clo fn first cap,v,hi,h=>by
  simp only[Rd,SV.ren,SV.inn,zG]at h hi|-;obtain ⟨fs,cs,h1,h2,h3⟩:=h;exact⟨fs,cs,h1,RdL.ren r ho first fs hi.1 h2,RdL.ren r ho cap cs hi.2 h3⟩
theorem RdL.ren{a:Nat->Nat}{K:List Nat}{k k₂:Ka}{w:World}(r:Ren a K k k₂)(ho:∀b,b<w.heap.size->¬Own k₂ b->¬Own k b):∀(l:List SV) (vs:List Value),B7 K l=true->RdL k₂ w l vs->RdL k w (Ma a l) vs
 |[],_,_,h=>by simpa [RdL,Ma] using h
 |x::l,vs,hi,h=>by
  simp only[RdL,Ma,B7,zG]at h hi|-;obtain ⟨v,q,h1,h2,h3⟩:=h;exact⟨v,q,h1,Rd.ren r ho x v hi.1 h2,RdL.ren r ho l q hi.2 h3⟩
end
theorem RowAt.own{a a₂:Ka}{w:World}{k k₂ sz n:Nat}{f:Nat->SV->Prop}(h:RowAt a w k sz n f)(he:a₂ k₂=a k)(ho:∀b,b<w.heap.size->¬Own a b->¬Own a₂ b):RowAt a₂ w k₂ sz n f:=by
 obtain ⟨b,cap,cs,T,fr,h1,h2,h3,h4,h5,h6⟩:=h;refine⟨b,cap,cs,T,fr,he.trans h1,h2,h3,h4,h5,λi x hi=>?_⟩;obtain ⟨h0,u,h7,h8⟩:=h6 i x hi;exact⟨h0,u,RdD.keep ⟨yE _,λ_ _ _=>rfl,ho⟩ _ _ h7,h8⟩
theorem ObOK.unren{ρ:Nat->Nat}{K:List Nat}{κ κ₂:Ka}{w:World}(r:Ren ρ K κ κ₂)(ho:∀b,b<w.heap.size->¬Own κ b->¬Own κ₂ b){k:Nat}(hk:k∈K):∀{o:Ob},o.inn K=true->ObOK κ w (ρ k) (o.ren ρ)->ObOK κ₂ w k o
 | .fresh,_,h=>(r.ent k hk).trans h
 | .non,_,_=>trivial
 | .box l,hi,h=>by
  obtain ⟨b,cs,T,fr,h1,h2,h3,h4,h5⟩:=h;exact⟨b,cs,T,fr,(r.ent k hk).trans h1,h2,h3,h4,RdL.unren r ho l cs hi h5⟩
 | .tbox T l,hi,h=>by
  obtain ⟨b,cs,fr,h1,h2,h3,h4,h5⟩:=h;exact⟨b,cs,fr,(r.ent k hk).trans h1,h2,h3,h4,RdL.unren r ho l cs hi h5⟩
 | .trow T l,_,h=>h.imp (λh=>⟨(r.ent k hk).trans h.1,h.2⟩) (λ⟨h0,b,cap,cs,fr,h1,h2⟩=>⟨h0,b,cap,cs,fr,(r.ent k hk).trans h1,h2⟩)
 | .row sz e l,_,h=>h.imp (λh=>⟨(r.ent k hk).trans h.1,h.2⟩) (λh=>h.own (r.ent k hk) ho)
 | .lit sz l,_,h=>RowAt.own h (r.ent k hk) ho
 | .pin b n cap sz e l,_,h=>⟨(r.ent k hk).trans h.1,RowAt.own h.2 (r.ent k hk) ho⟩
 | .glob sz x g,_,h=>by
  simp only[Ob.ren,ObOK,Rd]at h|-;exact RdD.keep ⟨yE _,λ_ _ _=>rfl,ho⟩ _ _ h
 | .dat v sz e l,_,h=>by
  simp only[Ob.ren,ObOK,Rd]at h|-;exact RdD.keep ⟨yE _,λ_ _ _=>rfl,ho⟩ _ _ h
 | .rown sz e l i cl,hi,h=>by
  obtain ⟨b,cap,cs,T,fr,h1,h2,h3,h4,h5,h6,h7,us,u1,u2,u3,u4⟩:=h;refine⟨b,cap,cs,T,fr,(r.ent k hk).trans h1,h2,h3,h4,h5,λj x hj hx=>?_,h7,us,u1,u2,RdL.unren r ho cl us hi u3,u4⟩;obtain ⟨g0,u,g7,g8⟩:=h6 j x hj hx;exact⟨g0,u,RdD.keep ⟨yE _,λ_ _ _=>rfl,ho⟩ _ _ g7,g8⟩
theorem ObOK.ren{m:Nat->Nat}{K:List Nat}{a a₂:Ka}{w:World}(r:Ren m K a a₂)(ho:∀b,b<w.heap.size->¬Own a₂ b->¬Own a b){k:Nat}(hk:k∈K):∀{o:Ob},o.inn K=true->ObOK a₂ w k o->ObOK a w (m k) (o.ren m)
 | .fresh,_,h=>(r.ent k hk).symm.trans h
 | .non,_,_=>trivial
 | .box l,hi,h=>by
  obtain ⟨b,cs,T,fr,h1,h2,h3,h4,h5⟩:=h;exact⟨b,cs,T,fr,(r.ent k hk).symm.trans h1,h2,h3,h4,RdL.ren r ho l cs hi h5⟩
 | .tbox T l,hi,h=>by
  obtain ⟨b,cs,fr,h1,h2,h3,h4,h5⟩:=h;exact⟨b,cs,fr,(r.ent k hk).symm.trans h1,h2,h3,h4,RdL.ren r ho l cs hi h5⟩
 | .trow T l,_,h=>h.imp (λh=>⟨(r.ent k hk).symm.trans h.1,h.2⟩) (λ⟨h0,b,cap,cs,fr,h1,h2⟩=>⟨h0,b,cap,cs,fr,(r.ent k hk).symm.trans h1,h2⟩)
 | .row sz e l,_,h=>h.imp (λh=>⟨(r.ent k hk).symm.trans h.1,h.2⟩) (λh=>h.own (r.ent k hk).symm ho)
 | .lit sz l,_,h=>RowAt.own h (r.ent k hk).symm ho
 | .pin b n cap sz e l,_,h=>⟨(r.ent k hk).symm.trans h.1,RowAt.own h.2 (r.ent k hk).symm ho⟩
 | .glob sz x g,_,h=>by
  simp only[Ob.ren,ObOK,Rd]at h|-;exact RdD.keep ⟨yE _,λ_ _ _=>rfl,ho⟩ _ _ h
 | .dat v sz e l,_,h=>by
  simp only[Ob.ren,ObOK,Rd]at h|-;exact RdD.keep ⟨yE _,λ_ _ _=>rfl,ho⟩ _ _ h
 | .rown sz e l i cl,hi,h=>by
  obtain ⟨b,cap,cs,T,fr,h1,h2,h3,h4,h5,h6,h7,us,u1,u2,u3,u4⟩:=h;refine⟨b,cap,cs,T,fr,((r.ent k hk).symm).trans h1,h2,h3,h4,h5,λj x hj hx=>?_,h7,us,u1,u2,RdL.ren r ho cl us hi u3,u4⟩;obtain ⟨g0,u,g7,g8⟩:=h6 j x hj hx;exact⟨g0,u,RdD.keep ⟨yE _,λ_ _ _=>rfl,ho⟩ _ _ g7,g8⟩
abbrev Obs:=List (Nat×Ob)
def Obs.keys(H:Obs):List Nat:=H.map (·.1)
def Obs.ok(k:Ka)(w:World)(H:Obs):Prop:=∀p∈H,ObOK k w p.1 p.2
def Spec(P:Program)(f:FuncId)(A:List SV)(H:Obs)(R:SV)(H':Obs):Prop :=
 ∀(a:Ka) (w:World) (vs:List Value),Inv a w->(∀k,a k≠.new->k∈H.keys)->RdL a w A vs->H.ok a w ->
  Calls P f vs.toArray w λe w'=>∃v a',e=.returned v/\Ctx ⟨w,a,[]⟩ a' w'/\Inv a' w'/\Rd a' w' R v/\H'.ok a' w'
inductive KI
 |code (c:Code)
 |ops (all:Array Oper) (rest:List Oper)
 |blk (id:Nat)
 |inv (I:Act->World->Prop)
 |scp
def den(P:Program)(B:Exit->Act->World->Prop):List KI->Exit->Act->World->Prop
 |[]=>B
 | .code c::k=>Exit.then (c.wp P (den P B k)) (den P B k)
 | .ops all rest::k=>Exit.then (wpList P all (den P B k) rest) (den P B k)
 | .blk id::k=>Exit.inBlock id (den P B k)
 | .inv I::k=>Exit.then I (den P B k)
 | .scp::k=>Exit.noGoto (den P B k)
structure Cx where
 P:Program
 Γ:Ty P
 F:Fr
 n:Nat
 B:Exit->Act->World->Prop
 bn:List Nat
 hbn:∀k,F.k0 k≠.new->k∈bn
def G(C:Cx)(k:List KI)(s:SS):Prop:=∀b a w,St C.F C.n s b a w->den C.P C.B k .normal a w
theorem St.ev{F:Fr}{n:Nat}{s:SS}{k:Ka}{a:Act}{w:World}(h:St F n s k a w)(x:Operand):Rd k w (ev s x) (a.eval x):=by
 cases x with
 |tmp t=>exact h.slot t
 |const v=>simp[Sy.ev,Act.eval,Rd]
 |global g=>simp[Sy.ev,Act.eval,Rd]
 |func f=>simp only[Sy.ev,Act.eval,Rd];exact⟨[],[],rfl,by simp[RdL],by simp[RdL]⟩
def Vc(h:Nat->Ob):List (Nat×Ob)->Nat->Ob
 |[]=>h
 |(k,o)::r=>Vc (upd h k o) r
def SS.upd(s:SS)(dst:Option Nat)(U:Up):SS:=⟨match dst with|some d=>Sy.upd s.σ d U.v|none=>s.σ,Vc s.h U.objs⟩
def Aau{h:Nat->Ob}:∀{l:List (Nat×Ob)} {k:Nat},k∉l.map (·.1)->Vc h l k=h k
 |[],k,_=>rfl
 |(j,o)::r,k,hk=>by
  simp only[xV,yI,uF]at hk;rw[Vc,Aau hk.2,Cz _ _ hk.1]
def Aho{a:Ka}{w:World}:∀(l:List (Nat×Ob)) (h:Nat->Ob) (k:Nat),(∀p∈l,ObOK a w p.1 p.2)->(k∉l.map (·.1)->ObOK a w k (h k))->ObOK a w k (Vc h l k)
 |[],h,k,_,h2=>h2 y_
 |(j,o)::r,h,k,h1,h2=>by
  refine Aho r (Sy.upd h j o) k (λp hp=>h1 p (by simp[hp])) (λhk=>?_);by_cases hj:k=j
  .subst hj;rw[B1];exact h1 (k,o) y_
  .rw[Cz _ _ hj];exact h2 (by simp[hj];simpa using hk)
theorem St.put{F:Fr}{n:Nat}{s:SS}{b b':Ka}{a:Act}{w w':World}(h:St F n s b a w){dst:Option Nat}{U:Up}{v:Value}(hd:∀d,dst=some d->d<n)(st:Step (·∈U.ws) b w b' w')(hi:Inv b' w')(hv:Rd b' w' U.v v)(ho:∀x∈U.objs,ObOK b' w' x.1 x.2):St F n (s.upd dst U) b' (a.put dst v) w' where
 defers:=by cases dst<;>exact h.defers
 size:=by cases dst<;>simp[Act.put,h.size]
 inv:=hi
 ctx:=h.ctx.step hi st
 slot i:=by
  cases dst with
  |none=>exact Rd.step st _ _ (h.slot i)
  |some d=>
   have ab:=hd d rfl;by_cases hi':i=d
   .subst hi';simp only[SS.upd,B1,Act.put];have hs:i<a.tmps.size:=by rw[h.size];exact ab
    simpa [hs] using hv
   .simp only[SS.upd,Cz _ _ hi',Act.put];have:(a.tmps.setIfInBounds d v).getD i undef=a.tmps.getD i undef:=by
     simp[Array.getElem?_setIfInBounds_ne (Ne.symm hi')]
    rw[this];exact Rd.step st _ _ (h.slot i)
 obj k:=Aho _ _ _ ho (λhk=>ObOK.step st hk _ (h.obj k))
variable {C:Cx} {k:List KI} {s:SS}
theorem G_seq{x y:Code}(h:G C (.code x::.code y::k) s):G C (.code (.seq x y)::k) s:=λb a w hs=>wp_seq (h b a w hs)
theorem G_skip(h:G C k s):G C (.code .skip::k) s:=λb a w hs=>wp_skip (h b a w hs)
theorem A5y{id:Nat}{c:Code}(h:G C (.code c::.blk id::k) s):G C (.code (.block id c)::k) s:=λb a w hs=>wp_block (h b a w hs)
theorem G_blk{id:Nat}(h:G C k s):G C (.blk id::k) s:=λb a w hs=>h b a w hs
theorem A5v{c:Code}(h:G C (.code c::.scp::k) s):G C (.code (.scope c)::k) s:=λb a w hs=>wp_scope_straight (h b a w hs)
theorem G_scp(h:G C k s):G C (.scp::k) s:=λb a w hs=>h b a w hs
theorem A5w{l:Nat}(h:G C k s):G C (.code (.label l)::k) s:=λb a w hs=>wp_label (h b a w hs)
theorem G_nil(h:∀k a w,St C.F C.n s k a w->C.B .normal a w):G C [] s:=λk a w hs=>h k a w hs
theorem G_cond{c:Operand}{x y:Code}{b:Bool}(hc:ev s c=.val (.bool b))(ht:b=true->G C (.code x::k) s)(hf:b=false->G C (.code y::k) s):G C (.code (.cond c x y)::k) s:=λr a w hs=>by
 have h:=hs.ev c;rw[hc]at h;exact wp_cond_split h.val (λhb=>ht hb r a w hs) (λhb=>hf hb r a w hs)
def Zf(id:Nat):List KI->Option (List KI)
 |[]=>none
 | .blk i::k=>bif Nat.beq i id then some k else Zf id k
 | .code _::k=>Zf id k
 | .ops _ _::k=>Zf id k
 | .inv _::k=>Zf id k
 | .scp::k=>Zf id k
theorem Tl{P:Program}{B:Exit->Act->World->Prop}{id:Nat}{a:Act}{w:World}:∀{k k':List KI},Zf id k=some k'->den P B k' .normal a w->den P B k (.exit id) a w
 |[],k',h,_=>by simp[Zf]at h
 | .blk i::k,k',h,hd=>by
  simp only[Zf,uP]at h;split at h
  .rename_i hb;have:=yK hb;subst this;simp only[Option.some.injEq]at h;subst h;simp only[den,Exit.inBlock,if_true];exact hd
  .rename_i hb;have af:id≠i:=λe=>hb (by subst e;simp)
   simp only[den,Exit.inBlock,zD af];exact Tl h hd
 | .code _::k,k',h,hd=>Tl (k:=k) h hd
 | .ops _ _::k,k',h,hd=>Tl (k:=k) h hd
 | .inv _::k,k',h,hd=>Tl (k:=k) h hd
 | .scp::k,k',h,hd=>Tl (k:=k) h hd
theorem G_exit{id:Nat}{k':List KI}(h:Zf id k=some k')(hg:G C k' s):G C (.code (.exit id)::k) s:=λb a w hs=>wp_exit (Tl h (hg b a w hs))
theorem X5{P:Program}{B:Exit->Act->World->Prop}{a:Act}{w:World}:∀{k:List KI},B .ret a w->den P B k .ret a w
 |[],h=>h
 | .blk _::k,h=>X5 (k:=k) h
 | .code _::k,h=>X5 (k:=k) h
 | .ops _ _::k,h=>X5 (k:=k) h
 | .inv _::k,h=>X5 (k:=k) h
 | .scp::k,h=>X5 (k:=k) h
theorem A6b(h:∀b a w,St C.F C.n s b a w->C.B .ret a w):G C (.code .ret::k) s:=λb a w hs=>wp_ret (X5 (h b a w hs))
theorem A3l{id:Nat}{ops:Array Oper}(h:G C (.ops ops ops.toList::k) s):G C (.code (.region id ops false)::k) s:=λb a w hs=>wp_region_list (h b a w hs)
theorem Ayi{all:Array Oper}(h:G C k s):G C (.ops all []::k) s:=λb a w hs=>wpList_nil (P:=C.P) (ops:=all) (h b a w hs)
def aS(all:Array Oper)(s:SS)(g:Option (Nat×Bool))(b:Bool):Prop :=
 match g with
 |none=>b=true
 |some (j,want)=>∃d,((all[j]?).bind (·.dst))=some d/\((∃c,s.σ d=.val (.bool c)/\b=(c==want))\/(s.σ d=.val undef/\b=false))
theorem Xm{F:Fr}{n:Nat}{k:Ka}{a:Act}{w:World}(h:St F n s k a w){all:Array Oper}{o:Oper}{b:Bool}(hd:∀j want,o.guard=some (j,want)->∀d,((all[j]?).bind (·.dst))=some d->d<n)(hw:aS all s o.guard b):Region.wanted o (yielded all a.tmps)=b:=by
 unfold aS at hw;unfold Region.wanted;cases hg:o.guard with
 |none=>rw[hg]at hw;simp[hw]
 |some p=>
  obtain ⟨j,want⟩:=p;rw[hg]at hw;obtain ⟨d,h1,h2⟩:=hw;have ab:=hd j want hg d h1;have oe:=h.slot d;have bc:a.tmps[d]? = some (a.tmps.getD d undef):=by simp[h.size,ab]
  simp only[yielded,h1,Option.bind_some,bc];rcases h2 with ⟨c,h3,rfl⟩|⟨h3,rfl⟩
  .rw[h3]at oe;rw[oe.val];rfl
  .rw[h3]at oe;rw[oe.val];rfl
theorem G_op{all:Array Oper}{o:Oper}{rest:List Oper}{U:Up}(hg:Good C.P o s U)(hw:∀b a w,St C.F C.n s b a w->Region.wanted o (yielded all a.tmps)=true)(hd:∀d,o.dst=some d->d<C.n)(h:G C (.ops all rest::k) (s.upd o.dst U)):G C (.ops all (o::rest)::k) s:=λb a w hs=>
 wpList_step λK hK=>by
  rw[zE (hw b a w hs)];exact hg b a w hs.inv (λx _=>hs.ev x) (λj _=>hs.obj j) K _ (λv b' w' st hi hv ho=>hK _ _ (h b' _ w' (hs.put hd st hi hv ho)))
theorem Ayj{all:Array Oper}{o:Oper}{rest:List Oper}(hw:∀b a w,St C.F C.n s b a w->Region.wanted o (yielded all a.tmps)=false)(hd:∀d,o.dst=some d->d<C.n)(h:G C (.ops all rest::k) (s.upd o.dst ⟨.val undef,[],[]⟩)):G C (.ops all (o::rest)::k) s:=λb a w hs=>
 wpList_step λK hK=>by
  rw[zD (by rw[hw b a w hs];simp)];exact hK _ _ (h b _ w (hs.put (U:=⟨.val undef,[],[]⟩) hd (Step.refl _ b w) hs.inv (by simp[Rd]) (λp hp=>by cases hp)))
def Bk:List (Nat×Nat)->Nat->Nat
 |[],k=>k
 |(a,b)::r,k=>bif Nat.beq a k then b else Bk r k
def mkσ:List (Nat×SV)->Nat->SV
 |[],_=>.top
 |(i,x)::r,j=>bif Nat.beq i j then x else mkσ r j
def mkh:List (Nat×Ob)->Nat->Ob
 |[],_=>.fresh
 |(i,x)::r,j=>bif Nat.beq i j then x else mkh r j
def mkS(L:List (Nat×SV))(O:Obs):SS:=⟨mkσ L,mkh O⟩
def Asw(k:List (Nat×Nat))(K:List Nat)(s:SS):List (Nat×SV)->Prop
 |[]=>True
 |(i,x)::r=>x.ren (Bk k)=s.σ i/\x.inn K=true/\Asw k K s r
def Ayh(k:List (Nat×Nat))(K:List Nat)(s:SS):Obs->Prop
 |[]=>True
 |(i,x)::r=>(x.ren (Bk k)=s.h (Bk k i)\/x=.non)/\x.inn K=true/\Ayh k K s r
def Yw(a:List (Nat×Nat))(bn:List Nat):List Nat->Bool
 |[]=>bn.all λk=>Nat.beq (Bk a k) k
 |k::r=>(r.all λj=>Nat.beq j k||!(Nat.beq (Bk a j) (Bk a k)))&&Yw a bn r
theorem Xq{a:List (Nat×Nat)}{bn:List Nat}:∀{K:List Nat},Yw a bn K=true->(∀i∈K,∀j∈K,Bk a i=Bk a j->i=j)/\∀k∈bn,Bk a k=k
 | [],h=>⟨by simp,λ k hk=>by
   simp only[Yw,yT]at h;exact yK (h k hk)⟩
 |k::r,h=>by
  simp only[Yw,zG,yT,yO,yU]at h;obtain ⟨h1,h2⟩:=h;obtain ⟨h3,h4⟩:=Xq h2;refine⟨λi hi j hj e=>?_,h4⟩;simp only[yI]at hi hj;rcases hi with rfl|hi<;>rcases hj with rfl|hj
  .rfl
  .rcases h1 j hj with h|h
   .exact(yK h).symm
   .rw[e]at h;simp at h
  .rcases h1 i hi with h|h
   .exact yK h
   .rw[e]at h;simp at h
  .exact h3 i hi j hj e
def bM(a:Ka)(b:Nat->Nat)(K:List Nat):Ka:=⟨λk=>bif S7 K k then a (b k) else .new,a.M⟩
theorem bL{a:Ka}{b:Nat->Nat}{K:List Nat}{k:Nat}(h:k∈K):bM a b K k=a (b k):=by simp[bM,memN_iff.2 h]
theorem Ak2{a:Ka}{b:Nat->Nat}{K:List Nat}{k:Nat}(h:k∉K):bM a b K k=.new:=by
 have:S7 K k=false:=by
  cases hm:S7 K k with
  |false=>rfl
  |true=>exact yA (memN_iff.1 hm) h
 simp[bM,this]
theorem Lu{a:Ka}{r:Nat->Nat}{K:List Nat}{k b:Nat}(h:(bM a r K k).block? = some b):k∈K/\(a (r k)).block? = some b:=by
 by_cases hk:k∈K
 .rw[bL hk]at h;exact⟨hk,h⟩
 .rw[Ak2 hk]at h;cases h
theorem bK{a:Ka}{r:Nat->Nat}{K:List Nat}(b:Nat)(h:¬Own a b):¬Own (bM a r K) b:=by
 rintro (⟨k,hk⟩|hk)
 .exact h (.inl ⟨_,(Lu hk).2⟩)
 .exact h (.inr hk)
theorem Azw{a:Ka}{w:World}{r:Nat->Nat}{K:List Nat}(hi:Inv a w)(jc:∀i∈K,∀j∈K,r i=r j->i=j):Inv (bM a r K) w :=
 ⟨λ i j b h1 h2=>by
   obtain ⟨a1,a2⟩:=Lu h1;obtain ⟨b1,b2⟩:=Lu h2;exact jc i a1 j b1 (hi.inj _ _ b a2 b2),
  λ k b h=>hi.bnd _ b (Lu h).2,λ k b h=>hi.apart _ b (Lu h).2,hi.mbnd⟩
theorem Azx{F:Fr}{a:Ka}{w:World}{r:Nat->Nat}{K bn:List Nat}(c:Ctx F a w)(hbn:∀k,F.k0 k≠.new->k∈bn)(hK:∀k∈bn,k∈K/\r k=k):Ctx F (bM a r K) w :=
 ⟨c.size,c.os,c.tape,c.output,c.M,c.old,λ k b h=>c.own _ b (Lu h).2,λ k hk=>by
  obtain ⟨h1,h2⟩:=hK k (hbn k hk);rw[bL h1,h2];exact c.nam k hk⟩
def Ahu(bn K:List Nat):Bool:=bn.all (S7 K)
structure Sub(C:Cx)(s:SS)(ρ:List (Nat×Nat))(L:List (Nat×SV))(O:Obs):Prop where
 slots:Asw ρ O.keys s L
 objs:Ayh ρ O.keys s O
 names:Yw ρ C.bn O.keys=true/\Ahu C.bn O.keys=true
theorem Sub.st{s:SS}{c:List (Nat×Nat)}{L:List (Nat×SV)}{O:Obs}(h:Sub C s c L O){m:Ka}{a:Act}{w:World}(hs:St C.F C.n s m a w):St C.F C.n (mkS L O) (bM m (Bk c) O.keys) a w:=by
 obtain ⟨jc,hbn⟩:=Xq h.names.1;have ar:∀k∈C.bn,k∈O.keys:=λk hk=>by
  have:=h.names.2;simp only[Ahu,yT]at this;exact memN_iff.1 (this k hk)
 have lj:Ren (Bk c) O.keys m (bM m (Bk c) O.keys):=⟨λk hk=>bL hk⟩
 refine⟨hs.defers,hs.size,Azw hs.inv jc,Azx hs.ctx C.hbn (λk hk=>⟨ar k hk,hbn k hk⟩),?_,?_⟩
 .intro i;have h1:=h.slots;revert h1;simp only[mkS];generalize hL:L=L';clear hL
  induction L' with
  |nil=>intro _;simp[mkσ,Rd]
  |cons p r ih=>
   obtain ⟨j,x⟩:=p;intro h1;simp only[Asw]at h1;simp only[mkσ,uP];split
   .rename_i hb;have:=yK hb;subst this;have h2:=hs.slot j;rw[<-h1.1]at h2;exact Rd.unren lj (λb _=>bK b) _ _ h1.2.1 h2
   .exact ih h1.2.2
 .intro i;have h1:=h.objs;have hK:∀p∈O,p.1∈O.keys:=λp hp=>yS.2 ⟨p,hp,rfl⟩
  have key:∀O':Obs,(∀p∈O',p.1∈O.keys)->Ayh c O.keys s O'->(i∈O'.map (·.1)->ObOK (bM m (Bk c) O.keys) w i (mkh O' i))/\(i∉O'.map (·.1)->mkh O' i=.fresh):=by
   intro O'
   induction O' with
   |nil=>intro _ _;exact⟨by simp,λ_=>rfl⟩
   |cons p r ih=>
    obtain ⟨j,x⟩:=p;intro hk h1;simp only[Ayh]at h1;obtain ⟨h2,h3⟩:=ih (λp hp=>hk p (by simp[hp])) h1.2.2;simp only[mkh,uP,xV,yI,uF];constructor
    .intro hm;split
     .rename_i hb;have:=yK hb;subst this;rcases h1.1 with h4|h4
      .have h5:=hs.obj (Bk c j);rw[<-h4]at h5;exact ObOK.unren lj (λb _=>bK b) (hk (j,x) y_) h1.2.1 h5
      .rw[h4];trivial
     .rename_i hb;exact h2 (hm.resolve_left (λe=>hb (by subst e;simp)))
    .rintro ⟨bj,cd⟩;rw[zD (λhb=>bj (yK hb).symm)];exact h3 cd
  obtain ⟨h2,h3⟩:=key O hK h1;by_cases hi:i∈O.map (·.1)
  .exact h2 hi
  .simp only[mkS];rw[h3 hi];exact Ak2 hi
theorem Xk{body:Code}{α:Type}(L:α->List (Nat×SV))(O:α->Obs)(d:α->Nat)(x₀:α)(r:List (Nat×Nat))(ar:Sub C s r (L x₀) (O x₀))(h:∀x,G C (.code body::.inv (λa w=>∃x' b,d x'<d x/\St C.F C.n (mkS (L x') (O x')) b a w)::k) (mkS (L x) (O x))):G C (.code (.loop body)::k) s:=λb a w hs=>by
 refine wp_loop_ghost (λm a w=>∃x b,d x=m/\St C.F C.n (mkS (L x) (O x)) b a w) (d x₀) ⟨x₀,_,E,ar.st hs⟩ ?_;rintro m a' w' ⟨x,b',rfl,ya⟩;refine wp_mono (h x b' a' w' ya) ?_;intro e a'' y2 hq;cases e with
 |normal=>
  obtain ⟨x',b'',h1,h2⟩:=hq;exact⟨d x',h1,x',b'',E,h2⟩
 |exit id=>exact hq
 |goto l=>exact hq
 |ret=>exact hq
 |panic c=>exact hq
 |outgrown=>exact hq
theorem Zj{α:Type}{L:α->List (Nat×SV)}{O:α->Obs}{μ:α->Nat}{x:α}(x':α)(r:List (Nat×Nat))(hμ:μ x'<μ x)(ar:Sub C s r (L x') (O x')):G C (.inv (λa w=>∃x' b,μ x'<μ x/\St C.F C.n (mkS (L x') (O x')) b a w)::k) s:=λ_ _ _ hs=>⟨x',_,hμ,ar.st hs⟩
variable {C:Cx} {k:List KI} {s:SS}
inductive ResV(Γ:TypeId->Option TI)(s:SS):ResultVar->SV->Prop
 |tmp {t:Nat}:ResV Γ s (.tmp t) (s.σ t)
 |cell {a:Nat} {t:TypeId} {k off:Nat} {l:List SV} {i:TI} {x:SV} (h1:s.σ a=.ptr k off) (h2:s.h k=.box l) (h3:Γ t=some i) (h4:O9 i l off=some x):ResV Γ s (.cell a t) x
inductive ResVs(Γ:TypeId->Option TI)(s:SS):List ResultVar->List SV->Prop
 |nil:ResVs Γ s [] []
 |cons {r:ResultVar} {rs:List ResultVar} {x:SV} {xs:List SV} (h:ResV Γ s r x) (hs:ResVs Γ s rs xs):ResVs Γ s (r::rs) (x::xs)
theorem Aq{Γ:TypeId->Option TI}{s:SS}{t:Nat}:ResVs Γ s [.tmp t] [s.σ t]:=.cons .tmp .nil
def Afb:List SV->SV
 |[x]=>x
 |xs=>.tup xs
theorem Azt{F:Fr}{n:Nat}{m:Ka}{a:Act}{w:World}{P:Program}{Γ:Ty P}(hs:St F n s m a w){r:ResultVar}{x:SV}(h:ResV Γ.get s r x):∃v,(match r with| .tmp t=>(pure (a.tmps.getD t undef):Sem Value)| .cell b t=>do loadVar t (<-asAddr (a.tmps.getD b undef))).run P w=.ok v w/\Rd m w x v:=by
 cases h with
 | @tmp t=>exact⟨_,rfl,hs.slot t⟩
 | @cell b t k off l i x h1 h2 h3 h4=>
  have hp:=hs.slot b;have ho:=hs.obj k;rw[h2]at ho;obtain ⟨bb,e1,e2⟩:=ho.cellsAt;rw[h1]at hp;simp only[Rd,e1]at hp;obtain ⟨v,e3,e4⟩:=Ou (P:=P) Γ h3 e2 h4;rw[wF]at e3;refine⟨v,?_,e4⟩;simp only[hp,Sem.run_bind,asAddr,Sem.run_pure,Result.andThen_ok,e3]
theorem V2{F:Fr}{n:Nat}{k:Ka}{a:Act}{w:World}{P:Program}{Γ:Ty P}(hs:St F n s k a w){fn:Func}{rs:List ResultVar}(hf:fn.results=rs.toArray){xs:List SV}(h:ResVs Γ.get s rs xs):∃v,(results fn a.tmps).run P w=.ok v w/\Rd k w (Afb xs) v:=by
 have key:∀(rs:List ResultVar) (xs:List SV),ResVs Γ.get s rs xs->∃vs:List Value,(rs.mapM (λ(r:ResultVar)=>match r with| .tmp t=>(pure (a.tmps.getD t undef):Sem Value)| .cell b t=>do loadVar t (<-asAddr (a.tmps.getD b undef)))).run P w=.ok vs w/\RdL k w xs vs:=by
  intro rs xs h
  induction h with
  |nil=>exact⟨[],by simp,by simp[RdL]⟩
  | @cons r rs x xs h ya ih=>
   obtain ⟨v,h1,h2⟩:=Azt (P:=P) (Γ:=Γ) hs h;obtain ⟨vs,h3,h4⟩:=ih;refine⟨v::vs,?_,by simp only[RdL];exact⟨v,vs,E,h2,h4⟩⟩;simp only[List.mapM_cons,Sem.run_bind,h1,Result.andThen_ok,h3,Sem.run_pure]
 obtain ⟨vs,h1,h2⟩:=key rs xs h;have au:(fn.results.mapM (λ(r:ResultVar)=>match r with| .tmp t=>(pure (a.tmps.getD t undef):Sem Value)| .cell b t=>do loadVar t (<-asAddr (a.tmps.getD b undef)))).run P w=.ok vs.toArray w:=by
  rw[hf,Array.mapM_eq_mapM_toList];simp only[Sem.run_map,h1,Result.andThen_ok]
 refine⟨if h:vs.toArray.size=1 then vs.toArray[0] else .tuple vs.toArray,?_,?_⟩
 .unfold results;rw[Sem.run_bind];change ((Sem.run P (fn.results.mapM (λ(r:ResultVar)=>match r with| .tmp t=>(pure (a.tmps.getD t undef):Sem Value)| .cell b t=>do loadVar t (<-asAddr (a.tmps.getD b undef)))) w).andThen λq w'=>Sem.run P (pure (if h:q.size=1 then q[0] else Value.tuple q)) w')=_;rw[au];rfl
 .have hlen:=h2.length
  match xs,hlen,h2 with
  |[],hlen,h2=>
   simp only[RdL]at h2;subst h2;simp[Afb,Rd,RdL]
  |[x],hlen,h2=>
   simp only[RdL]at h2;obtain ⟨v,r,rfl,h3,rfl⟩:=h2;simpa [Afb] using h3
  |x::y::xs,hlen,h2=>
   have af:vs.toArray.size≠1:=by simp at hlen|-;omega
   rw[dif_neg af];simp only[Afb,Rd];exact⟨vs,E,h2⟩
def argσ(A:List SV):Nat->SV:=λi=>match Iu A i with|some x=>x|none=>.val undef
theorem RdL.getD{k:Ka}{w:World}:∀{A:List SV} {vs:List Value} (m i:Nat),RdL k w A vs->Rd k w (argσ A i) ((vs++List.replicate m undef).getD i undef)
 |[],vs,m,i,h=>by
  simp only[RdL]at h;subst h;have:argσ [] i=.val undef:=by cases i<;>rfl
  rw[this];simp only[Rd,wL,wJ,uV];split<;>rfl
 |x::A,vs,m,0,h=>by
  simp only[RdL]at h;obtain ⟨v,r,rfl,h1,h2⟩:=h;simpa [argσ,Iu] using h1
 |x::A,vs,m,i+1,h=>by
  simp only[RdL]at h;obtain ⟨v,r,rfl,h1,h2⟩:=h;have:=RdL.getD (i:=i) m h2;simpa [argσ,Iu] using this
def Yp(P:Program)(fn:Func)(F:Fr)(R:SV)(H':Obs):Exit->Act->World->Prop:=match F.ds with
 |[]=>bodyPost P fn λe w'=>∃v k',e=.returned v/\Ctx F k' w'/\Inv k' w'/\Rd k' w' R v/\H'.ok k' w'
 |_=>λ_ _ _=>True
theorem Aqu{k:Ka}{w:World}:∀{O:Obs} {i:Nat},(∀p∈O,ObOK k w p.1 p.2)->(i∉O.map (·.1)->k i=.new)->ObOK k w i (mkh O i)
 |[],i,_,h=>h y_
 |(j,x)::r,i,h1,h2=>by
  simp only[mkh,uP];split
  .rename_i hb;have:=yK hb;subst this;exact h1 (j,x) y_
  .rename_i hb;exact Aqu (λ p hp=>h1 p (by simp[hp])) (λ hi=>h2 (by
    simp only[xV,yI,uF];exact⟨λ e=>hb (by subst e;simp),hi⟩))
theorem Au8{P:Program}(Γ:Ty P){f:FuncId}{fn:Func}{c:Code}{A:List SV}{H:Obs}{R:SV}{H':Obs}(hf:P.funcs[f]? = some fn)(hb:fn.body=some c){n:Nat}(mg:fn.ntmps=n)(hn:A.length<=n)(h:∀(F:Fr) (hF:∀k,F.k0 k≠.new->k∈H.keys),G ⟨P,Γ,F,n,Yp P fn F R H',H.keys,hF⟩ [.code c] ⟨argσ A,mkh H⟩):Spec P f A H R H':=by
 subst mg;intro a w vs hi az hA hH;refine calls_of_wp hf hb ?_;have hlen:=hA.length;refine h ⟨w,a,[]⟩ az a _ w ⟨E,?_,hi,Ctx.refl a w,?_,?_⟩
 .simp;omega
 .intro i;have:=hA.getD (fn.ntmps-vs.length) i;have he:(vs.toArray++Array.replicate (fn.ntmps-vs.length) undef)=(vs++List.replicate (fn.ntmps-vs.length) undef).toArray:=by simp
  show Rd a w _ ((vs.toArray++Array.replicate (fn.ntmps-vs.toArray.size) undef).getD i undef);rw[tD,he];simpa using this
 .intro k;exact Aqu hH (λhk=>Classical.byContradiction λaf=>hk (az k af))
theorem Atf{P:Program}{fn:Func}{F:Fr}{R:SV}{H':Obs}{Γ:Ty P}{n:Nat}{bn:List Nat}{hbn:∀k,F.k0 k≠.new->k∈bn}{rs:List ResultVar}(hf:fn.results=rs.toArray){xs:List SV}(hx:ResVs Γ.get s rs xs)(c:List (Nat×Nat))(L:Obs)(hL:∀p∈H',p∈L)(hR:R.ren (Bk c)=Afb xs)(ou:R.inn L.keys=true)(ar:Sub ⟨P,Γ,F,n,Yp P fn F R H',bn,hbn⟩ s c [] L){m:Ka}{a:Act}{w:World}(hs:St F n s m a w):Yp P fn F R H' .ret a w/\Yp P fn F R H' .normal a w:=by
 obtain ⟨v,h1,h2⟩:=V2 (P:=P) (Γ:=Γ) hs hf hx;have br:=ar.st hs;have lj:Ren (Bk c) L.keys m (bM m (Bk c) L.keys):=⟨λk hk=>bL hk⟩
 rw[<-hR]at h2;have h3:=Rd.unren lj (λb _=>bK b) _ _ ou h2;have hO:H'.ok (bM m (Bk c) L.keys) w:=λp hp=>by
  have hpL:=hL p hp;have h1:=ar.objs;have key:∀O':Obs,(∀q∈O',q.1∈L.keys)->Ayh c L.keys s O'->∀q∈O',ObOK (bM m (Bk c) L.keys) w q.1 q.2:=by
   intro O'
   induction O' with
   |nil=>intro _ _ q hq;cases hq
   |cons q r ih=>
    obtain ⟨j,x⟩:=q;intro hk hm q hq;simp only[Ayh]at hm;rcases yI.1 hq with rfl|hq
    .rcases hm.1 with h4|h4
     .have h5:=hs.obj (Bk c j);rw[<-h4]at h5;exact ObOK.unren lj (λb _=>bK b) (hk (j,x) y_) hm.2.1 h5
     .show ObOK _ _ j x;rw[h4];trivial
    .exact ih (λq hq=>hk q (by simp[hq])) hm.2.2 q hq
  exact key L (λq hq=>yS.2 ⟨q,hq,E⟩) h1 p hpL
 have gj:∃v' m',Ending.returned v=.returned v'/\Ctx F m' w/\Inv m' w/\Rd m' w R v'/\H'.ok m' w:=⟨v,_,rfl,br.ctx,br.inv,h3,hO⟩
 have h0:=hs.defers;unfold Yp;cases hd:F.ds with
 |nil=>
  rw[hd]at h0;exact⟨⟨h0,v,h1,gj⟩,⟨h0,v,h1,gj⟩⟩
 |cons=>exact⟨trivial,trivial⟩
theorem G_set(d:Nat){x:SV}(h:∀b w v,Rd b w (s.σ d) v->Rd b w x v)(hg:G C k ⟨upd s.σ d x,s.h⟩):G C k s:=λb a w hs=>
 hg b a w ⟨hs.defers,hs.size,hs.inv,hs.ctx,λ i=>by
  show Rd b w (upd s.σ d x i) _;by_cases hi:i=d
  .subst hi;rw[B1];exact h b w _ (hs.slot i)
  .rw[Cz _ _ hi];exact hs.slot i,hs.obj⟩
theorem Aoh(d:Nat){sz:Nat}{m:Type}{e:m->SV}{l:List m}{svs:List SV}(h:s.h d=.lit sz svs)(hl:l.map e=svs)(hg:G C k ⟨s.σ,upd s.h d (.row sz e l)⟩):G C k s:=λr a w hs=>
 hg r a w ⟨hs.defers,hs.size,hs.inv,hs.ctx,hs.slot,λ i=>by
  show ObOK r w i (upd s.h d (.row sz e l) i);by_cases hi:i=d
  .subst hi;rw[B1];have:=hs.obj i;rw[h]at this;obtain ⟨b,cap,cs,T,fr,e1,e2,e3,e4,e5,e6⟩:=this;have hlen:l.length=svs.length:=by rw[<-hl];simp
   exact .inr ⟨b,cap,cs,T,fr,by rw[hlen];exact e1,e2,e3,e4,by omega,λi x hx=>by rw[hlen];exact e6 i x (Sx hl i x hx)⟩
  .rw[Cz _ _ hi];exact hs.obj i⟩
theorem Ca(i d sz:Nat){m:Type}(e:m->SV)(h:s.σ i=.val (.slice none 0 0))(hd:s.h d=.fresh)(hg:G C k ⟨upd s.σ i (.osl d),upd s.h d (.row sz e [])⟩):G C k s:=λr a w hs=>by
 have az:r d=.new:=by have:=hs.obj d;rwa [hd]at this
 obtain ⟨st,inv⟩:=Ky hs.inv az (e:=.nil) (Grew.refl w) (λb hb=>by cases hb);refine hg (Em r d .nil) a w ⟨hs.defers,hs.size,inv,hs.ctx.step inv st,λj=>?_,λj=>?_⟩
 .show Rd _ w (upd s.σ i (.osl d) j) _;by_cases hj:j=i
  .subst hj;rw[B1];have:=hs.slot j;rw[h]at this;simp[Rd,Ay,this.val]
  .rw[Cz _ _ hj];exact Rd.step st _ _ (hs.slot j)
 .show ObOK _ w j (upd s.h d (.row sz e []) j);by_cases hj:j=d
  .subst hj;rw[B1];exact .inl ⟨Ay _ _ _,rfl⟩
  .rw[Cz _ _ hj];exact ObOK.step st hj _ (hs.obj j)
def freezeσ(σ:Nat->SV)(x:SV):List Nat->Nat->SV
 |[]=>σ
 |i::r=>freezeσ (upd σ i x) x r
theorem RowAt.freeze{k k':Ka}{w:World}{d sz:Nat}{a:Type}{e:a->SV}{l:List a}(h:RowAt k w d sz l.length (rowF e l)){v:Value}(hv:Rd k w (.osl d) v)(ho:∀b,b<w.heap.size->¬Own k b->¬Own k' b)(hd:∀b,(k d).block? = some b->b<w.heap.size/\¬Own k' b):Rd k' w (.sl sz e l) v:=by
 obtain ⟨b,cap,cs,T,fr,e1,e2,e3,e4,e5,e6⟩:=h;simp only[Rd,e1]at hv;obtain ⟨h1,h2⟩:=hd b (by rw[e1];rfl);simp only[Rd,RdD];refine .inr ⟨b,0,cap,hv,e5,h2,h1,λi hi=>?_⟩;obtain ⟨h0,u,u1,u2,u3,u4⟩:=e6 i (e l[i]) ⟨hi,rfl⟩;refine⟨u,RdD.keep ⟨yE _,λ_ _ _=>rfl,ho⟩ _ _ u1,u2,u3,λj hj=>?_⟩;rw[wF,cell_of_row w b _ cs.toArray T fr e2];simpa using u4 j hj
theorem freezeσ_ok{k:Ka}{w:World}{a:Act}{x:SV}:∀(r:List Nat) (σ:Nat->SV) (i:Nat),Rd k w (σ i) (a.tmps.getD i undef)->(i∈r->Rd k w x (a.tmps.getD i undef))->Rd k w (freezeσ σ x r i) (a.tmps.getD i undef)
 |[],σ,i,h,_=>h
 |j::r,σ,i,h,h'=>by
  refine freezeσ_ok r (upd σ j x) i ?_ (λhi=>h' (by simp[hi]));by_cases hj:i=j
  .subst hj;rw[B1];exact h' y_
  .rw[Cz _ _ hj];exact h
variable {C:Cx} {k:List KI} {s:SS}
structure Fun(P:Program)(f:FuncId)(fn:Func)(c:Code):Prop where
 has:P.funcs[f]? = some fn
 body:fn.body=some c
 name : (fn.name == "runtime.NumGoroutine") = false
theorem M9{P:Program}{f:FuncId}{fn:Func}{c:Code}(h:Fun P f fn c)(args:Array Value)(w:World):(callFunc f args).run P w=.ok (.enter f args) w:=by
 have hn : ¬fn.name = "runtime.NumGoroutine" := kS h.name;simp[callFunc,h.has,hn,h.body]
theorem Spec.at{P:Program}{f:FuncId}{A:List SV}{H:Obs}{R:SV}{H':Obs}(h:Spec P f A H R H'){ρ:Nat->Nat}(jc:∀i∈H'.keys,∀j∈H'.keys,ρ i=ρ j->i=j)(qq:∀k∈H.keys,k∈H'.keys)(ze:B7 H.keys A=true)(hHn:∀p∈H,p.2.inn H.keys=true)(ou:R.inn H'.keys=true)(hHn':∀p∈H',p.2.inn H'.keys=true){a:Ka}{w:World}{vs:List Value}(hi:Inv a w)(hA:RdL a w (Ma ρ A) vs)(hH:∀p∈H,ObOK a w (ρ p.1) (p.2.ren ρ))(az:∀k∈H'.keys,k∉H.keys->a (ρ k)=.new):Calls P f vs.toArray w λe w'=>∃v a',e=.returned v/\Step (λn=>∃k∈H'.keys,ρ k=n) a w a' w'/\Inv a' w'/\Rd a' w' (R.ren ρ) v/\∀p∈H',ObOK a' w' (ρ p.1) (p.2.ren ρ):=by
 let ac:Ka:=⟨λk=>if k∈H.keys then a (ρ k) else .new,λb=>a.M b\/∃n,(∀k∈H.keys,ρ k≠n)/\(a n).block? = some b⟩
 have uo:∀k,k∈H.keys->ac k=a (ρ k):=λk hk=>by simp[ac,hk]
 have lr:∀k,k∉H.keys->ac k=.new:=λk hk=>by simp[ac,hk]
 have nq:∀k b,(ac k).block? = some b->k∈H.keys/\(a (ρ k)).block? = some b:=λk b hb=>by
  by_cases hk:k∈H.keys
  .rw[uo k hk]at hb;exact⟨hk,hb⟩
  .rw[lr k hk]at hb;cases hb
 have hic:Inv ac w:=by
  refine⟨λi j b h1 h2=>?_,λj b h1=>hi.bnd _ b (nq j b h1).2,λj b h1 hm=>?_,λb hm=>?_⟩
  .obtain ⟨a1,a2⟩:=nq i b h1;obtain ⟨b1,b2⟩:=nq j b h2;exact jc i (qq i a1) j (qq j b1) (hi.inj _ _ b a2 b2)
  .obtain ⟨a1,a2⟩:=nq j b h1;rcases hm with hm|⟨n,hn,hm⟩
   .exact hi.apart _ b a2 hm
   .exact hn j a1 (hi.inj _ _ b a2 hm)
  .rcases hm with hm|⟨n,_,hm⟩
   .exact hi.mbnd b hm
   .exact hi.bnd n b hm
 have pg:∀b,b<w.heap.size->¬Own a b->¬Own ac b:=by
  rintro b _ hn (⟨j,hj⟩|(hm|⟨n,_,hm⟩))
  .exact hn (.inl ⟨_,(nq j b hj).2⟩)
  .exact hn (.inr hm)
  .exact hn (.inl ⟨n,hm⟩)
 have lj:Ren ρ H.keys a ac:=⟨λk hk=>uo k hk⟩
 have hA':RdL ac w A vs:=RdL.unren lj pg A vs ze hA;have hH':Obs.ok ac w H:=λp hp=>ObOK.unren lj pg (yS.2 ⟨p,hp,rfl⟩) (hHn p hp) (hH p hp)
 refine(h ac w vs hic (λj hj=>Classical.byContradiction λhn=>hj (lr j hn)) hA' hH').mono ?_;rintro e w' ⟨v,ad,rfl,cj,hid,hR,hO⟩
 let pick:Nat->Option Nat:=λn=>H'.keys.find? (λk=>decide (ρ k=n))
 let a':Ka:=⟨λn=>match pick n with|some k=>ad k|none=>a n,a.M⟩
 have gb:∀k,k∈H'.keys->pick (ρ k)=some k:=λk hk=>by
  cases hf:pick (ρ k) with
  |none=>
   have:=List.find?_eq_none.1 hf k hk;simp at this
  |some j=>
   have h1:=List.find?_some hf;have h2:=List.mem_of_find?_eq_some hf;rw[jc j h2 k hk (zO h1)]
 have em:∀n,(∀k∈H'.keys,ρ k≠n)->pick n=none:=λn hn=>List.find?_eq_none.2 (λk hk=>kS (hn k hk))
 have cy:∀k,k∈H'.keys->a' (ρ k)=ad k:=λk hk=>by show (match pick (ρ k) with|some k=>ad k|none=>a (ρ k))=ad k;rw[gb k hk]
 have cx:∀n,(∀k∈H'.keys,ρ k≠n)->a' n=a n:=λn hn=>by show (match pick n with|some k=>ad k|none=>a n)=a n;rw[em n hn]
 have dg:∀n,(∃k∈H'.keys,ρ k=n)\/(∀k∈H'.keys,ρ k≠n):=λn=>by
  by_cases hn:∃k∈H'.keys,ρ k=n
  .exact .inl hn
  .exact .inr (λk hk e=>hn ⟨k,hk,e⟩)
 have hMd:ad.M=ac.M:=cj.M;have wc:∀b,b<w.heap.size->(∀j,(ac j).block? ≠ some b)->w'.heap[b]? = w.heap[b]?:=λb hb hn=>cj.old b hb hn
 have jt:∀j b,(ad j).block? = some b->w.heap.size<=b\/∃i∈H.keys,(a (ρ i)).block? = some b:=λj b hj=>by
  rcases cj.own j b hj with h1|⟨i,h1⟩
  .exact .inl h1
  .exact .inr ⟨i,nq i b h1⟩
 have i7:Step (λn=>∃k∈H'.keys,ρ k=n) a w a' w':=by
  refine⟨cj.size,cj.os,cj.tape,cj.output,E,λb hm=>?_,λb hb hn=>?_,λn b hn hb=>?_,λn hn=>cx n (λk hk e=>hn ⟨k,hk,e⟩),?_,?_⟩
  .exact wc b (hi.mbnd b hm) (λj hj=>hi.apart _ b (nq j b hj).2 hm)
  .exact wc b hb (λj hj=>hn (.inl ⟨_,(nq j b hj).2⟩))
  .refine wc b (hi.bnd n b hb) (λj hj=>?_);obtain ⟨a1,a2⟩:=nq j b hj;exact hn ⟨j,qq j a1,hi.inj _ _ b a2 hb⟩
  .rintro n ⟨j,hj,rfl⟩;rw[cy j hj];by_cases hjH:j∈H.keys
   .by_cases zf:a (ρ j)=.new
    .exact .inl zf
    .have:=cj.nam j (by show ac j≠.new;rw[uo j hjH];exact zf);rw[<-uo j hjH];exact .inr this
   .exact .inl (az j hj hjH)
  .rintro b (⟨n,hn⟩|hn)
   .rcases dg n with ⟨j,hj,rfl⟩|af
    .rw[cy j hj]at hn;rcases jt j b hn with h1|⟨i,_,h1⟩
     .exact .inr h1
     .exact .inl (.inl ⟨_,h1⟩)
    .rw[cx n af]at hn;exact .inl (.inl ⟨n,hn⟩)
   .exact .inl (.inr hn)
 have hinv:Inv a' w':=by
  have mixed:∀j∈H'.keys,∀n,(∀k∈H'.keys,ρ k≠n)->∀b,(ad j).block? = some b->(a n).block? = some b->False:=λj hj n hn b h1 h2=>by
   rcases jt j b h1 with h3|⟨i,hi',h3⟩
   .have:=hi.bnd n b h2;omega
   .exact hn i (qq i hi') (hi.inj _ _ b h3 h2)
  refine⟨λm n b h1 h2=>?_,λn b h1=>?_,λn b h1 hm=>?_,λb hm=>xA (hi.mbnd b hm) cj.size⟩
  .rcases dg m with ⟨i,hi',rfl⟩|hm<;>rcases dg n with ⟨j,hj,rfl⟩|hn
   .rw[cy i hi']at h1;rw[cy j hj]at h2;rw[hid.inj i j b h1 h2]
   .rw[cy i hi']at h1;rw[cx n hn]at h2;exact(mixed i hi' n hn b h1 h2).elim
   .rw[cx m hm]at h1;rw[cy j hj]at h2;exact(mixed j hj m hm b h2 h1).elim
   .rw[cx m hm]at h1;rw[cx n hn]at h2;exact hi.inj m n b h1 h2
  .rcases dg n with ⟨j,hj,rfl⟩|hn
   .rw[cy j hj]at h1;exact hid.bnd j b h1
   .rw[cx n hn]at h1;exact xA (hi.bnd n b h1) cj.size
  .rcases dg n with ⟨j,hj,rfl⟩|hn
   .rw[cy j hj]at h1;exact hid.apart j b h1 (by rw[hMd];exact .inl hm)
   .rw[cx n hn]at h1;exact hi.apart n b h1 hm
 have u6:Ren ρ H'.keys a' ad:=⟨λk hk=>(cy k hk).symm⟩
 have u7:∀b,b<w'.heap.size->¬Own ad b->¬Own a' b:=by
  rintro b _ hn (⟨n,h1⟩|h1)
  .rcases dg n with ⟨j,hj,rfl⟩|af
   .rw[cy j hj]at h1;exact hn (.inl ⟨j,h1⟩)
   .rw[cx n af]at h1;exact hn (.inr (by rw[hMd];exact .inr ⟨n,λk hk=>af k (qq k hk),h1⟩))
  .exact hn (.inr (by rw[hMd];exact .inl h1))
 exact⟨v,a',E,i7,hinv,Rd.ren u6 u7 R v ou hR,λp hp=>ObOK.ren u6 u7 (yS.2 ⟨p,hp,E⟩) (hHn' p hp) (hO p hp)⟩
def Qm(A:List SV)(H:Obs)(R:SV)(H':Obs)(k:List (Nat×Nat)):Bool :=
 Yw k [] H'.keys&&Ahu H.keys H'.keys&&B7 H.keys A&&(H.all λp=>p.2.inn H.keys)&&R.inn H'.keys&&(H'.all λp=>p.2.inn H'.keys)
def nE(s:SS)(a:List (Nat×Nat))(K:List Nat):List Nat->Prop
 |[]=>True
 |k::r=>(S7 K k=true\/s.h (Bk a k)=.fresh)/\nE s a K r
def oL(s:SS)(k:List (Nat×Nat)):Obs->Prop
 |[]=>True
 |(i,x)::r=>x.ren (Bk k)=s.h (Bk k i)/\oL s k r
def T8(k:List (Nat×Nat)):Obs->Obs
 |[]=>[]
 |(i,x)::r=>(Bk k i,x.ren (Bk k))::T8 k r
theorem S1(k:List (Nat×Nat)):∀H:Obs,T8 k H=H.map λp=>(Bk k p.1,p.2.ren (Bk k))
 |[]=>rfl
 |(i,x)::r=>by simp[T8,S1 k r]
def U7(P:Program)(o:Oper)(s:SS)(rd:List Nat)(f:FuncId)(B:List SV):Prop :=
 ∀(b:Ka) (a:Act) (w:World),(∀x∈o.op.operands,Rd b w (ev s x) (a.eval x))->(∀k∈rd,ObOK b w k (s.h k))->∃vs:List Value,(execOp a.eval o).run P w=.ok (.enter f vs.toArray) w/\RdL b w B vs
theorem nW{P:Program}{o:Oper}{s:SS}{f:FuncId}{fn:Func}{c:Code}{xs:List Operand}{ts:Array TypeId}(h:o.op=.call ⟨.value (.func f),xs.toArray,ts⟩)(hf:Fun P f fn c):U7 P o s [] f (xs.map (ev s)) :=
 λk a w hr _=>by
  refine⟨xs.map a.eval,?_,Sa xs (λx hx=>hr x (by simp[h,Op.operands,Call.operands,hx]))⟩;have:=M9 hf (xs.map a.eval).toArray w;simp[execOp,h,resolve,Act.eval,Deferred.ofValue,invoke]at this|-;exact this
theorem Aw{P:Program}{o:Oper}{s:SS}{f:FuncId}{fn:Func}{c:Code}{x:Operand}{xs:List Operand}{ts:Array TypeId}{first cap:List SV}(h:o.op=.call ⟨.value x,xs.toArray,ts⟩)(hx:ev s x=.clo (.func f) first cap)(hf:Fun P f fn c):U7 P o s [] f (first++xs.map (ev s)++cap) :=
 λk a w hr _=>by
  have h1:=hr x (by simp[h,Op.operands,Call.operands]);rw[hx]at h1;simp only[Rd]at h1;obtain ⟨fs,cs,e1,e2,e3⟩:=h1;refine⟨fs++xs.map a.eval++cs,?_,RdL.append (RdL.append e2 (Sa xs (λy hy=>hr y (by simp[h,Op.operands,Call.operands,hy])))) e3⟩;have:=M9 hf (fs++xs.map a.eval++cs).toArray w;simp only[execOp,h,resolve,Deferred.ofValue,invoke,e1,Sem.run_bind,Sem.run_pure,Result.andThen_ok]at this|-;rw[<-this];simp
theorem Av{P:Program}{o:Oper}{s:SS}{f:FuncId}{rd:List Nat}{B:List SV}{A:List SV}{H:Obs}{R:SV}{H':Obs}(m:List (Nat×Nat))(hE:U7 P o s rd f B)(hs:Spec P f A H R H')(hA:Ma (Bk m) A=B)(hH:oL s m H)(aq:Qm A H R H' m=true)(az:nE s m H.keys H'.keys):Good P o s ⟨R.ren (Bk m),rd,T8 m H'⟩:=by
 intro b a w hi hr ho N Q hN;simp only[Qm,zG,yT]at aq;obtain ⟨⟨⟨⟨⟨c1,c2⟩,c3⟩,c4⟩,c5⟩,c6⟩:=aq;obtain ⟨jc,_⟩:=Xq c1;have qq:∀k∈H.keys,k∈H'.keys:=λk hk=>by
  simp only[Ahu,yT]at c2;exact memN_iff.1 (c2 k hk)
 have j6:∀k∈H'.keys,Bk m k∈(Up.mk (R.ren (Bk m)) rd (T8 m H')).ws:=λk hk=>by
  obtain ⟨p,hp,rfl⟩:=yS.1 hk;simp only[Up.ws,S1,List.map_map,yS];exact⟨p,hp,E⟩
 obtain ⟨vs,au,rp⟩:=hE b a w hr (λk hk=>ho k (.inl hk));have jx:RdL b w (Ma (Bk m) A) vs:=by rw[hA];exact rp
 have hHk:∀H0:Obs,(∀p∈H0,p∈H)->oL s m H0->∀p∈H0,ObOK b w (Bk m p.1) (p.2.ren (Bk m)):=by
  intro H0
  induction H0 with
  |nil=>intro _ _ p hp;cases hp
  |cons q r ih=>
   obtain ⟨i,x⟩:=q;intro ar he p hp;simp only[oL]at he;rcases yI.1 hp with rfl|hp
   .have hk:i∈H.keys:=yS.2 ⟨(i,x),ar _ y_,rfl⟩;rw[he.1];exact ho _ (.inr (j6 i (qq i hk)))
   .exact ih (λq hq=>ar q (by simp[hq])) he.2 p hp
 have hnk:∀k∈H'.keys,k∉H.keys->b (Bk m k)=.new:=by
  have key:∀K:List Nat,(∀k∈K,k∈H'.keys)->nE s m H.keys K->∀k∈K,k∉H.keys->b (Bk m k)=.new:=by
   intro K
   induction K with
   |nil=>intro _ _ k hk;cases hk
   |cons j r ih=>
    intro ar hn k hk kc;simp only[nE]at hn;rcases yI.1 hk with rfl|hk
    .rcases hn.1 with h1|h1
     .exact yA (memN_iff.1 h1) kc
     .have:=ho _ (.inr (j6 k (ar k y_)));rw[h1]at this;exact this
    .exact ih (λk hk=>ar k (by simp[hk])) hn.2 k hk kc
  exact key _ (λ_ hk=>hk) az
 have eh:=hs.at (ρ:=Bk m) jc qq c3 (λp hp=>c4 p hp) c5 (λp hp=>c6 p hp) hi jx (hHk H (λ_ hp=>hp) hH) hnk;simp only[Oper.wp,au,Oper.upon];refine eh.mono ?_;rintro e w' ⟨v,b',rfl,st,inv,hv,hO⟩;refine hN v b' w' (st.weaken ?_) inv hv (λp hp=>?_)
 .rintro n ⟨j,hj,rfl⟩;exact j6 j hj
 .simp only[S1,yS]at hp;obtain ⟨q,hq,rfl⟩:=hp;exact hO q hq
def Jz(k:Ka):List Nat->Ka
 |[]=>k
 |n::V=>Jz (Em k n .dead) V
theorem Atq(k:Ka):∀V:List Nat,(Jz k V).M=k.M
 |[]=>rfl
 |n::V=>by rw[Jz,Atq];rfl
theorem Kb{w:World}:∀(V:List Nat) (k:Ka),Inv k w->Step (·∈V) k w (Jz k V) w/\Inv (Jz k V) w
 |[],k,hi=>⟨Step.refl _ k w,hi⟩
 |n::V,k,hi=>by
  have h1:=Kg (κ:=k) (w:=w) (some n);have h2:=Mh hi (some n);obtain ⟨h3,h4⟩:=Kb V (Em k n .dead) h2;exact⟨(h1.weaken (λj hj=>by simp only[Option.some.injEq]at hj;subst hj;simp)).trans (h3.weaken (λj hj=>by simp[hj])),h4⟩
theorem Acj(k:Ka):∀(V:List Nat) (n:Nat),n∈V\/k n=.dead->Jz k V n=.dead
 |[],n,h=>h.resolve_left y_
 |m::V,n,h=>by
  rw[Jz];apply Acj;by_cases hm:n=m
  .subst hm;right;exact Ay _ _ _
  .rcases h with h|h
   .left;simpa [hm] using h
   .right;rw[Cc _ _ hm];exact h
theorem Aci(k:Ka):∀(V:List Nat) (n:Nat),n∉V->Jz k V n=k n
 |[],n,_=>rfl
 |m::V,n,h=>by
  simp only[yI,uF]at h;rw[Jz,Aci _ V n h.2,Cc _ _ h.1]
theorem Agc{k:Ka}{w:World}(hi:Inv k w){V:List Nat}{n b:Nat}(hn:n∈V)(hb:(k n).block? = some b):¬Own (Jz k V) b:=by
 rintro (⟨j,hj⟩|hj)
 .by_cases hjV:j∈V
  .rw[Acj k V j (.inl hjV)]at hj;cases hj
  .rw[Aci k V j hjV]at hj;exact hjV (by rw[hi.inj j n b hj hb];exact hn)
 .rw[Atq]at hj;exact hi.apart n b hb hj
mutual
inductive Vw(s:SS)(V:List Nat):SV->SV->Prop
 |refl (x:SV):Vw s V x x
 |row {n sz:Nat} {α:Type} {e:α->SV} {l:List α} (h:s.h n=.row sz e l) (hn:S7 V n=true):Vw s V (.osl n) (.sl sz e l)
 |lit {n sz:Nat} {α:Type} {e:α->SV} {l:List α} {svs:List SV} (h:s.h n=.lit sz svs) (hl:l.map e=svs) (hn:S7 V n=true):Vw s V (.osl n) (.sl sz e l)
 |nil {sz:Nat} {α:Type} {e:α->SV}:Vw s V (.val (.slice none 0 0)) (.sl sz e [])
 |box {n sz o:Nat} {y:SV} {l:List SV} (h:s.h n=.box l) (hl:cellsOf y=l) (hc:(y.boxed&&y.data&&Nat.beq l.length sz)=true) (hn:S7 V n=true):Vw s V (.ptr n o) (.ref sz y o)
 |agg {l m:List SV} (h:VwL s V l m):Vw s V (.agg l) (.agg m)
inductive VwL(s:SS)(V:List Nat):List SV->List SV->Prop
 |nil:VwL s V [] []
 |cons {x y:SV} {l m:List SV} (h:Vw s V x y) (hs:VwL s V l m):VwL s V (x::l) (y::m)
end
def An2{k k':Ka}{w:World}{d sz:Nat}{l:List SV}{x:SV}(h:ObOK k w d (.box l))(hl:cellsOf x=l)(hb:x.boxed=true)(bg:l.length=sz)(ho:∀b,b<w.heap.size->¬Own k b->¬Own k' b)(rq:∀b,(k d).block? = some b->b<w.heap.size/\¬Own k' b)(zg:x.data=true)(o:Nat)(v:Value)(hv:Rd k w (.ptr d o) v):Rd k' w (.ref sz x o) v:=by
 obtain ⟨b,cs,T,fr,e1,e2,e3,e4,e5⟩:=h;simp only[Rd,e1]at hv;obtain ⟨h1,h2⟩:=rq b (by rw[e1];rfl);rw[<-hl]at e5;obtain ⟨u,f1,f2⟩:=Rd.of_cells hb e4 e5;simp only[Rd,RdD];refine⟨b,0,u,by rw[wF];exact hv,h2,h1,RdD.keep ⟨yE _,λ_ _ _=>rfl,ho⟩ _ _ (Rd.data _ _ zg f1),?_,by rw[f2];exact e4,λj hj=>?_⟩
 .have:=e5.length;rw[<-bg,<-hl,<-this,<-f2];simp
 .rw[wF,cell_of_row w b _ cs.toArray T fr e2,<-f2]
def Aue{V:List Nat}{k:Ka}{w:World}(hi:Inv k w){n sz:Nat}{a:Type}{e:a->SV}{l:List a}(hn:n∈V)(h:(k n=.nil/\l=[])\/RowAt k w n sz l.length (rowF e l)){v:Value}(hv:Rd k w (.osl n) v):Rd (Jz k V) w (.sl sz e l) v:=by
 rcases h with ⟨h1,rfl⟩|h1
 .simp only[Rd,h1]at hv;simp only[Rd,RdD];exact .inl ⟨by simp,none,0,hv⟩
 .exact h1.freeze hv (Kb V k hi).1.keeps.out (λb hb=>⟨hi.bnd n b hb,Agc hi hn hb⟩)
mutual
theorem Vw.rd{s:SS}{V:List Nat}{k:Ka}{w:World}(hi:Inv k w)(ho:∀n∈V,ObOK k w n (s.h n)):∀{x y:SV} (_:Vw s V x y) {v:Value},Rd k w x v->Rd (Jz k V) w y v
 |_,_,.refl x,_,hv=>Rd.step (Kb V k hi).1 _ _ hv
 |_,_,.row h hn,_,hv=>by
  have h1:=ho _ (memN_iff.1 hn);rw[h]at h1;exact Aue hi (memN_iff.1 hn) h1 hv
 |_,_,.lit (l:=l) h hl hn,_,hv=>by
  have h1:=ho _ (memN_iff.1 hn);rw[h]at h1;obtain ⟨b,cap,cs,T,fr,e1,e2,e3,e4,e5,e6⟩:=h1;refine Aue hi (memN_iff.1 hn) (.inr ?_) hv;have hlen:=zH List.length hl;simp only[yW]at hlen;exact⟨b,cap,cs,T,fr,by rw[hlen];exact e1,e2,e3,e4,by omega,λi x hx=>by rw[hlen];exact e6 i x (Sx hl i x hx)⟩
 |_,_,.nil,_,hv=>by
  simp only[Rd,RdD];exact .inl ⟨by simp,none,0,hv.val⟩
 |_,_,.box h hl hc hn,_,hv=>by
  have h1:=ho _ (memN_iff.1 hn);rw[h]at h1;simp only[zG]at hc;exact An2 h1 hl hc.1.1 (yK hc.2) (Kb V k hi).1.keeps.out (λb hb=>⟨hi.bnd _ b hb,Agc hi (memN_iff.1 hn) hb⟩) hc.1.2 _ _ hv
 |_,_,.agg h,_,hv=>by
  simp only[Rd]at hv|-;obtain ⟨cs,h1,h2,h3⟩:=hv;exact⟨cs,h1,h2,VwL.rd hi ho h h3⟩
theorem VwL.rd{s:SS}{V:List Nat}{k:Ka}{w:World}(hi:Inv k w)(ho:∀n∈V,ObOK k w n (s.h n)):∀{l m:List SV} (_:VwL s V l m) {vs:List Value},RdL k w l vs->RdL (Jz k V) w m vs
 |_,_,.nil,_,hv=>by simpa [RdL] using hv
 |_,_,.cons h hs,_,hv=>by
  simp only[RdL]at hv|-;obtain ⟨v,r,h1,h2,h3⟩:=hv;exact⟨v,r,h1,Vw.rd hi ho h h2,VwL.rd hi ho hs h3⟩
end
def A3a(a:List (Nat×Nat))(K V:List Nat):Bool:=K.all λk=>!(S7 V (Bk a k))
def Mm{P:Program}{o:Oper}{s:SS}{f:FuncId}{B:List SV}{A:List SV}{H:Obs}{R:SV}{H':Obs}(m:List (Nat×Nat))(V:List Nat)(hE:U7 P o s [] f B)(hs:Spec P f A H R H')(hA:VwL s V B (Ma (Bk m) A))(hH:oL s m H)(aq:Qm A H R H' m=true)(az:nE s m H.keys H'.keys)(hV:A3a m H'.keys V=true):Good P o s ⟨R.ren (Bk m),[],V.map (λn=>(n,.non))++T8 m H'⟩:=by
 intro b a w hi hr ho N Q hN;simp only[Qm,zG,yT]at aq;obtain ⟨⟨⟨⟨⟨c1,c2⟩,c3⟩,c4⟩,c5⟩,c6⟩:=aq;obtain ⟨jc,_⟩:=Xq c1;have qq:∀k∈H.keys,k∈H'.keys:=λk hk=>by
  simp only[Ahu,yT]at c2;exact memN_iff.1 (c2 k hk)
 have hVa:∀k∈H'.keys,Bk m k∉V:=λk hk hm=>by
  simp only[A3a,yT]at hV;have:=hV k hk;rw[memN_iff.2 hm]at this;cases this
 have wg:∀k∈H'.keys,Bk m k∈(Up.mk (R.ren (Bk m)) [] (V.map (λn=>(n,Ob.non))++T8 m H')).ws:=λk hk=>by
  obtain ⟨p,hp,rfl⟩:=yS.1 hk;simp only[Up.ws,S1,wZ,List.map_map,yH,yS];exact .inr ⟨p,hp,E⟩
 have zh:∀n∈V,n∈(Up.mk (R.ren (Bk m)) [] (V.map (λn=>(n,Ob.non))++T8 m H')).ws:=λn hn=>by
  simp only[Up.ws,wZ,List.map_map,yH,yS];exact .inl ⟨n,hn,E⟩
 have hoV:∀n∈V,ObOK b w n (s.h n):=λn hn=>ho n (.inr (zh n hn))
 obtain ⟨st0,inv0⟩:=Kb V b hi;obtain ⟨vs,au,rp⟩:=hE b a w hr (λk hk=>by cases hk);have jx:RdL (Jz b V) w (Ma (Bk m) A) vs:=hA.rd hi hoV rp;have hHk:∀H0:Obs,(∀p∈H0,p∈H)->oL s m H0->∀p∈H0,ObOK (Jz b V) w (Bk m p.1) (p.2.ren (Bk m)):=by
  intro H0
  induction H0 with
  |nil=>intro _ _ p hp;cases hp
  |cons q r ih=>
   obtain ⟨i,x⟩:=q;intro ar he p hp;simp only[oL]at he;rcases yI.1 hp with rfl|hp
   .have hk:i∈H.keys:=yS.2 ⟨(i,x),ar _ y_,rfl⟩;rw[he.1];exact ObOK.step st0 (hVa i (qq i hk)) _ (ho _ (.inr (wg i (qq i hk))))
   .exact ih (λq hq=>ar q (by simp[hq])) he.2 p hp
 have hnk:∀k∈H'.keys,k∉H.keys->(Jz b V) (Bk m k)=.new:=by
  have key:∀K:List Nat,(∀k∈K,k∈H'.keys)->nE s m H.keys K->∀k∈K,k∉H.keys->(Jz b V) (Bk m k)=.new:=by
   intro K
   induction K with
   |nil=>intro _ _ k hk;cases hk
   |cons j r ih=>
    intro ar hn k hk kc;simp only[nE]at hn;rcases yI.1 hk with rfl|hk
    .rcases hn.1 with h1|h1
     .exact yA (memN_iff.1 h1) kc
     .have:=ho _ (.inr (wg k (ar k y_)));rw[h1]at this;rw[Aci b V _ (hVa k (ar k y_))];exact this
    .exact ih (λk hk=>ar k (by simp[hk])) hn.2 k hk kc
  exact key _ (λ_ hk=>hk) az
 have eh:=hs.at (ρ:=Bk m) jc qq c3 (λp hp=>c4 p hp) c5 (λp hp=>c6 p hp) inv0 jx (hHk H (λ_ hp=>hp) hH) hnk;simp only[Oper.wp,au,Oper.upon];refine eh.mono ?_;rintro e w' ⟨v,b',rfl,st,inv,hv,hO⟩;refine hN v b' w' ((st0.weaken zh).trans (st.weaken ?_)) inv hv (λp hp=>?_)
 .rintro n ⟨j,hj,rfl⟩;exact wg j hj
 .rcases yH.1 hp with hp|hp
  .obtain ⟨n,_,rfl⟩:=yS.1 hp;trivial
  .simp only[S1,yS]at hp;obtain ⟨q,hq,rfl⟩:=hp;exact hO q hq
mutual
def SV.plain:SV->Bool
 | .top=>true
 | .val _=>true
 | .agg l=>Abx l
 | .tup l=>Abx l
 |_=>false
def Abx:List SV->Bool
 |[]=>true
 |x::l=>x.plain&&Abx l
end
mutual
theorem Rd.plain{k k':Ka}{w w':World}:∀(x:SV) (v:Value),x.plain=true->Rd k w x v->Rd k' w' x v
 | .top,_,_,_=>by simp[Rd]
 | .val u,v,_,h=>by simpa [Rd] using h
 | .agg l,v,hp,h=>by
  simp only[Rd,SV.plain]at h hp|-;obtain ⟨cs,h1,h0,h2⟩:=h;exact⟨cs,h1,h0,RdL.plain l cs hp h2⟩
 | .tup l,v,hp,h=>by
  simp only[Rd,SV.plain]at h hp|-;obtain ⟨cs,h1,h2⟩:=h;exact⟨cs,h1,RdL.plain l cs hp h2⟩
 | .sl _ _ _,_,hp,_=>by simp[SV.plain]at hp
 | .ref _ _ _,_,hp,_=>by simp[SV.plain]at hp
 | .ptr _ _,_,hp,_=>by simp[SV.plain]at hp
 | .rpt _ _ _ _,_,hp,_=>by simp[SV.plain]at hp
 | .osl _,_,hp,_=>by simp[SV.plain]at hp
 | .ifc _ _,_,hp,_=>by simp[SV.plain]at hp
 | .clo _ _ _,_,hp,_=>by simp[SV.plain]at hp
theorem RdL.plain{k k':Ka}{w w':World}:∀(l:List SV) (vs:List Value),Abx l=true->RdL k w l vs->RdL k' w' l vs
 |[],_,_,h=>by simpa [RdL] using h
 |x::l,vs,hp,h=>by
  simp only[RdL,Abx,zG]at h hp|-;obtain ⟨v,r,h1,h2,h3⟩:=h;exact⟨v,r,h1,Rd.plain x v hp.1 h2,RdL.plain l r hp.2 h3⟩
end
mutual
theorem Bh:∀x:SV,x.ren id=x
 | .ptr _ _=>rfl
 | .rpt _ _ _ _=>rfl
 | .osl _=>rfl
 | .agg l=>by simp only[SV.ren,J5 l]
 | .tup l=>by simp only[SV.ren,J5 l]
 | .ifc t x=>by simp only[SV.ren,Bh x]
 | .clo fn f l=>by simp only[SV.ren,J5 f,J5 l]
 | .top=>rfl
 | .val _=>rfl
 | .sl _ _ _=>rfl
 | .ref _ _ _=>rfl
theorem J5:∀l:List SV,Ma id l=l
 |[]=>rfl
 |x::l=>by simp only[Ma,Bh x,J5 l]
end
def Hz{P:Program}{o:Oper}{s:SS}{f:FuncId}{rd:List Nat}{B:List SV}{A:List SV}{R:SV}(V:List Nat)(hE:U7 P o s rd f B)(hs:Spec P f A [] R [])(hA:VwL s V B A)(ze:B7 [] A=true)(hR:R.plain=true):Good P o s ⟨R,V++rd,[]⟩:=by
 intro r a w hi hr ho N Q hN;have hoV:∀n∈V,ObOK r w n (s.h n):=λn hn=>ho n (.inl (by simp[hn]))
 obtain ⟨st0,inv0⟩:=Kb V r hi;obtain ⟨vs,au,rp⟩:=hE r a w hr (λk hk=>ho k (.inl (by simp[hk])));have jx:RdL (Jz r V) w A vs:=hA.rd hi hoV rp
 let rc:Ka:=⟨λ_=>.new,Own (Jz r V)⟩
 have hic:Inv rc w:=by
  refine⟨λi j b h1 _=>?_,λj b h1=>?_,λj b h1=>?_,λb hb=>?_⟩
  .cases h1
  .cases h1
  .cases h1
  .rcases hb with ⟨j,hj⟩|hj
   .exact inv0.bnd j b hj
   .exact inv0.mbnd b hj
 have pg:∀b,b<w.heap.size->¬Own (Jz r V) b->¬Own rc b:=by
  rintro b _ hn (⟨j,hj⟩|hj)
  .cases hj
  .exact hn hj
 have hA':RdL rc w A vs:=RdL.unren (ρ:=id) (K:=[]) (κ:=Jz r V) ⟨λk hk=>by cases hk⟩ pg A _ ze (by rw[J5];exact jx);have eh:=hs rc w _ hic (λj hj=>yA rfl hj) hA' (λp hp=>by cases hp);simp only[Oper.wp,au,Oper.upon];refine eh.mono ?_;rintro e w' ⟨v,r',rfl,cj,inv,hv,_⟩;have dp:∀b,b<w.heap.size->w'.heap[b]? = w.heap[b]?:=λb hb=>cj.old b hb (λj hj=>by cases hj)
 refine hN v r w' ⟨cj.size,cj.os,cj.tape,cj.output,E,λb hb=>dp b (hi.mbnd b hb),λb hb _=>dp b hb,λj b _ hb=>dp b (hi.bnd j b hb),λ_ _=>rfl,λ_ _=>.inr (.inl E),λ_ hb=>.inl hb⟩
  ⟨hi.inj,λj b hb=>xA (hi.bnd j b hb) cj.size,hi.apart,λb hb=>xA (hi.mbnd b hb) cj.size⟩ (Rd.plain _ _ hR hv) (λp hp=>by cases hp)
def Ad{P:Program}{o:Oper}{s:SS}{f:FuncId}{fn:Func}{c:Code}{xs:List Operand}{ts:Array TypeId}{A:List SV}{H:Obs}{R:SV}{H':Obs}(k:List (Nat×Nat))(h:o.op=.call ⟨.value (.func f),xs.toArray,ts⟩)(hf:Fun P f fn c)(hs:Spec P f A H R H')(hA:Ma (Bk k) A=xs.map (ev s))(hH:oL s k H)(aq:Qm A H R H' k=true)(az:nE s k H.keys H'.keys):Good P o s ⟨R.ren (Bk k),[],T8 k H'⟩ :=
 Av k (nW h hf) hs hA hH aq az
def I9{P:Program}{o:Oper}{s:SS}{f:FuncId}{fn:Func}{c:Code}{xs:List Operand}{ts:Array TypeId}{A:List SV}{R:SV}(V:List Nat)(h:o.op=.call ⟨.value (.func f),xs.toArray,ts⟩)(hf:Fun P f fn c)(hs:Spec P f A [] R [])(hA:VwL s V (xs.map (ev s)) A)(ze:B7 [] A=true)(hR:R.plain=true):Good P o s ⟨R,V,[]⟩ :=
 by simpa using Hz V (nW h hf) hs hA ze hR
end Go.Sy
