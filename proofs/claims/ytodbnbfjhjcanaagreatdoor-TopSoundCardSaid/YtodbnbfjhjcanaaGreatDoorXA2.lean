/- Parts of a proof. -/
import Derived.Test.YtodbnbfjhjcanaaGreatDoorXA1
import Derived.Deep.LoopGhost
set_option linter.all false
namespace Go.Sy
def aZ{P:Program}:∀{fs:List Field} {r:List (Nat×Nat)} {f:Nat} {o n:Nat},H8 P fs r->r[f]? = some (o,n)->∃x,fs[f]? = some x/\x.offset=o/\(P.info? x.type).map (·.size)=some n
 |[],[],f,o,n,_,h=>by simp at h
 |[],_::_,f,o,n,h,_=>by simp[H8]at h
 |_::_,[],f,o,n,h,_=>by simp[H8]at h
 |x::fs,(o',n')::r,0,o,n,h,h'=>by
  simp only[H8]at h;simp only[tD,Option.some.injEq,Prod.mk.injEq]at h';exact⟨x,by simp,by rw[h.1];exact h'.1,by rw[h.2.1,h'.2]⟩
 |x::fs,(o',n')::r,f+1,o,n,h,h'=>by
  simp only[H8]at h;obtain ⟨y,h1,h2⟩:=aZ (f:=f) h.2.2 (kS h');exact⟨y,kS h1,h2⟩
def U0{P:Program}(Γ:Ty P){t:TypeId}{ti:TI}{fs:List (Nat×Nat)}{f o n:Nat}(ht:Γ.get t=some ti)(hk:ti.k=.struct fs)(hf:fs[f]? = some (o,n))(hn:n≠0)(w:World)(b off:Nat):(Instr.fieldAt t (.pointer (some ⟨b,off,none⟩)) f).run P w=.ok (.pointer (some ⟨b,off+o,none⟩)) w:=by
 obtain ⟨d,info,z,k1,k2,k3,k4,k5,k6⟩:=Γ.ok t ti ht;rw[hk]at k2;simp only[TK.ok]at k2;obtain ⟨a,rfl,k2⟩:=k2;obtain ⟨x,h1,h2,h3⟩:=aZ k2 hf;obtain ⟨ix,h4,h5⟩:∃ix,P.info? x.type=some ix/\ix.size=n:=by
  cases hh:P.info? x.type with
  |none=>rw[hh]at h3;cases h3
  |some ix=>rw[hh]at h3;exact⟨ix,rfl,kS h3⟩
 have h1':a[f]? = some x:=kS h1;simp[Instr.fieldAt,run_underlying k1,h1',Instr.sureAddr,fieldPlace,sizeOf,typeInfo,h4,h5,hn,Addr.add_lit,h2]
def K3{P:Program}(Γ:Ty P){o:Oper}{s:SS}{t:TypeId}{ti:TI}{fs:List (Nat × Nat)}{x:Operand}{f fo fn:Nat}(h:o.op=.fieldAddr t x f)(ht:Γ.get t=some ti)(hk:ti.k=.struct fs)(hf:fs[f]? = some (fo,fn))(hn:fn≠0){y:SV}{rd:List Nat}(hy:(∃ k off l,ev s x=.ptr k off/\s.h k=.box l/\rd=[k]/\y=.ptr k (off+fo))\/(∃ sz z off,ev s x=.ref sz z off/\rd=[]/\y=.ref sz z (off+fo)) \/
   (∃ k sz i off,ev s x=.rpt k sz i off/\(∀ r w,ObOK r w k (s.h k)->∃ b n c,r k=.row b n c)/\rd=[k]/\y=.rpt k sz i (off+fo))):Good P o s ⟨y,rd,[]⟩ :=
 Good.pure λr a w _ hr ho=>by
  have h1:=hr x (by simp[h,Op.operands]);rcases hy with ⟨k,off,l,hx,hl,rfl,rfl⟩|⟨sz,z,off,hx,rfl,rfl⟩|⟨k,sz,i,off,hx,hl,rfl,rfl⟩
  .have h2:=ho k qq;rw[hl]at h2;obtain ⟨b,cs,T,fr,e1,_⟩:=h2;rw[hx]at h1;simp only[Rd,e1]at h1;exact⟨.pointer (some ⟨b,off+fo,none⟩),by simp[execOp,h,h1,U0 Γ ht hk hf hn],by simp[Rd,e1]⟩
  .rw[hx]at h1;simp only[Rd,RdD]at h1;obtain ⟨b,oo,u,e1,e2⟩:=h1;refine⟨.pointer (some ⟨b,oo+off+fo,none⟩),by simp[execOp,h,e1,U0 Γ ht hk hf hn],?_⟩;simp only[Rd,RdD];exact⟨b,oo,u,by rw[vX],e2⟩
  .obtain ⟨b,n,c,e1⟩:=hl r w (ho k qq);rw[hx]at h1;simp only[Rd,e1]at h1;exact⟨.pointer (some ⟨b,i*sz+off+fo,none⟩),by simp[execOp,h,h1,U0 Γ ht hk hf hn],by simp[Rd,e1,vX]⟩
def E2{P:Program}{o:Oper}{s:SS}{x:Operand}{rd:List Nat}(h:o.op=.nilCheck x)(hy:(∃ k off l,ev s x=.ptr k off/\s.h k=.box l/\rd=[k])\/(∃ sz z off,ev s x=.ref sz z off/\rd=[])\/(∃ f first cap,ev s x=.clo (.func f) first cap/\rd=[]) \/
   (∃ k sz i off,ev s x=.rpt k sz i off/\(∀ r w,ObOK r w k (s.h k)->∃ b n c,r k=.row b n c)/\rd=[k])):Good P o s ⟨ev s x,rd,[]⟩ :=
 Good.pure λr a w _ hr ho=>by
  have h1:=hr x (by simp[h,Op.operands]);refine⟨a.eval x,?_,h1⟩;rcases hy with ⟨k,off,l,hx,hl,rfl⟩|⟨sz,z,off,hx,rfl⟩|⟨f,first,cap,hx,rfl⟩|⟨k,sz,i,off,hx,hl,rfl⟩
  .have h2:=ho k qq;rw[hl]at h2;obtain ⟨b,cs,T,fr,e1,_⟩:=h2;rw[hx]at h1;simp only[Rd,e1]at h1;simp[execOp,h,h1]
  .rw[hx]at h1;simp only[Rd,RdD]at h1;obtain ⟨b,oo,u,e1,e2⟩:=h1;simp[execOp,h,e1]
  .rw[hx]at h1;simp only[Rd]at h1;obtain ⟨fs,cs,e1,_⟩:=h1;simp[execOp,h,e1]
  .obtain ⟨b,n,c,e1⟩:=hl r w (ho k qq);rw[hx]at h1;simp only[Rd,e1]at h1;simp[execOp,h,h1]
def Cs{P:Program}(Γ:Ty P){t:TypeId}{ti:TI}{e:TypeId}{sz eb:Nat}{ez:List Value}(ht:Γ.get t=some ti)(hk:ti.k=.slice e sz eb ez):P.underlying t=some (.slice e)/\∃i z,P.info? e=some i/\i.size=sz/\i.bytes=eb/\i.zero=some z/\z.cells.toList=ez:=by
 obtain ⟨d,info,z,k1,k2,k3,k4,k5,k6⟩:=Γ.ok t ti ht;rw[hk]at k2;simp only[TK.ok]at k2;obtain ⟨rfl,k2⟩:=k2;exact⟨k1,k2⟩
def K2{P:Program}(Γ:Ty P){o:Oper}{s:SS}{t:TypeId}{ti:TI}{et:TypeId}{sz eb:Nat}{ez:List Value}{x y:Operand}{ik:IntKind}{n:Int}{m:Type}{e:m->SV}{l:List m}(h:o.op=.indexAddr t x y)(ht:Γ.get t=some ti)(hk:ti.k=.slice et sz eb ez)(hx:ev s x=.sl sz e l)(hy:ev s y=.val (.int ik n))(h0:0<=n)(hn:n.toNat<l.length):Good P o s ⟨.ref sz (e l[n.toNat]) 0,[],[]⟩ :=
 Good.pure λr a w _ hr _=>by
  have h1:=hr x (by simp[h,Op.operands]);have h2:=hr y (by simp[h,Op.operands]);rw[hx]at h1;rw[hy]at h2;obtain ⟨hu,i,z,q1,q2,q3,q4,q5⟩:=Cs Γ ht hk;simp only[Rd,RdD]at h1;rcases h1 with ⟨rfl,_⟩|⟨b,off,cap,e1,e0,e2,e3,e4⟩
  .simp at hn
  .obtain ⟨u,e5,e6⟩:=e4 n.toNat hn;have ab:n<l.length:=by omega
   refine⟨.pointer (some ⟨b,off+n.toNat*sz,none⟩),?_,?_⟩
   .simp[execOp,h,e1,h2.val,Instr.indexAt,run_underlying hu,asIntOf,h0,ab,sizeOf,typeInfo,q1,q2,Addr.add_lit]
   .simp only[Rd,RdD];exact⟨b,off+n.toNat*sz,u,E,e2,e3,e5,e6⟩
def Ob.len:Ob->Option Nat
 | .row _ _ l=>some l.length
 | .lit _ svs=>some svs.length
 | .rown _ _ l _ _=>some l.length
 |_=>none
theorem Ob.len_ok{r:Ka}{w:World}{k n:Nat}:∀{ob:Ob} {v:Value},ob.len=some n->ObOK r w k ob->Rd r w (.osl k) v->∃a cap,v=.slice a n cap/\(n≠0->∃b c,r k=.row b n c/\a=some ⟨b,0,none⟩)
 | .row sz e l,v,hn,h,hv=>by
  simp only[Ob.len,Option.some.injEq]at hn;rcases h with ⟨h1,h2⟩|⟨b,cap,cs,T,fr,h1,_⟩
  .simp only[Rd,h1]at hv;subst h2;simp at hn;exact⟨none,0,by rw[hv,hn],λh=>zX hn.symm h⟩
  .simp only[Rd,h1]at hv;rw[hn]at h1 hv;exact⟨_,cap,hv,λ_=>⟨b,cap,h1,E⟩⟩
 | .lit sz l,v,hn,h,hv=>by
  simp only[Ob.len,Option.some.injEq]at hn;obtain ⟨b,cap,cs,T,fr,h1,_⟩:=h;simp only[Rd,h1]at hv;rw[hn]at h1 hv;exact⟨_,cap,hv,λ_=>⟨b,cap,h1,E⟩⟩
 | .fresh,_,hn,_,_=>by cases hn
 | .non,_,hn,_,_=>by cases hn
 | .box _,_,hn,_,_=>by cases hn
 | .glob ..,_,hn,_,_=>by cases hn
 | .pin ..,_,hn,_,_=>by cases hn
 | .dat ..,_,hn,_,_=>by cases hn
 | .tbox ..,_,hn,_,_=>by cases hn
 | .trow ..,_,hn,_,_=>by cases hn
 | .rown sz e l i cl,v,hn,h,hv=>by
  simp only[Ob.len,Option.some.injEq]at hn;obtain ⟨b,cap,cs,T,fr,h1,_⟩:=h;simp only[Rd,h1]at hv;rw[hn]at h1 hv;exact⟨_,cap,hv,λ_=>⟨b,cap,h1,E⟩⟩
def J2{P:Program}(Γ:Ty P){o:Oper}{s:SS}{t:TypeId}{ti:TI}{et:TypeId}{sz eb len:Nat}{ez:List Value}{x y:Operand}{ik:IntKind}{n:Int}{k:Nat}(h:o.op=.indexAddr t x y)(ht:Γ.get t=some ti)(hk:ti.k=.slice et sz eb ez)(hx:ev s x=.osl k)(hl:(s.h k).len=some len)(hy:ev s y=.val (.int ik n))(h0:0<=n)(hn:n.toNat<len):Good P o s ⟨.rpt k sz n.toNat 0,[k],[]⟩ :=
 Good.pure λr a w _ hr ho=>by
  have h1:=hr x (by simp[h,Op.operands]);have h2:=hr y (by simp[h,Op.operands]);rw[hx]at h1;rw[hy]at h2;obtain ⟨hu,i,z,q1,q2,q3,q4,q5⟩:=Cs Γ ht hk;obtain ⟨ad,cap,e1,e2⟩:=Ob.len_ok hl (ho k qq) h1;obtain ⟨b,c,e3,rfl⟩:=e2 z_;have ab:n<len:=by omega
  refine⟨.pointer (some ⟨b,n.toNat*sz,none⟩),?_,by simp[Rd,e3]⟩;simp[execOp,h,e1,h2.val,Instr.indexAt,run_underlying hu,asIntOf,h0,ab,sizeOf,typeInfo,q1,q2,Addr.add_lit]
def Aay{P:Program}(Γ:Ty P){o:Oper}{s:SS}{t:TypeId}{ti:TI}{x:Operand}{at_:Array TypeId}{n:Nat}{rd:List Nat}(h:o.op=.call ⟨.builtin .len,#[x],at_⟩)(gh:at_[0]? = some t)(ht:Γ.get t=some ti){et:TypeId}{sz eb:Nat}{ez:List Value}(hk:ti.k=.slice et sz eb ez)(hx:(∃(z:Nat) (m:Type) (e:m->SV) (l:List m),ev s x=.sl z e l/\n=l.length/\rd=[])\/(∃k,ev s x=.osl k/\(s.h k).len=some n/\rd=[k])\/(∃a c,ev s x=.val (.slice a n c)/\rd=[])):Good P o s ⟨.val (.int .i64 n),rd,[]⟩ :=
 Good.pure λr a w _ hr ho=>by
  have h1:=hr x (by simp[h,Op.operands,Call.operands]);obtain ⟨hu,i,z,q1,q2,q3,q4,q5⟩:=Cs Γ ht hk;have key:∃ad cap,a.eval x=.slice ad n cap:=by
   rcases hx with ⟨z,m,e,l,hx,rfl,rfl⟩|⟨k,hx,hl,rfl⟩|⟨ad,c,hx,rfl⟩
   .rw[hx]at h1;simp only[Rd,RdD]at h1;rcases h1 with ⟨rfl,ad,cap,e1⟩|⟨b,off,cap,e1,_⟩
    .exact⟨ad,cap,e1⟩
    .exact⟨_,cap,e1⟩
   .rw[hx]at h1;obtain ⟨ad,cap,e1,_⟩:=Ob.len_ok hl (ho k qq) h1;exact⟨ad,cap,e1⟩
   .rw[hx]at h1;exact⟨ad,c,h1.val⟩
  obtain ⟨ad,cap,e1⟩:=key;refine⟨.int .i64 n,?_,by simp[Rd]⟩;simp[execOp,h,resolve,invoke,builtin,Builtin.len_,gh,e1,run_underlying hu,goInt]
def lD{P:Program}(Γ:Ty P){o:Oper}{s:SS}{t:TypeId}{ti:TI}{x:Operand}{at_:Array TypeId}{b:ByteArray}(h:o.op=.call ⟨.builtin .len,#[x],at_⟩)(gh:at_[0]? = some t)(ht:Γ.get t=some ti)(hk:ti.k=.string)(hx:ev s x=.val (.string b)):Good P o s ⟨.val (.int .i64 b.size),[],[]⟩ :=
 Good.pure λr a w _ hr ho=>by
  have h1:=hr x (by simp[h,Op.operands,Call.operands]);rw[hx]at h1;obtain ⟨d,info,z,k1,k2,k3,k4,k5,k6⟩:=Γ.ok t ti ht;rw[hk]at k2;simp only[TK.ok]at k2;subst k2;refine⟨.int .i64 b.size,?_,by simp[Rd]⟩;simp[execOp,h,resolve,invoke,builtin,Builtin.len_,gh,h1.val,run_underlying k1,goInt]
def Aze{P:Program}{o:Oper}{s:SS}{t:TypeId}{x:Operand}{b:Bool}(h:o.op=.unOp .not t x)(hx:ev s x=.val (.bool b)):Good P o s ⟨.val (.bool (!b)),[],[]⟩ :=
 Good.pure λk a w _ hr _=>by
  have h1:=hr x (by simp[h,Op.operands]);rw[hx]at h1;exact⟨.bool (!b),by simp[execOp,h,h1.val,Op.unary],by simp[Rd]⟩
def Azf{P:Program}{o:Oper}{s:SS}{t:TypeId}{x:Operand}{k:IntKind}{n:Int}(h:o.op=.unOp .neg t x)(hx:ev s x=.val (.int k n)):Good P o s ⟨.val (.int k (k.wrap (0-n))),[],[]⟩ :=
 Good.pure λb a w _ hr _=>by
  have h1:=hr x (by simp[h,Op.operands]);rw[hx]at h1;exact⟨.int k (k.wrap (0-n)),by simp[execOp,h,h1.val,Op.unary,Op.intArith],by simp[Rd]⟩
def dG{P:Program}(Γ:Ty P){o:Oper}{s:SS}{src dst:TypeId}{si di:TI}{x:Operand}{k k':IntKind}{n:Int}(h:o.op=.convert src dst x)(hs:Γ.get src=some si)(hd:Γ.get dst=some di)(hk:di.k=.int k')(hx:ev s x=.val (.int k n)):Good P o s ⟨.val (.int k' (k'.wrap n)),[],[]⟩ :=
 Good.pure λb a w _ hr _=>by
  have h1:=hr x (by simp[h,Op.operands]);rw[hx]at h1;obtain ⟨d,info,z,k1,k2,_⟩:=Γ.ok dst di hd;obtain ⟨d',yh,z',k1',_⟩:=Γ.ok src si hs;rw[hk]at k2;simp only[TK.ok]at k2;subst k2;exact⟨.int k' (k'.wrap n),by simp[execOp,h,h1.val,convert,run_underlying k1,run_underlying k1',Conv.intToInt],by simp[Rd]⟩
def Xi{P:Program}(Γ:Ty P){o:Oper}{s:SS}{src dst:TypeId}{si di:TI}{x:Operand}{b:ByteArray}(h:o.op=.convert src dst x)(hs:Γ.get src=some si)(hd:Γ.get dst=some di)(mr:si.k=.string)(hk:di.k=.string)(hx:ev s x=.val (.string b)):Good P o s ⟨.val (.string b),[],[]⟩ :=
 Good.pure λr a w _ hr _=>by
  have h1:=hr x (by simp[h,Op.operands]);rw[hx]at h1;obtain ⟨d,info,z,k1,k2,_⟩:=Γ.ok dst di hd;obtain ⟨d',yh,z',k1',k2',_⟩:=Γ.ok src si hs;rw[hk]at k2;rw[mr]at k2';simp only[TK.ok]at k2 k2';subst k2 k2';exact⟨.string b,by simp[execOp,h,h1.val,convert,run_underlying k1,run_underlying k1'],by simp[Rd]⟩
theorem RdL.getT{k:Ka}{w:World}{n:Nat}{l:List SV}{cs:List Value}{x:SV}(h:RdL k w l cs)(hg:H6 l n=some x):∃v,cs.toArray[n]? = some v/\Rd k w x v:=by
 obtain ⟨v,h1,h2⟩:=h.get hg;exact⟨v,kS h1,h2⟩
def Agv{P:Program}{o:Oper}{s:SS}{x:Operand}{i:Nat}{l:List SV}{y:SV}(h:o.op=.extract x i)(hx:ev s x=.tup l)(hy:H6 l i=some y):Good P o s ⟨y,[],[]⟩ :=
 Good.pure λk a w _ hr _=>by
  have h1:=hr x (by simp[h,Op.operands]);rw[hx]at h1;simp only[Rd]at h1;obtain ⟨cs,e1,e2⟩:=h1;obtain ⟨v,e3,e4⟩:=e2.getT hy;exact⟨v,by simp[execOp,h,e1,Instr.extract]at e3|-;simp[e3],e4⟩
def Yz{P:Program}(Γ:Ty P){o:Oper}{s:SS}{t:TypeId}{ti:TI}{x:Operand}(h:o.op=.makeInterface t x)(ht:Γ.get t=some ti)(hk:ti.k matches .bool| .int _| .string| .slice .. | .struct _| .ptr| .func):Good P o s ⟨.ifc t (ev s x),[],[]⟩ :=
 Good.pure λr a w _ hr _=>by
  have h1:=hr x (by simp[h,Op.operands]);obtain ⟨d,info,z,k1,k2,_⟩:=Γ.ok t ti ht;refine⟨.iface t (a.eval x),?_,by simp only[Rd];exact⟨_,E,h1⟩⟩;obtain ⟨k,n,zz⟩:=ti;cases k<;>simp only[TK.ok]at k2<;>first
   |(subst k2;simp[execOp,h,Instr.makeInterface,run_underlying k1];done)
   |(obtain ⟨a,rfl,_⟩:=k2;simp[execOp,h,Instr.makeInterface,run_underlying k1];done)
   |(obtain ⟨rfl,_⟩:=k2;simp[execOp,h,Instr.makeInterface,run_underlying k1];done)
   |(obtain ⟨a,b,c,rfl⟩:=k2;simp[execOp,h,Instr.makeInterface,run_underlying k1];done)
   |(obtain ⟨a,rfl⟩:=k2;simp[execOp,h,Instr.makeInterface,run_underlying k1];done)
   |simp at hk
def Qj{k:Ka}{w:World}{s:SS}{a:Act}:∀(xs:List Operand),(∀x∈xs,Rd k w (ev s x) (a.eval x))->RdL k w (xs.map (ev s)) (xs.map a.eval)
 |[],_=>by simp[RdL]
 |x::xs,h=>by
  simp only[xZ,RdL];exact⟨_,_,E,h x qq,Qj xs (λy hy=>h y (by simp[hy]))⟩
def Acz{P:Program}{o:Oper}{s:SS}{fn:Fn}{ys xs:List Operand}(h:o.op=.makeFunc fn ys.toArray xs.toArray):Good P o s ⟨.clo fn (ys.map (ev s)) (xs.map (ev s)),[],[]⟩ :=
 Good.pure λk a w _ hr _=>by
  refine⟨.func fn (ys.map a.eval).toArray (xs.map a.eval).toArray,by simp[execOp,h,Instr.makeFunc],?_⟩;simp only[Rd];exact⟨_,_,E,Qj ys (λx hx=>hr x (by simp[h,Op.operands,hx])),Qj xs (λx hx=>hr x (by simp[h,Op.operands,hx]))⟩
def Aeu(off:Nat):∀(vs:List Value) (n:Nat) (cs:Array Value),off+n+vs.length<=cs.size ->
  ((vs.zipIdx n).foldl (λ(cs:Array Value) (p:Value×Nat)=>cs.setIfInBounds (off+p.2) p.1) cs).toList=setV cs.toList (off+n) vs
 |[],n,cs,_=>by cases h:cs.toList<;>simp[setV,h]
 |v::vs,n,cs,h=>by
  simp only[List.zipIdx_cons,vJ];rw[Aeu off vs (n+1) _ (by simp at h|-;omega)];simp only[Array.toList_setIfInBounds];rw[O6 _ _ _ (by simp at h|-;omega),O6 _ _ _ (by simp at h|-;omega)];have:=list_seg_step cs.toList (off+n) v vs (by simp at h|-;omega);simpa [vX] using this
def Aev(v:Value)(off:Nat)(cs:Array Value)(h:off+v.cells.size<=cs.size):(v.cells.zipIdx.foldl (λcs (c,j)=>cs.setIfInBounds (off+j) c) cs).toList=setV cs.toList off v.cells.toList:=by
 have:=Aeu off v.cells.toList 0 cs (kS h);rw[Nat.add_zero]at this;rw[<-this,<-Array.foldl_toList,Array.toList_zipIdx]
def Aa3(fk:List (Nat×Nat)):List SV->List (Nat×SV)->Option (List SV)
 |cells,[]=>some cells
 |cells,(i,v)::r=>
  match fk[i]? with
  |none=>none
  |some (off,size)=>bif Nat.beq (cellsOf v).length size&&Nat.ble (off+size) cells.length&&v.boxed then Aa3 fk (setAt cells off (cellsOf v)) r else none
def Ag2{κ:Ka}{w:World}{s:SS}{a:Act}{fk:List (Nat×Nat)}:∀(ps:List (Nat×Operand)) (cells out:List SV) (cs:Array Value),RdL κ w cells cs.toList->Ones cs.toList->(∀p∈ps,Rd κ w (ev s p.2) (a.eval p.2)) ->
  Aa3 fk cells (ps.map λp=>(p.1,ev s p.2))=some out->∃r:Array Value,Instr.fill (λi=>fk[i]?) cs (ps.map λp=>(p.1,a.eval p.2))=some r/\RdL κ w out r.toList/\Ones r.toList
 |[],cells,out,cs,h,h1,_,hf=>by
  simp only[vS,Aa3,Option.some.injEq]at hf;subst hf;exact⟨cs,by simp[Instr.fill],h,h1⟩
 |(i,x)::ps,cells,out,cs,h,h1,hr,hf=>by
  simp only[xZ,Aa3]at hf;cases hp:fk[i]? with
  |none=>rw[hp]at hf;cases hf
  |some os=>
   obtain ⟨off,size⟩:=os;rw[hp]at hf;simp only[uG]at hf;split at hf
   .rename_i hc;simp only[zG]at hc;obtain ⟨⟨c1,c2⟩,c3⟩:=hc;have c1:=yK c1;have c2:=wA c2;have hx:=(hr (i,x) qq).cells c3;have hlen:=hx.2.length;have gd:=h.length;have bg:(a.eval x).cells.size=size:=by rw[<-c1,<-hlen];simp
    have np:off+(a.eval x).cells.size<=cs.size:=by rw[bg];simp at gd;omega
    have gu:=Aev (a.eval x) off cs np;obtain ⟨r,r1,r2,r3⟩:=Ag2 ps _ out _ (by rw[gu];exact h.setAt off hx.2) (by rw[gu];exact h1.setV off hx.1) (λp hp=>hr p (by simp[hp])) hf;refine⟨r,?_,r2,r3⟩;simp only[xZ,Instr.fill,hp];rw[zD]
    .exact r1
    .simp only[yQ,zJ,vW];exact⟨kS bg,by omega⟩
   .cases hf
def nS{P:Program}(w:World):∀(fs:List Field) (r:List (Nat×Nat)),H8 P fs r->(fs.mapM (λf=>do pure (f.offset,<-sizeOf f.type)):Sem (List (Nat×Nat))).run P w=.ok r w
 |[],[],_=>by simp
 |[],_::_,h=>by simp[H8]at h
 |_::_,[],h=>by simp[H8]at h
 |f::fs,(o,n)::r,h=>by
  simp only[H8]at h;have ih:=nS w fs r h.2.2;obtain ⟨ix,h4,h5⟩:∃ix,P.info? f.type=some ix/\ix.size=n:=by
   have h3:=h.2.1;cases hh:P.info? f.type with
   |none=>rw[hh]at h3;cases h3
   |some ix=>rw[hh]at h3;exact⟨ix,rfl,kS h3⟩
  simp only[List.mapM_cons,Sem.run_bind,sizeOf,typeInfo,run_program,Result.andThen_ok,h4,Sem.run_pure,h5,h.1]at ih|-;rw[ih];simp
def Ao6{P:Program}(Γ:Ty P){o:Oper}{s:SS}{t:TypeId}{ti:TI}{fs:List (Nat×Nat)}{ps:List (Nat×Operand)}{out:List SV}(h:o.op=.build t ps.toArray)(ht:Γ.get t=some ti)(hk:ti.k=.struct fs)(h1:eM ti.zero=true)(hf:Aa3 fs (ti.zero.map .val) (ps.map λp=>(p.1,ev s p.2))=some out):Good P o s ⟨.agg out,[],[]⟩ :=
 Good.pure λb a w _ hr _=>by
  obtain ⟨d,info,z,k1,k2,k3,k4,k5,k6⟩:=Γ.ok t ti ht;rw[hk]at k2;simp only[TK.ok]at k2;obtain ⟨fa,rfl,k2⟩:=k2;have hops:∀ p∈ps,Rd b w (ev s p.2) (a.eval p.2):=λ p hp=>hr p.2 (by
   simp only[h,Op.operands];simp only[List.mem_toArray,yS];exact⟨p,hp,E⟩)
  obtain ⟨r,r1,r2,r3⟩:=Ag2 (κ:=b) (w:=w) (a:=a) ps _ out z.cells (by rw[k6];exact bU _) (by rw[k6];exact Vj h1) hops hf;have bd:(fa.mapM (λf=>do pure (f.offset,<-sizeOf f.type)):Sem (Array (Nat×Nat))).run P w=.ok fs.toArray w:=by
   rw[Array.mapM_eq_mapM_toList];simp only[Sem.run_map,nS w _ _ k2,Result.andThen_ok]
  refine⟨.agg r,?_,?_⟩
  .have hfun:(λ(i:Nat)=>fs.toArray[i]?)=(λ(i:Nat)=>fs[i]?):=by funext i;simp
   simp only[execOp,h,Sem.run_bind,Instr.build,zeroValue,typeInfo,run_program,Result.andThen_ok,k3,k5,Sem.run_pure,run_underlying k1,bd,hfun,List.map_toArray];rw[r1];simp
  .simp only[Rd];exact⟨r.toList,by simp,r3,r2⟩
def Mz:Nat->List (Nat×Operand)->Option (List Operand)
 |_,[]=>some []
 |k,(i,x)::r=>bif Nat.beq i k then (Mz (k+1) r).map (x::·) else none
def dZ:∀(ps:List (Nat×Operand)) (k:Nat) (xs:List Operand),Mz k ps=some xs->ps=(xs.zipIdx k).map λp=>(p.2,p.1)
 |[],k,xs,h=>by simp only[Mz,Option.some.injEq]at h;subst h;rfl
 |(i,x)::r,k,xs,h=>by
  simp only[Mz,uG]at h;split at h
  .rename_i hb;have:=yK hb;subst this;cases hs:Mz (i+1) r with
   |none=>rw[hs]at h;cases h
   |some ys=>
    rw[hs]at h;simp only[uM,Option.some.injEq]at h;subst h;simp[List.zipIdx_cons,dZ r _ ys hs]
  .cases h
def Aky(sz:Nat):∀(vs:List Value) (k:Nat) (cs:Array Value),cs.size=(k+vs.length)*sz->(∀v∈vs,v.cells.size=sz) ->
  ∃r:Array Value,Instr.fill (λi=>some (i*sz,sz)) cs ((vs.zipIdx k).map λp=>(p.2,p.1))=some r/\r.toList=cs.toList.take (k*sz)++vs.flatMap (·.cells.toList)
 | [],k,cs,h,_=>⟨cs,by simp[Instr.fill],by
   simp only[List.flatMap_nil,xG];rw[xD];simp[h]⟩
 |v::vs,k,cs,h,hv=>by
  have bg:=hv v qq;have e1:(k+(v::vs).length)*sz=k*sz+sz+vs.length*sz:=by
   simp only[yL,xI,wN];omega
  have np:k*sz+v.cells.size<=cs.size:=by rw[h,e1,bg];omega
  have gu:=Aev v (k*sz) cs np;have yi:(v.cells.zipIdx.foldl (λcs (c,j)=>cs.setIfInBounds (k*sz+j) c) cs).size=cs.size:=by
   rw[<-wT,gu,Cj,wT]
  obtain ⟨r,r1,r2⟩:=Aky sz vs (k+1) (v.cells.zipIdx.foldl (λ cs (c,j)=>cs.setIfInBounds (k * sz+j) c) cs) (by
   rw[yi,h,e1];simp only[xI,wN]) (λ u hu=>hv u (by simp[hu]))
  refine⟨r,?_,?_⟩
  .simp only[List.zipIdx_cons,xZ,Instr.fill];rw[zD]
   .exact r1
   .simp only[yQ,zJ,vW];exact⟨kS bg,by omega⟩
  .rw[r2,gu,O6 _ _ _ (kS np)];have:(k+1)*sz=(cs.toList.take (k*sz)++v.cells.toList).length:=by
    rw[zU,zW,wT,wT,bg,xI,wN];omega
   rw[this,wX qq,xD (yG _),vZ,xF]
def Akx{sz:Nat}:∀(vs:List Value) (i j:Nat),(∀v∈vs,v.cells.size=sz)->j<sz->∀u,vs[i]? = some u->(vs.flatMap (·.cells.toList))[i*sz+j]? = u.cells[j]?
 |[],i,j,_,_,u,h=>by simp at h
 |v::vs,0,j,hv,hj,u,h=>by
  simp only[tD,Option.some.injEq]at h;subst h;have:=hv v qq;rw[vZ,Nat.zero_mul,xW,xQ (by simpa [this] using hj)];simp
 |v::vs,i+1,j,hv,hj,u,h=>by
  have h0:=hv v qq;rw[vZ,wE (by simp only[wT,h0,xI,wN];omega)];have:=Akx vs i j (λx hx=>hv x (by simp[hx])) hj u (kS h);rw[<-this];congr 1;simp only[wT,h0,xI,wN];omega
def Ad7(sz:Nat):List SV->Bool
 |[]=>true
 |x::l=>x.boxed&&x.data&&Nat.beq (cellsOf x).length sz&&Ad7 sz l
def dC{sz:Nat}:∀{l:List SV} {i:Nat} {x:SV},Ad7 sz l=true->H6 l i=some x->x.boxed=true/\x.data=true/\(cellsOf x).length=sz
 |[],i,x,_,h=>by cases i<;>simp[H6]at h
 |y::l,0,x,h,h'=>by
  simp only[Ad7,zG]at h;simp only[H6,Option.some.injEq]at h';subst h';exact⟨h.1.1.1,h.1.1.2,yK h.1.2⟩
 |y::l,i+1,x,h,h'=>by
  simp only[Ad7,zG]at h;exact dC h.2 h'
def lP{k:Type 1}:∀{l:List k} {i:Nat} {x:k},H6 l i=some x->i<l.length
 |[],i,x,h=>by cases i<;>simp[H6]at h
 |_::l,0,x,_=>by simp
 |_::l,i+1,x,h=>by have:=lP (l:=l) (i:=i) h;simp;omega
def V0{k:Type 1}:∀{l:List k} {i:Nat},i<l.length->∃x,H6 l i=some x
 |[],i,h=>by simp at h
 |x::l,0,_=>⟨x,rfl⟩
 |_::l,i+1,h=>V0 (l:=l) (kS h)
def lE{P:Program}(Γ:Ty P){o:Oper}{s:SS}{t:TypeId}{ti:TI}{et:TypeId}{sz eb len:Nat}{ez:List Value}{ps:List (Nat×Operand)}{xs:List Operand}{d:Nat}(h:o.op=.buildSlice t len ps.toArray)(hd:s.h d=.fresh)(ht:Γ.get t=some ti)(hk:ti.k=.slice et sz eb ez)(hq:Mz 0 ps=some xs)(hlen:xs.length=len)(hbig:len*sz<=16777216)(ar:Ad7 sz (xs.map (ev s))=true):Good P o s ⟨.osl d,[],[(d,.lit sz (xs.map (ev s)))]⟩ :=
 aP hd λc a w hi hr _ hn=>by
  have nh:=dZ ps 0 xs hq;obtain ⟨hu,i,z,q1,q2,q3,q4,q5⟩:=Cs Γ ht hk;have hops:∀ x∈xs,Rd c w (ev s x) (a.eval x):=λ x hx=>hr x (by
   simp only[h,Op.operands,nh];simp only[List.mem_toArray,yS];obtain ⟨j,hj,rfl⟩:=yY.1 hx;exact⟨(j,xs[j]),⟨(xs[j],j),by rw[tA];simp[hj],E⟩,E⟩)
  have tu:RdL c w (xs.map (ev s)) (xs.map a.eval):=Qj xs hops;have tv:∀j x,H6 (xs.map (ev s)) j=some x->∃v,(xs.map a.eval)[j]? = some v/\Rd c w x v/\v.cells.size=sz/\Ones v.cells.toList:=λj x hj=>by
   obtain ⟨v,h1,h2⟩:=tu.get hj;obtain ⟨c1,c2,c3⟩:=dC ar hj;obtain ⟨e1,e2⟩:=h2.cells c1;exact⟨v,h1,h2,by rw[<-c3,<-e2.length];simp,e1⟩
  have lz:∀v∈xs.map a.eval,v.cells.size=sz:=λv hv=>by
   obtain ⟨j,hj,rfl⟩:=yY.1 hv;obtain ⟨x,hx⟩:=V0 (l:=xs.map (ev s)) (i:=j) (kS hj);obtain ⟨v',h1,_,h2,_⟩:=tv j x hx;rw[zR hj]at h1;simp only[Option.some.injEq]at h1;rw[h1];exact h2
  generalize bq:(Array.range (len*sz)).map ((if len*sz=0 then #[] else z.cells)[·%(if len*sz=0 then #[] else z.cells).size]!)=z0;have hz0s:z0.size=(0+(xs.map a.eval).length)*sz:=by rw[<-bq];simp[hlen]
  obtain ⟨r,r1,r2⟩:=Aky sz (xs.map a.eval) 0 z0 hz0s lz;have im:r.toList=(xs.map a.eval).flatMap (·.cells.toList):=by rw[r2];simp
  refine⟨.slice (some ⟨w.heap.size,0,none⟩) len len,w.alloc (.cells r et),.row w.heap.size len len,?_,Grew.alloc w _,?_,?_⟩
  .have hp:(ps.toArray.map λ(p:Nat×Operand)=>(p.1,a.eval p.2)).toList=((xs.map a.eval).zipIdx 0).map λp=>(p.2,p.1):=by
    rw[nh];simp only[List.map_toArray,List.map_map,List.zipIdx_map];rfl
   have yj:¬(16777216<len*sz):=by omega
   simp only[execOp,h,Sem.run_bind,Instr.buildSlice,run_underlying hu,Result.andThen_ok,sizeOf,typeInfo,run_program,q1,Sem.run_pure,q2];rw[zD (kS yj)];by_cases h0:len*sz=0
   .rw[zE h0];simp only[zE h0]at bq;simp only[Sem.run_bind,Sem.run_pure,Result.andThen_ok,bq,hp,r1,newRow,run_newObj];rfl
   .rw[zD h0];simp only[zD h0]at bq;simp only[Sem.run_bind,zeroValue,typeInfo,run_program,Result.andThen_ok,q1,Sem.run_pure,q4,bq,hp,r1,newRow,run_newObj];rfl
  .intro b hb;simp only[Ent.block?,Option.some.injEq]at hb;subst hb;simp
  .intro st;refine⟨by simp[Rd,Az],w.heap.size,len,r.toList,et,(0,0),by simp[Az,hlen],?_,NoFr.zero _,?_,by simp[hlen],?_⟩
   .rw[heap_alloc_new]
   .have:=r2;have h9:r.toList.length=len*sz:=by
     rw[im];have:∀vs:List Value,(∀v∈vs,v.cells.size=sz)->(vs.flatMap (·.cells.toList)).length=vs.length*sz:=by
      intro vs
      induction vs with
      |nil=>simp
      |cons v vs ih=>
       intro hv;rw[vZ,zU,ih (λu hu=>hv u (by simp[hu])),wT,hv v qq,yL,xI,wN];omega
     rw[this _ lz];simp[hlen]
    omega
   .intro j x hx;obtain ⟨v,h1,h2,h3,h4⟩:=tv j x hx;have hj:j<xs.length:=by have:=lP hx;simpa using this
    obtain ⟨c1,c2,c3⟩:=dC ar hx;refine⟨kS hj,v,RdD.keep st.keeps _ _ (Rd.data _ _ c2 h2),h3,h4,λm hm=>?_⟩;rw[im];exact Akx _ j m lz hm v h1
def nW{k:Type}{e:k->SV}{l:List k}(i:Nat)(h:i<l.length):∃x,rowF e l i x:=⟨_,h,rfl⟩
inductive AppBase(s:SS)(sz:Nat):SV->Option Nat->Nat->(Nat->SV->Prop)->Prop
 |nil:AppBase s sz (.val (.slice none 0 0)) none 0 (λ_ _=>False)
 |row {k:Nat} {α:Type} {e:α->SV} {l:List α} (h:s.h k=.row sz e l):AppBase s sz (.osl k) (some k) l.length (rowF e l)
 |lit {k:Nat} {l:List SV} (h:s.h k=.lit sz l):AppBase s sz (.osl k) (some k) l.length (Acq l)
inductive AppSrc(s:SS)(sz:Nat):SV->List Nat->Nat->(Nat->SV->Prop)->Prop
 |sl {α:Type} {e:α->SV} {l:List α}:AppSrc s sz (.sl sz e l) [] l.length (rowF e l)
 |row {k:Nat} {α:Type} {e:α->SV} {l:List α} (h:s.h k=.row sz e l):AppSrc s sz (.osl k) [k] l.length (rowF e l)
 |lit {k:Nat} {l:List SV} (h:s.h k=.lit sz l):AppSrc s sz (.osl k) [k] l.length (Acq l)
 |nil:AppSrc s sz (.val (.slice none 0 0)) [] 0 (λ_ _=>False)
theorem AppBase.base{s:SS}{sz:Nat}{x:SV}{k:Option Nat}{n:Nat}{f:Nat->SV->Prop}(h:AppBase s sz x k n f){a:Ka}{w:World}{v:Value}(hr:Rd a w x v)(ho:∀j,k=some j->ObOK a w j (s.h j)):Base a w v n sz f k:=by
 cases h with
 |nil=>exact⟨hr.val,rfl⟩
 | @row k r e l h=>
  have h1:=ho k rfl;rw[h]at h1;rcases h1 with ⟨h2,rfl⟩|h2
  .simp only[Rd,h2]at hr;exact .inl ⟨h2,E,hr⟩
  .obtain ⟨b,cap,h3,h4⟩:=h2.src nW;simp only[Rd,h3]at hr;exact .inr ⟨h2,nW,b,cap,h3,hr⟩
 | @lit k l h=>
  have h1:=ho k rfl;rw[h]at h1;have h2:RowAt a w k sz l.length (Acq l):=h1;obtain ⟨b,cap,h3,h4⟩:=h2.src (λi hi=>V0 hi);simp only[Rd,h3]at hr;exact .inr ⟨h2,λi hi=>V0 hi,b,cap,h3,hr⟩
theorem AppSrc.src{s:SS}{sz:Nat}{x:SV}{ks:List Nat}{n:Nat}{f:Nat->SV->Prop}(h:AppSrc s sz x ks n f){a:Ka}{w:World}{v:Value}(hr:Rd a w x v)(ho:∀j∈ks,ObOK a w j (s.h j)):Src a w v n sz f:=by
 cases h with
 |sl=>exact hr.src
 |nil=>exact .inl ⟨rfl,λ_ _ h=>h,none,0,hr.val⟩
 | @row k r e l h=>
  have h1:=ho k qq;rw[h]at h1;rcases h1 with ⟨h2,rfl⟩|h2
  .simp only[Rd,h2]at hr;exact .inl ⟨rfl,λi x hx=>(by obtain ⟨h,_⟩:=hx;simp at h),none,0,hr⟩
  .obtain ⟨b,cap,h3,h4⟩:=h2.src nW;simp only[Rd,h3]at hr;subst hr;exact h4
 | @lit k l h=>
  have h1:=ho k qq;rw[h]at h1;have h2:RowAt a w k sz l.length (Acq l):=h1;obtain ⟨b,cap,h3,h4⟩:=h2.src (λi hi=>V0 hi);simp only[Rd,h3]at hr;subst hr;exact h4
def Uc(k:Option Nat)(d:Nat)(ob:Ob):List (Nat×Ob):=match k with
 |some k=>[(k,.non),(d,ob)]
 |none=>[(d,ob)]
def fA{P:Program}(Γ:Ty P){o:Oper}{s:SS}{t:TypeId}{ti:TI}{et:TypeId}{sz eb n m:Nat}{ez:List Value}{x y:Operand}{d:Nat}{k:Option Nat}{ks:List Nat}{f g:Nat->SV->Prop}{ob:Ob}(h:o.op=.call ⟨.builtin .append,#[x,y],#[t,t]⟩)(hd:s.h d=.fresh)(ht:Γ.get t=some ti)(hk:ti.k=.slice et sz eb ez)(ou:ez.length=sz)(hb:AppBase s sz (ev s x) k n f)(hs:AppSrc s sz (ev s y) ks m g)(pn:∀j,k=some j->j≠d)(cz:(n+m)*eb<=140737488355328)(sg:n+m<=9223372036854775807)(ck:∀b w,((b d=.nil/\n+m=0)\/RowAt b w d sz (n+m) (Au8 n f g))->ObOK b w d ob):Good P o s ⟨.osl d,ks,Uc k d ob⟩:=by
 intro b a w hi hr ho N Q hN;have h1:=hr x (by simp[h,Op.operands,Call.operands]);have h2:=hr y (by simp[h,Op.operands,Call.operands]);have jr:∀j,j∈(Up.mk (.osl d) ks (Uc k d ob)).ws↔(k=some j\/j=d):=by
  intro j;cases k<;>simp[Up.ws,Uc,eq_comm]
 have ay:b d=.new:=by have:=ho d (.inr ((jr d).2 (.inr rfl)));rwa [hd]at this
 obtain ⟨hu,i,z,q1,q2,q3,q4,q5⟩:=Cs Γ ht hk;have sf:z.cells.size=sz:=by rw[<-ou,<-q5];simp
 obtain ⟨v',w',b',r1,r2,r3,r4,r5⟩:=Alt (P:=P) (ty:=o.type) hi hu q1 q4 q2 sf ay (hb.base h1 (λj hj=>ho j (.inr ((jr j).2 (.inl hj))))) (hs.src h2 (λj hj=>ho j (.inl hj))) sg (by rw[q3];exact cz);have au:(execOp a.eval o).run P w=.ok (.value v') w':=by
  simp[execOp,h,resolve,invoke,builtin,r1]
 simp only[Oper.wp,au,Oper.upon];refine hN v' b' w' (r2.weaken (λj hj=>(jr j).2 hj)) r3 r4 (λp hp=>?_);have fm:=ck b' w' r5;cases k with
 |none=>
  simp only[Uc,zZ]at hp;subst hp;exact fm
 |some k=>
  simp only[Uc,yH,xP,vQ]at hp;rcases hp with rfl|rfl
  .trivial
  .exact fm
def A0c{a:Type}{e:a->SV}{l:List a}{k:Ka}{w:World}{d sz n m:Nat}{f g:Nat->SV->Prop}(h:(k d=.nil/\n+m=0)\/RowAt k w d sz (n+m) (Au8 n f g))(hl:l.length=n+m)(hf:∀i x,rowF e l i x->Au8 n f g i x):ObOK k w d (.row sz e l):=by
 rcases h with ⟨h1,h2⟩|⟨b,cap,cs,T,fr,e1,e2,e3,e4,e5,e6⟩
 .exact .inl ⟨h1,yB z_⟩
 .exact .inr ⟨b,cap,cs,T,fr,by rw[hl];exact e1,e2,e3,e4,by omega,λi x hx=>by rw[hl];exact e6 i x (hf i x hx)⟩
def Awv{k:Type}{e:k->SV}{l m:List k}{f g:Nat->SV->Prop}(h1:∀i x,rowF e l i x->f i x)(h2:∀i x,rowF e m i x->g i x)(i:Nat)(x:SV)(h:rowF e (l++m) i x):Au8 l.length f g i x:=by
 obtain ⟨hi,rfl⟩:=h;by_cases hl:i<l.length
 .exact .inl ⟨hl,h1 i _ ⟨hl,by rw[yT hl]⟩⟩
 .have tr:l.length<=i:=by omega
  exact .inr ⟨tr,h2 _ _ ⟨by simp at hi;omega,by rw[xR tr]⟩⟩
def getI_map{k:Type}{e:k->SV}:∀{l:List k} {i:Nat} (h:i<l.length),H6 (l.map e) i=some (e l[i])
 |[],i,h=>by simp at h
 |x::l,0,_=>rfl
 |_::l,i+1,h=>getI_map (l:=l) (i:=i) (kS h)
def Q6{k:Type}{e:k->SV}{l:List k}{svs:List SV}(h:l.map e=svs)(i:Nat)(x:SV)(hx:rowF e l i x):Acq svs i x:=by
 obtain ⟨hi,rfl⟩:=hx;subst h;exact getI_map hi
def B5{P:Program}(Γ:Ty P){o:Oper}{s:SS}{t:TypeId}{ti:TI}{et:TypeId}{sz eb:Nat}{ez:List Value}{x y:Operand}{d:Nat}{ik ik':IntKind}{n:Nat}{c:Type}(e:c->SV)(z:c)(h:o.op=.makeSlice t x y)(hd:s.h d=.fresh)(ht:Γ.get t=some ti)(hk:ti.k=.slice et sz eb ez)(ou:ez.length=sz)(h1:eM ez=true)(hx:ev s x=.val (.int ik n))(hy:ev s y=.val (.int ik' n))(cz:n*eb<=281474976710656)(sg:n<=9223372036854775807)(hz:cellsOf (e z)=ez.map .val)(xn:(e z).boxed=true)(xo:(e z).data=true):Good P o s ⟨.osl d,[],[(d,.row sz e (List.replicate n z))]⟩ :=
 aP hd λr a w hi hr _ hn=>by
  have r1:=hr x (by simp[h,Op.operands]);have r2:=hr y (by simp[h,Op.operands]);rw[hx]at r1;rw[hy]at r2;obtain ⟨hu,i,zv,q1,q2,q3,q4,q5⟩:=Cs Γ ht hk;have sf:zv.cells.size=sz:=by rw[<-ou,<-q5];simp
  have rj:(i.bytes:Int)*(n:Int)<=281474976710656:=by
   have:((i.bytes*n:Nat):Int)<=281474976710656:=by rw[q3,vE];omega
   rwa [Int.natCast_mul]at this
  have hm:=run_make (P:=P) w t et i zv hu q1 q4 ik ik' n n z_ (xN _) rj z_;simp only[yE]at hm;refine⟨.slice (some ⟨w.heap.size,0,none⟩) n n,w.alloc (.cells (madeCells zv.cells (n*i.size)) et),.row w.heap.size n n,?_,Grew.alloc w _,?_,?_⟩
  .simp[execOp,h,r1.val,r2.val,hm]
  .intro b hb;simp only[Ent.block?,Option.some.injEq]at hb;subst hb;simp
  .intro st;refine⟨by simp[Rd,Az],.inr ⟨w.heap.size,n,(madeCells zv.cells (n*i.size)).toList,et,(0,0),by simp[Az],?_,NoFr.zero _,?_,by simp,?_⟩⟩
   .rw[heap_alloc_new]
   .simp[size_madeCells,q2]
   .rintro j y ⟨hj,rfl⟩;have o8:j<n:=kS hj;obtain ⟨u,u1,u2⟩:=Rd.of_cells (κ:=D8 r d (.row w.heap.size n n)) (w:=w.alloc (.cells (madeCells zv.cells (n*i.size)) et)) xn (Vj h1) (by rw[hz];exact bU _);rw[List.getElem_replicate];have hus:u.cells.size=sz:=by rw[<-wT,u2,ou]
    refine⟨kS o8,u,Rd.data _ _ xo u1,hus,by rw[u2];exact Vj h1,λm hm=>?_⟩;have ab:j*sz+m<n*sz:=by
     have:(j+1)*sz<=n*sz:=yX sz z_;rw[xI,wN]at this;omega
    have hmod:(j*sz+m)%zv.cells.size=m:=by rw[sf,tI,Nat.add_mul_mod_self_right];exact xH hm
    rw[<-vP,u2,<-q5];simp only[madeCells,q2,Array.toList_map,Array.toList_range,vD,uC ab,uM,hmod];rw[vP,uE z_];simp[sf,hm]
def Awj{k:Ka}{w:World}{sz:Nat}{a:Type}{e:a->SV}{l:List a}{lo hi:Nat}{ad:Option Addr}{cap:Nat}(h:Rd k w (.sl sz e l) (.slice ad l.length cap))(h1:lo<=hi)(h2:hi<=l.length):Rd k w (.sl sz e ((l.take hi).drop lo)) (.slice (if cap=lo then ad else ad.map (·.add (lo*sz))) (hi-lo) (cap-lo)):=by
 simp only[Rd,RdD]at h|-;by_cases he:lo=hi
 .subst he;exact .inl ⟨by rw[List.drop_eq_nil_iff];simp;omega,if cap=lo then ad else ad.map (·.add (lo*sz)),cap-lo,by simp⟩
 .rcases h with ⟨rfl,_⟩|⟨b,off,d5,h3,h0,h4,h5,h6⟩
  .simp at h2;omega
  .cases h3;have gv:cap≠lo:=by omega
   refine .inr ⟨b,off+lo*sz,cap-lo,?_,by simp;omega,h4,h5,λi hi'=>?_⟩
   .rw[zD gv];simp only[uM,Addr.add_lit];congr 1;simp;omega
   .have ab:lo+i<l.length:=by simp at hi';omega
    obtain ⟨u,h7,h8⟩:=h6 (lo+i) ab;refine⟨u,?_,?_⟩
    .rw[vN,wH];exact h7
    .rw[show off+lo*sz+i*sz=off+(lo+i)*sz from by rw[xI];omega];exact h8
def Ju{P:Program}(w:World){len cap lo hi:Nat}{lo' hi':Option Value}(kh:lo'=none/\lo=0\/∃k,lo'=some (.int k lo))(ls:hi'=none/\hi=len\/∃k,hi'=some (.int k hi))(h1:lo<=hi)(h2:hi<=cap):(Instr.sliceBounds true len cap lo' hi' none).run P w=.ok (lo,hi,cap) w:=by
 rcases kh with ⟨rfl,rfl⟩|⟨k,rfl⟩<;>rcases ls with ⟨rfl,rfl⟩|⟨k',rfl⟩<;>simp[Instr.sliceBounds,Instr.sliceBound,asIntOf,h1,h2]
def cap_ge{k:Ka}{w:World}{sz:Nat}{a:Type}{e:a->SV}{l:List a}{v:Value}(h:Rd k w (.sl sz e l) v):∃ad cap,v=.slice ad l.length cap/\l.length<=cap:=by
 simp only[Rd,RdD]at h;rcases h with ⟨rfl,ad,cap,h⟩|⟨b,off,cap,h,h0,_⟩
 .exact⟨ad,cap,h,xX _⟩
 .exact⟨_,cap,h,h0⟩
def BoundIs(s:SS)(x:Option Operand)(s8 n:Nat):Prop:=(x=none/\n=s8)\/∃y k,x=some y/\ev s y=.val (.int k n)
theorem BoundIs.val{b:Ka}{w:World}{s:SS}{a:Act}{x:Option Operand}{s8 n:Nat}(h:BoundIs s x s8 n)(hr:∀y,x=some y->Rd b w (ev s y) (a.eval y)):(x.map a.eval=none/\n=s8)\/∃k,x.map a.eval=some (.int k n):=by
 rcases h with ⟨rfl,h⟩|⟨y,k,rfl,h⟩
 .exact .inl ⟨E,h⟩
 .have:=hr y rfl;rw[h]at this;exact .inr ⟨k,by simp[this.val]⟩
def Du{P:Program}(Γ:Ty P){o:Oper}{s:SS}{t:TypeId}{ti:TI}{et:TypeId}{sz eb lo hi:Nat}{ez:List Value}{x:Operand}{lx hx:Option Operand}{r:Type}{e:r->SV}{l:List r}(h:o.op=.slice t x lx hx none)(ht:Γ.get t=some ti)(hk:ti.k=.slice et sz eb ez)(lr:ev s x=.sl sz e l)(kh:BoundIs s lx 0 lo)(ls:BoundIs s hx l.length hi)(h1:lo<=hi)(h2:hi<=l.length):Good P o s ⟨.sl sz e ((l.take hi).drop lo),[],[]⟩ :=
 Good.pure λb a w _ hr _=>by
  have r1:=hr x (by simp[h,Op.operands]);rw[lr]at r1;obtain ⟨hu,i,zv,q1,q2,q3,q4,q5⟩:=Cs Γ ht hk;obtain ⟨ad,cap,e1,e2⟩:=cap_ge r1;have b1:=kh.val (a:=a) (λy hy=>hr y (by simp[h,Op.operands,hy]));have b2:=ls.val (a:=a) (λy hy=>hr y (by simp[h,Op.operands,hy]));rw[e1]at r1;have hb:=Ju (P:=P) w (len:=l.length) (cap:=cap) b1 b2 h1 z_;refine⟨_,?_,Awj r1 h1 h2⟩;simp[execOp,h,e1,Instr.sliceAt,Instr.slice,run_underlying hu,hb,sizeOf,typeInfo,q1,q2]
def aO{P:Program}(Γ:Ty P){o:Oper}{s:SS}{t:TypeId}{ti:TI}{lo hi:Nat}{x:Operand}{lx hx:Option Operand}{b:ByteArray}(h:o.op=.slice t x lx hx none)(ht:Γ.get t=some ti)(hk:ti.k=.string)(lr:ev s x=.val (.string b))(kh:BoundIs s lx 0 lo)(ls:BoundIs s hx b.size hi)(h1:lo<=hi)(h2:hi<=b.size):Good P o s ⟨.val (.string (b.extract lo hi)),[],[]⟩ :=
 Good.pure λr a w _ hr _=>by
  have r1:=hr x (by simp[h,Op.operands]);rw[lr]at r1;obtain ⟨d,info,z,k1,k2,k3,k4,k5,k6⟩:=Γ.ok t ti ht;rw[hk]at k2;simp only[TK.ok]at k2;subst k2;have b1:=kh.val (a:=a) (λy hy=>hr y (by simp[h,Op.operands,hy]));have b2:=ls.val (a:=a) (λy hy=>hr y (by simp[h,Op.operands,hy]));have hb:(Instr.sliceBounds false b.size b.size (lx.map a.eval) (hx.map a.eval) none).run P w=.ok (lo,hi,b.size) w:=by
   rcases b1 with ⟨c1,rfl⟩|⟨k,c1⟩<;>rcases b2 with ⟨c2,rfl⟩|⟨k',c2⟩<;>rw[c1,c2]<;>simp[Instr.sliceBounds,Instr.sliceBound,asIntOf,h1,h2]
  refine⟨.string (b.extract lo hi),?_,by simp only[Rd]⟩;simp[execOp,h,r1.val,Instr.sliceAt,Instr.slice,run_underlying k1,hb]
def Aaw{P:Program}(Γ:Ty P){o:Oper}{s:SS}{t:TypeId}{ti:TI}{et:TypeId}{sz eb hi k d:Nat}{ez:List Value}{x:Operand}{lx hx:Option Operand}{m:Type}{e:m->SV}{l:List m}(h:o.op=.slice t x lx hx none)(hd:s.h d=.fresh)(ht:Γ.get t=some ti)(hk:ti.k=.slice et sz eb ez)(lr:ev s x=.osl k)(cm:k≠d)(gb:s.h k=.row sz e l)(kh:BoundIs s lx 0 0)(ls:BoundIs s hx l.length hi)(h2:hi<=l.length):Good P o s ⟨.osl d,[],[(k,.non),(d,.row sz e (l.take hi))]⟩:=by
 intro r a w hinv hr ho N Q hN;have r1:=hr x (by simp[h,Op.operands]);rw[lr]at r1;obtain ⟨hu,i,zv,q1,q2,q3,q4,q5⟩:=Cs Γ ht hk;have ay:r d=.new:=by have:=ho d (.inr (by simp[Up.ws]));rwa [hd]at this
 have ck:=ho k (.inr (by simp[Up.ws]));rw[gb]at ck;have b1:=kh.val (a:=a) (λy hy=>hr y (by simp[h,Op.operands,hy]));have b2:=ls.val (a:=a) (λy hy=>hr y (by simp[h,Op.operands,hy]));rcases ck with ⟨e1,rfl⟩|⟨b,cap,cs,T,fr,e1,e2,e3,e4,e5,e6⟩
 .simp only[Rd,e1]at r1;have hhi0:hi=0:=kS h2;subst hhi0;have hb:=Ju (P:=P) w (len:=0) (cap:=0) (hi:=0) (hi':=hx.map a.eval) b1 b2 (yG _) (yG _);have au:(execOp a.eval o).run P w=.ok (.value (.slice none 0 0)) w:=by
   simp[execOp,h,r1,Instr.sliceAt,Instr.slice,run_underlying hu,hb,sizeOf,typeInfo,q1]
  have st:=Ko (Lx hinv (some k)) (by show D8 r k .dead d=.new;rw[Cb _ _ (Ne.symm cm)];exact ay) (e:=.nil) (Grew.refl w) (λb hb=>by cases hb);simp only[Oper.wp,au,Oper.upon];refine hN _ _ w ((((J4 (some k)).weaken (λj hj=>by simp only[Option.some.injEq]at hj;subst hj;simp[Up.ws])).trans (st.1.weaken (λj hj=>by subst hj;simp[Up.ws])))) st.2 (by simp[Rd,Az]) (λp hp=>?_);simp only[yH,xP,vQ]at hp;rcases hp with rfl|rfl
  .trivial
  .exact .inl ⟨Az _ _ _,by simp⟩
 .simp only[Rd,e1]at r1;have hb:=Ju (P:=P) w (len:=l.length) (cap:=cap) b1 b2 (xX _) z_;have au:(execOp a.eval o).run P w=.ok (.value (.slice (some ⟨b,0,none⟩) hi cap)) w:=by
   simp only[execOp,h,r1,Instr.sliceAt,Instr.slice,Sem.run_bind,run_underlying hu,Result.andThen_ok,Option.map_none,hb,sizeOf,typeInfo,run_program,q1,Sem.run_pure];by_cases hc:cap=0<;>simp[hc,Addr.add]
  obtain ⟨st,inv⟩:=Q4 (n':=hi) (w':=w) hinv e1 ay rfl rfl rfl rfl (λ_ _=>rfl);simp only[Oper.wp,au,Oper.upon];refine hN _ _ w (st.weaken (λj hj=>by rcases hj with rfl|rfl<;>simp[Up.ws])) inv (by simp[Rd,Az]) (λp hp=>?_);simp only[yH,xP,vQ]at hp;rcases hp with rfl|rfl
  .trivial
  .have hlen:(l.take hi).length=hi:=by simp;omega
   refine .inr ⟨b,cap,cs,T,fr,by rw[hlen];exact Az _ _ _,e2,e3,e4,by omega,λi x hx=>?_⟩;obtain ⟨hi',rfl⟩:=hx;have l5:i<l.length:=by simp at hi';omega
   obtain ⟨h0,u,u1,u2⟩:=e6 i (e l[i]) ⟨l5,rfl⟩;refine⟨kS hi',u,?_,u2⟩;rw[wH];exact RdD.keep st.keeps _ _ u1
def L0{P:Program}{o:Oper}{s:SS}{op:BinOp}{t yt:TypeId}{x y:Operand}{m n:ByteArray}{u:Value}(h:o.op=.binOp op t x y yt)(hop:op≠.shl/\op≠.shr)(hx:ev s x=.val (.string m))(hy:ev s y=.val (.string n))(hr:∀w,(Op.stringOp op m n).run P w=.ok u w):Good P o s ⟨.val u,[],[]⟩ :=
 Good.pure λk a w _ ia _=>by
  have h1:=ia x (by simp[h,Op.operands]);have h2:=ia y (by simp[h,Op.operands]);rw[hx]at h1;rw[hy]at h2;refine⟨u,?_,by simp[Rd]⟩;have hb:binOp op t (.string m) (.string n)=Op.stringOp op m n:=by cases op<;>simp[binOp]at hop|-
  simp[execOp,h,h1.val,h2.val,eqGuard_at_string,hb,hr]
mutual
def SV.ren(a:Nat->Nat):SV->SV
 | .ptr k o=>.ptr (a k) o
 | .rpt k sz i o=>.rpt (a k) sz i o
 | .osl k=>.osl (a k)
 | .agg l=>.agg (Lc a l)
 | .tup l=>.tup (Lc a l)
 | .ifc t x=>.ifc t (x.ren a)
 | .clo fn f l=>.clo fn (Lc a f) (Lc a l)
 | .top=>.top
 | .val v=>.val v
 | .sl sz e l=>.sl sz e l
 | .ref sz x o=>.ref sz x o
def Lc(k:Nat->Nat):List SV->List SV
 |[]=>[]
 |x::l=>x.ren k::Lc k l
end
def Se(K:List Nat)(k:Nat):Bool:=match K with
 |[]=>false
 |x::l=>Nat.beq x k||Se l k
def memN_iff{K:List Nat}{k:Nat}:Se K k=true↔k∈K:=by
 induction K with
 |nil=>simp[Se]
 |cons x l ih=>
  have hb:Nat.beq x k=true↔x=k:=⟨yK,λh=>by subst h;simp⟩
  simp only[Se,yQ,yH,ih,hb];constructor
  .rintro (h|h)
   .exact .inl h.symm
   .exact .inr h
  .rintro (h|h)
   .exact .inl h.symm
   .exact .inr h
mutual
def SV.inn(K:List Nat):SV->Bool
 | .ptr k _=>Se K k
 | .rpt k _ _ _=>Se K k
 | .osl k=>Se K k
 | .agg l=>B7 K l
 | .tup l=>B7 K l
 | .ifc _ x=>x.inn K
 | .clo _ f l=>B7 K f&&B7 K l
 |_=>true
def B7(K:List Nat):List SV->Bool
 |[]=>true
 |x::l=>x.inn K&&B7 K l
end
def Ob.ren(k:Nat->Nat):Ob->Ob
 | .box l=>.box (Lc k l)
 | .rown sz e l i cl=>.rown sz e l i (Lc k cl)
 | .tbox T l=>.tbox T (Lc k l)
 |o=>o
def Ob.inn(K:List Nat):Ob->Bool
 | .box l=>B7 K l
 | .rown _ _ _ _ cl=>B7 K cl
 | .tbox _ l=>B7 K l
 |_=>true
structure Ren(ρ:Nat->Nat)(K:List Nat)(κ κ₂:Ka):Prop where
 ent:∀k,k∈K->κ₂ k=κ (ρ k)
mutual
theorem Rd.unren{ρ:Nat->Nat}{K:List Nat}{κ κ₂:Ka}{w:World}(r:Ren ρ K κ κ₂)(ho:∀b,b<w.heap.size->¬Own κ b->¬Own κ₂ b):∀(x:SV) (v:Value),x.inn K=true->Rd κ w (x.ren ρ) v->Rd κ₂ w x v
 | .top,_,_,_=>by simp[Rd]
 | .val u,v,_,h=>by simpa [Rd,SV.ren] using h
 | .agg l,v,hi,h=>by
  simp only[Rd,SV.ren,SV.inn]at h hi|-;obtain ⟨cs,h1,h0,h2⟩:=h;exact⟨cs,h1,h0,RdL.unren r ho l cs hi h2⟩
 | .tup l,v,hi,h=>by
  simp only[Rd,SV.ren,SV.inn]at h hi|-;obtain ⟨cs,h1,h2⟩:=h;exact⟨cs,h1,RdL.unren r ho l cs hi h2⟩
 | .sl sz e l,v,_,h=>by
  simp only[Rd,SV.ren]at h|-;exact RdD.keep ⟨yG _,λ_ _ _=>rfl,ho⟩ _ _ h
 | .ref sz x off,v,_,h=>by
  simp only[Rd,SV.ren]at h|-;exact RdD.keep ⟨yG _,λ_ _ _=>rfl,ho⟩ _ _ h
 | .ptr k off,v,hi,h=>by
  simp only[Rd,SV.ren,SV.inn]at h hi|-;rw[r.ent k (memN_iff.1 hi)];exact h
 | .rpt k sz i off,v,hi,h=>by
  simp only[Rd,SV.ren,SV.inn]at h hi|-;rw[r.ent k (memN_iff.1 hi)];exact h
 | .osl k,v,hi,h=>by
  simp only[Rd,SV.ren,SV.inn]at h hi|-;rw[r.ent k (memN_iff.1 hi)];exact h
 | .ifc t x,v,hi,h=>by
  simp only[Rd,SV.ren,SV.inn]at h hi|-;obtain ⟨u,h1,h2⟩:=h;exact⟨u,h1,Rd.unren r ho x u hi h2⟩
 | .clo fn first cap,v,hi,h=>by
  simp only[Rd,SV.ren,SV.inn,zG]at h hi|-;obtain ⟨fs,cs,h1,h2,h3⟩:=h;exact⟨fs,cs,h1,RdL.unren r ho first fs hi.1 h2,RdL.unren r ho cap cs hi.2 h3⟩
theorem RdL.unren{ρ:Nat->Nat}{K:List Nat}{κ κ₂:Ka}{w:World}(r:Ren ρ K κ κ₂)(ho:∀b,b<w.heap.size->¬Own κ b->¬Own κ₂ b):∀(l:List SV) (vs:List Value),B7 K l=true->RdL κ w (Lc ρ l) vs->RdL κ₂ w l vs
 |[],_,_,h=>by simpa [RdL,Lc] using h
 |x::l,vs,hi,h=>by
  simp only[RdL,Lc,B7,zG]at h hi|-;obtain ⟨v,q,h1,h2,h3⟩:=h;exact⟨v,q,h1,Rd.unren r ho x v hi.1 h2,RdL.unren r ho l q hi.2 h3⟩
end
mutual
theorem Rd.ren{m:Nat->Nat}{K:List Nat}{a a₂:Ka}{w:World}(r:Ren m K a a₂)(ho:∀b,b<w.heap.size->¬Own a₂ b->¬Own a b):∀(x:SV) (v:Value),x.inn K=true->Rd a₂ w x v->Rd a w (x.ren m) v
 | .top,_,_,_=>by simp[Rd,SV.ren]
 | .val u,v,_,h=>by simpa [Rd,SV.ren] using h
 | .agg l,v,hi,h=>by
  simp only[Rd,SV.ren,SV.inn]at h hi|-;obtain ⟨cs,h1,h0,h2⟩:=h;exact⟨cs,h1,h0,RdL.ren r ho l cs hi h2⟩
 | .tup l,v,hi,h=>by
  simp only[Rd,SV.ren,SV.inn]at h hi|-;obtain ⟨cs,h1,h2⟩:=h;exact⟨cs,h1,RdL.ren r ho l cs hi h2⟩
 | .sl sz e l,v,_,h=>by
  simp only[Rd,SV.ren]at h|-;exact RdD.keep ⟨yG _,λ_ _ _=>rfl,ho⟩ _ _ h
 | .ref sz x off,v,_,h=>by
  simp only[Rd,SV.ren]at h|-;exact RdD.keep ⟨yG _,λ_ _ _=>rfl,ho⟩ _ _ h
 | .ptr k off,v,hi,h=>by
  simp only[Rd,SV.ren,SV.inn]at h hi|-;rw[<-r.ent k (memN_iff.1 hi)];exact h
 | .rpt k sz i off,v,hi,h=>by
  simp only[Rd,SV.ren,SV.inn]at h hi|-;rw[<-r.ent k (memN_iff.1 hi)];exact h
 | .osl k,v,hi,h=>by
  simp only[Rd,SV.ren,SV.inn]at h hi|-;rw[<-r.ent k (memN_iff.1 hi)];exact h
 | .ifc t x,v,hi,h=>by
  simp only[Rd,SV.ren,SV.inn]at h hi|-;obtain ⟨u,h1,h2⟩:=h;exact⟨u,h1,Rd.ren r ho x u hi h2⟩
 | .clo fn first cap,v,hi,h=>by
  simp only[Rd,SV.ren,SV.inn,zG]at h hi|-;obtain ⟨fs,cs,h1,h2,h3⟩:=h;exact⟨fs,cs,h1,RdL.ren r ho first fs hi.1 h2,RdL.ren r ho cap cs hi.2 h3⟩
theorem RdL.ren{a:Nat->Nat}{K:List Nat}{k k₂:Ka}{w:World}(r:Ren a K k k₂)(ho:∀b,b<w.heap.size->¬Own k₂ b->¬Own k b):∀(l:List SV) (vs:List Value),B7 K l=true->RdL k₂ w l vs->RdL k w (Lc a l) vs
 |[],_,_,h=>by simpa [RdL,Lc] using h
 |x::l,vs,hi,h=>by
  simp only[RdL,Lc,B7,zG]at h hi|-;obtain ⟨v,q,h1,h2,h3⟩:=h;exact⟨v,q,h1,Rd.ren r ho x v hi.1 h2,RdL.ren r ho l q hi.2 h3⟩
end
theorem RowAt.own{a a₂:Ka}{w:World}{k k₂ sz n:Nat}{f:Nat->SV->Prop}(h:RowAt a w k sz n f)(he:a₂ k₂=a k)(ho:∀b,b<w.heap.size->¬Own a b->¬Own a₂ b):RowAt a₂ w k₂ sz n f:=by
 obtain ⟨b,cap,cs,T,fr,h1,h2,h3,h4,h5,h6⟩:=h;refine⟨b,cap,cs,T,fr,he.trans h1,h2,h3,h4,h5,λi x hi=>?_⟩;obtain ⟨h0,u,h7,h8⟩:=h6 i x hi;exact⟨h0,u,RdD.keep ⟨yG _,λ_ _ _=>rfl,ho⟩ _ _ h7,h8⟩
theorem ObOK.unren{ρ:Nat->Nat}{K:List Nat}{κ κ₂:Ka}{w:World}(r:Ren ρ K κ κ₂)(ho:∀b,b<w.heap.size->¬Own κ b->¬Own κ₂ b){k:Nat}(hk:k∈K):∀{o:Ob},o.inn K=true->ObOK κ w (ρ k) (o.ren ρ)->ObOK κ₂ w k o
 | .fresh,_,h=>(r.ent k hk).trans h
 | .non,_,_=>trivial
 | .box l,hi,h=>by
  obtain ⟨b,cs,T,fr,h1,h2,h3,h4,h5⟩:=h;exact⟨b,cs,T,fr,(r.ent k hk).trans h1,h2,h3,h4,RdL.unren r ho l cs hi h5⟩
 | .tbox T l,hi,h=>by
  obtain ⟨b,cs,fr,h1,h2,h3,h4,h5⟩:=h;exact⟨b,cs,fr,(r.ent k hk).trans h1,h2,h3,h4,RdL.unren r ho l cs hi h5⟩
 | .trow T l,_,h=>h.imp (λh=>⟨(r.ent k hk).trans h.1,h.2⟩) (λ⟨h0,b,cap,cs,fr,h1,h2⟩=>⟨h0,b,cap,cs,fr,(r.ent k hk).trans h1,h2⟩)
 | .row sz e l,_,h=>h.imp (λh=>⟨(r.ent k hk).trans h.1,h.2⟩) (λh=>h.own (r.ent k hk) ho)
 | .lit sz l,_,h=>RowAt.own h (r.ent k hk) ho
 | .pin b n cap sz e l,_,h=>⟨(r.ent k hk).trans h.1,RowAt.own h.2 (r.ent k hk) ho⟩
 | .glob sz x g,_,h=>by
  simp only[Ob.ren,ObOK,Rd]at h|-;exact RdD.keep ⟨yG _,λ_ _ _=>rfl,ho⟩ _ _ h
 | .dat v sz e l,_,h=>by
  simp only[Ob.ren,ObOK,Rd]at h|-;exact RdD.keep ⟨yG _,λ_ _ _=>rfl,ho⟩ _ _ h
 | .rown sz e l i cl,hi,h=>by
  obtain ⟨b,cap,cs,T,fr,h1,h2,h3,h4,h5,h6,h7,us,u1,u2,u3,u4⟩:=h;refine⟨b,cap,cs,T,fr,(r.ent k hk).trans h1,h2,h3,h4,h5,λj x hj hx=>?_,h7,us,u1,u2,RdL.unren r ho cl us hi u3,u4⟩;obtain ⟨g0,u,g7,g8⟩:=h6 j x hj hx;exact⟨g0,u,RdD.keep ⟨yG _,λ_ _ _=>rfl,ho⟩ _ _ g7,g8⟩
theorem ObOK.ren{m:Nat->Nat}{K:List Nat}{a a₂:Ka}{w:World}(r:Ren m K a a₂)(ho:∀b,b<w.heap.size->¬Own a₂ b->¬Own a b){k:Nat}(hk:k∈K):∀{o:Ob},o.inn K=true->ObOK a₂ w k o->ObOK a w (m k) (o.ren m)
 | .fresh,_,h=>(r.ent k hk).symm.trans h
 | .non,_,_=>trivial
 | .box l,hi,h=>by
  obtain ⟨b,cs,T,fr,h1,h2,h3,h4,h5⟩:=h;exact⟨b,cs,T,fr,(r.ent k hk).symm.trans h1,h2,h3,h4,RdL.ren r ho l cs hi h5⟩
 | .tbox T l,hi,h=>by
  obtain ⟨b,cs,fr,h1,h2,h3,h4,h5⟩:=h;exact⟨b,cs,fr,(r.ent k hk).symm.trans h1,h2,h3,h4,RdL.ren r ho l cs hi h5⟩
 | .trow T l,_,h=>h.imp (λh=>⟨(r.ent k hk).symm.trans h.1,h.2⟩) (λ⟨h0,b,cap,cs,fr,h1,h2⟩=>⟨h0,b,cap,cs,fr,(r.ent k hk).symm.trans h1,h2⟩)
 | .row sz e l,_,h=>h.imp (λh=>⟨(r.ent k hk).symm.trans h.1,h.2⟩) (λh=>h.own (r.ent k hk).symm ho)
 | .lit sz l,_,h=>RowAt.own h (r.ent k hk).symm ho
 | .pin b n cap sz e l,_,h=>⟨(r.ent k hk).symm.trans h.1,RowAt.own h.2 (r.ent k hk).symm ho⟩
 | .glob sz x g,_,h=>by
  simp only[Ob.ren,ObOK,Rd]at h|-;exact RdD.keep ⟨yG _,λ_ _ _=>rfl,ho⟩ _ _ h
 | .dat v sz e l,_,h=>by
  simp only[Ob.ren,ObOK,Rd]at h|-;exact RdD.keep ⟨yG _,λ_ _ _=>rfl,ho⟩ _ _ h
 | .rown sz e l i cl,hi,h=>by
  obtain ⟨b,cap,cs,T,fr,h1,h2,h3,h4,h5,h6,h7,us,u1,u2,u3,u4⟩:=h;refine⟨b,cap,cs,T,fr,((r.ent k hk).symm).trans h1,h2,h3,h4,h5,λj x hj hx=>?_,h7,us,u1,u2,RdL.ren r ho cl us hi u3,u4⟩;obtain ⟨g0,u,g7,g8⟩:=h6 j x hj hx;exact⟨g0,u,RdD.keep ⟨yG _,λ_ _ _=>rfl,ho⟩ _ _ g7,g8⟩
abbrev Obs:=List (Nat×Ob)
def Obs.keys(H:Obs):List Nat:=H.map (·.1)
def Obs.ok(k:Ka)(w:World)(H:Obs):Prop:=∀p∈H,ObOK k w p.1 p.2
def Spec(P:Program)(f:FuncId)(A:List SV)(H:Obs)(R:SV)(H':Obs):Prop :=
 ∀(a:Ka) (w:World) (vs:List Value),Inv a w->(∀k,a k≠.new->k∈H.keys)->RdL a w A vs->H.ok a w ->
  Calls P f vs.toArray w λe w'=>∃v a',e=.returned v/\Ctx ⟨w,a,[]⟩ a' w'/\Inv a' w'/\Rd a' w' R v/\H'.ok a' w'
inductive KI
 |code (c:Code)
 |ops (all:Array Oper) (rest:List Oper)
 |blk (id:Nat)
 |inv (I:Act->World->Prop)
 |scp
def den(P:Program)(B:Exit->Act->World->Prop):List KI->Exit->Act->World->Prop
 |[]=>B
 | .code c::k=>Exit.then (c.wp P (den P B k)) (den P B k)
 | .ops all rest::k=>Exit.then (wpList P all (den P B k) rest) (den P B k)
 | .blk id::k=>Exit.inBlock id (den P B k)
 | .inv I::k=>Exit.then I (den P B k)
 | .scp::k=>Exit.noGoto (den P B k)
structure Cx where
 P:Program
 Γ:Ty P
 F:Fr
 n:Nat
 B:Exit->Act->World->Prop
 bn:List Nat
 hbn:∀k,F.k0 k≠.new->k∈bn
def G(C:Cx)(k:List KI)(s:SS):Prop:=∀b a w,St C.F C.n s b a w->den C.P C.B k .normal a w
theorem St.ev{F:Fr}{n:Nat}{s:SS}{k:Ka}{a:Act}{w:World}(h:St F n s k a w)(x:Operand):Rd k w (ev s x) (a.eval x):=by
 cases x with
 |tmp t=>exact h.slot t
 |const v=>simp[Sy.ev,Act.eval,Rd]
 |global g=>simp[Sy.ev,Act.eval,Rd]
 |func f=>simp only[Sy.ev,Act.eval,Rd];exact⟨[],[],rfl,by simp[RdL],by simp[RdL]⟩
def Uq(h:Nat->Ob):List (Nat×Ob)->Nat->Ob
 |[]=>h
 |(k,o)::r=>Uq (upd h k o) r
def SS.upd(s:SS)(dst:Option Nat)(U:Up):SS:=⟨match dst with|some d=>Sy.upd s.σ d U.v|none=>s.σ,Uq s.h U.objs⟩
def nA{h:Nat->Ob}:∀{l:List (Nat×Ob)} {k:Nat},k∉l.map (·.1)->Uq h l k=h k
 |[],k,_=>rfl
 |(j,o)::r,k,hk=>by
  simp only[xZ,yH,vW]at hk;rw[Uq,nA hk.2,Cv _ _ hk.1]
def Afo{a:Ka}{w:World}:∀(l:List (Nat×Ob)) (h:Nat->Ob) (k:Nat),(∀p∈l,ObOK a w p.1 p.2)->(k∉l.map (·.1)->ObOK a w k (h k))->ObOK a w k (Uq h l k)
 |[],h,k,_,h2=>h2 qq
 |(j,o)::r,h,k,h1,h2=>by
  refine Afo r (Sy.upd h j o) k (λp hp=>h1 p (by simp[hp])) (λhk=>?_);by_cases hj:k=j
  .subst hj;rw[B1];exact h1 (k,o) qq
  .rw[Cv _ _ hj];exact h2 (by simp[hj];simpa using hk)
theorem St.put{F:Fr}{n:Nat}{s:SS}{b b':Ka}{a:Act}{w w':World}(h:St F n s b a w){dst:Option Nat}{U:Up}{v:Value}(hd:∀d,dst=some d->d<n)(st:Step (·∈U.ws) b w b' w')(hi:Inv b' w')(hv:Rd b' w' U.v v)(ho:∀x∈U.objs,ObOK b' w' x.1 x.2):St F n (s.upd dst U) b' (a.put dst v) w' where
 defers:=by cases dst<;>exact h.defers
 size:=by cases dst<;>simp[Act.put,h.size]
 inv:=hi
 ctx:=h.ctx.step hi st
 slot i:=by
  cases dst with
  |none=>exact Rd.step st _ _ (h.slot i)
  |some d=>
   have ab:=hd d rfl;by_cases hi':i=d
   .subst hi';simp only[SS.upd,B1,Act.put];have hs:i<a.tmps.size:=by rw[h.size];exact ab
    simpa [hs] using hv
   .simp only[SS.upd,Cv _ _ hi',Act.put];have:(a.tmps.setIfInBounds d v).getD i undef=a.tmps.getD i undef:=by
     simp[Array.getElem?_setIfInBounds_ne (Ne.symm hi')]
    rw[this];exact Rd.step st _ _ (h.slot i)
 obj k:=Afo _ _ _ ho (λhk=>ObOK.step st hk _ (h.obj k))
variable {C:Cx} {k:List KI} {s:SS}
theorem G_seq{x y:Code}(h:G C (.code x::.code y::k) s):G C (.code (.seq x y)::k) s:=λb a w hs=>wp_seq (h b a w hs)
theorem G_skip(h:G C k s):G C (.code .skip::k) s:=λb a w hs=>wp_skip (h b a w hs)
theorem A21{id:Nat}{c:Code}(h:G C (.code c::.blk id::k) s):G C (.code (.block id c)::k) s:=λb a w hs=>wp_block (h b a w hs)
theorem G_blk{id:Nat}(h:G C k s):G C (.blk id::k) s:=λb a w hs=>h b a w hs
theorem A2y{c:Code}(h:G C (.code c::.scp::k) s):G C (.code (.scope c)::k) s:=λb a w hs=>wp_scope_straight (h b a w hs)
theorem G_scp(h:G C k s):G C (.scp::k) s:=λb a w hs=>h b a w hs
theorem A2z{l:Nat}(h:G C k s):G C (.code (.label l)::k) s:=λb a w hs=>wp_label (h b a w hs)
theorem G_nil(h:∀k a w,St C.F C.n s k a w->C.B .normal a w):G C [] s:=λk a w hs=>h k a w hs
theorem G_cond{c:Operand}{x y:Code}{b:Bool}(hc:ev s c=.val (.bool b))(ht:b=true->G C (.code x::k) s)(hf:b=false->G C (.code y::k) s):G C (.code (.cond c x y)::k) s:=λr a w hs=>by
 have h:=hs.ev c;rw[hc]at h;exact wp_cond_split h.val (λhb=>ht hb r a w hs) (λhb=>hf hb r a w hs)
def X9(id:Nat):List KI->Option (List KI)
 |[]=>none
 | .blk i::k=>bif Nat.beq i id then some k else X9 id k
 | .code _::k=>X9 id k
 | .ops _ _::k=>X9 id k
 | .inv _::k=>X9 id k
 | .scp::k=>X9 id k
theorem Su{P:Program}{B:Exit->Act->World->Prop}{id:Nat}{a:Act}{w:World}:∀{k k':List KI},X9 id k=some k'->den P B k' .normal a w->den P B k (.exit id) a w
 |[],k',h,_=>by simp[X9]at h
 | .blk i::k,k',h,hd=>by
  simp only[X9,uG]at h;split at h
  .rename_i hb;have:=yK hb;subst this;simp only[Option.some.injEq]at h;subst h;simp only[den,Exit.inBlock,if_true];exact hd
  .rename_i hb;have ag:id≠i:=λe=>hb (by subst e;simp)
   simp only[den,Exit.inBlock,zD ag];exact Su h hd
 | .code _::k,k',h,hd=>Su (k:=k) h hd
 | .ops _ _::k,k',h,hd=>Su (k:=k) h hd
 | .inv _::k,k',h,hd=>Su (k:=k) h hd
 | .scp::k,k',h,hd=>Su (k:=k) h hd
theorem G_exit{id:Nat}{k':List KI}(h:X9 id k=some k')(hg:G C k' s):G C (.code (.exit id)::k) s:=λb a w hs=>wp_exit (Su h (hg b a w hs))
theorem W6{P:Program}{B:Exit->Act->World->Prop}{a:Act}{w:World}:∀{k:List KI},B .ret a w->den P B k .ret a w
 |[],h=>h
 | .blk _::k,h=>W6 (k:=k) h
 | .code _::k,h=>W6 (k:=k) h
 | .ops _ _::k,h=>W6 (k:=k) h
 | .inv _::k,h=>W6 (k:=k) h
 | .scp::k,h=>W6 (k:=k) h
theorem A3b(h:∀b a w,St C.F C.n s b a w->C.B .ret a w):G C (.code .ret::k) s:=λb a w hs=>wp_ret (W6 (h b a w hs))
theorem A0r{id:Nat}{ops:Array Oper}(h:G C (.ops ops ops.toList::k) s):G C (.code (.region id ops false)::k) s:=λb a w hs=>wp_region_list (h b a w hs)
theorem Avk{all:Array Oper}(h:G C k s):G C (.ops all []::k) s:=λb a w hs=>wpList_nil (P:=C.P) (ops:=all) (h b a w hs)
def Zf(all:Array Oper)(s:SS)(g:Option (Nat×Bool))(b:Bool):Prop :=
 match g with
 |none=>b=true
 |some (j,want)=>∃d,((all[j]?).bind (·.dst))=some d/\((∃c,s.σ d=.val (.bool c)/\b=(c==want))\/(s.σ d=.val undef/\b=false))
theorem Wl{F:Fr}{n:Nat}{k:Ka}{a:Act}{w:World}(h:St F n s k a w){all:Array Oper}{o:Oper}{b:Bool}(hd:∀j want,o.guard=some (j,want)->∀d,((all[j]?).bind (·.dst))=some d->d<n)(hw:Zf all s o.guard b):Region.wanted o (yielded all a.tmps)=b:=by
 unfold Zf at hw;unfold Region.wanted;cases hg:o.guard with
 |none=>rw[hg]at hw;simp[hw]
 |some p=>
  obtain ⟨j,want⟩:=p;rw[hg]at hw;obtain ⟨d,h1,h2⟩:=hw;have ab:=hd j want hg d h1;have m4:=h.slot d;have a8:a.tmps[d]? = some (a.tmps.getD d undef):=by simp[h.size,ab]
  simp only[yielded,h1,Option.bind_some,a8];rcases h2 with ⟨c,h3,rfl⟩|⟨h3,rfl⟩
  .rw[h3]at m4;rw[m4.val];rfl
  .rw[h3]at m4;rw[m4.val];rfl
theorem G_op{all:Array Oper}{o:Oper}{rest:List Oper}{U:Up}(hg:Good C.P o s U)(hw:∀b a w,St C.F C.n s b a w->Region.wanted o (yielded all a.tmps)=true)(hd:∀d,o.dst=some d->d<C.n)(h:G C (.ops all rest::k) (s.upd o.dst U)):G C (.ops all (o::rest)::k) s:=λb a w hs=>
 wpList_step λK hK=>by
  rw[zE (hw b a w hs)];exact hg b a w hs.inv (λx _=>hs.ev x) (λj _=>hs.obj j) K _ (λv b' w' st hi hv ho=>hK _ _ (h b' _ w' (hs.put hd st hi hv ho)))
theorem Avl{all:Array Oper}{o:Oper}{rest:List Oper}(hw:∀b a w,St C.F C.n s b a w->Region.wanted o (yielded all a.tmps)=false)(hd:∀d,o.dst=some d->d<C.n)(h:G C (.ops all rest::k) (s.upd o.dst ⟨.val undef,[],[]⟩)):G C (.ops all (o::rest)::k) s:=λb a w hs=>
 wpList_step λK hK=>by
  rw[zD (by rw[hw b a w hs];simp)];exact hK _ _ (h b _ w (hs.put (U:=⟨.val undef,[],[]⟩) hd (Step.refl _ b w) hs.inv (by simp[Rd]) (λp hp=>by cases hp)))
def Bf:List (Nat×Nat)->Nat->Nat
 |[],k=>k
 |(a,b)::r,k=>bif Nat.beq a k then b else Bf r k
def mkσ:List (Nat×SV)->Nat->SV
 |[],_=>.top
 |(i,x)::r,j=>bif Nat.beq i j then x else mkσ r j
def mkh:List (Nat×Ob)->Nat->Ob
 |[],_=>.fresh
 |(i,x)::r,j=>bif Nat.beq i j then x else mkh r j
def mkS(L:List (Nat×SV))(O:Obs):SS:=⟨mkσ L,mkh O⟩
def Ap9(k:List (Nat×Nat))(K:List Nat)(s:SS):List (Nat×SV)->Prop
 |[]=>True
 |(i,x)::r=>x.ren (Bf k)=s.σ i/\x.inn K=true/\Ap9 k K s r
def Avj(k:List (Nat×Nat))(K:List Nat)(s:SS):Obs->Prop
 |[]=>True
 |(i,x)::r=>(x.ren (Bf k)=s.h (Bf k i)\/x=.non)/\x.inn K=true/\Avj k K s r
def Xs(a:List (Nat×Nat))(bn:List Nat):List Nat->Bool
 |[]=>bn.all λk=>Nat.beq (Bf a k) k
 |k::r=>(r.all λj=>Nat.beq j k||!(Nat.beq (Bf a j) (Bf a k)))&&Xs a bn r
theorem Wp{a:List (Nat×Nat)}{bn:List Nat}:∀{K:List Nat},Xs a bn K=true->(∀i∈K,∀j∈K,Bf a i=Bf a j->i=j)/\∀k∈bn,Bf a k=k
 | [],h=>⟨by simp,λ k hk=>by
   simp only[Xs,yU]at h;exact yK (h k hk)⟩
 |k::r,h=>by
  simp only[Xs,zG,yU,yQ,xB]at h;obtain ⟨h1,h2⟩:=h;obtain ⟨h3,h4⟩:=Wp h2;refine⟨λi hi j hj e=>?_,h4⟩;simp only[yH]at hi hj;rcases hi with rfl|hi<;>rcases hj with rfl|hj
  .rfl
  .rcases h1 j hj with h|h
   .exact(yK h).symm
   .rw[e]at h;simp at h
  .rcases h1 i hi with h|h
   .exact yK h
   .rw[e]at h;simp at h
  .exact h3 i hi j hj e
def Zy(a:Ka)(b:Nat->Nat)(K:List Nat):Ka:=⟨λk=>bif Se K k then a (b k) else .new,a.M⟩
theorem Zx{a:Ka}{b:Nat->Nat}{K:List Nat}{k:Nat}(h:k∈K):Zy a b K k=a (b k):=by simp[Zy,memN_iff.2 h]
theorem Aiv{a:Ka}{b:Nat->Nat}{K:List Nat}{k:Nat}(h:k∉K):Zy a b K k=.new:=by
 have:Se K k=false:=by
  cases hm:Se K k with
  |false=>rfl
  |true=>exact zX (memN_iff.1 hm) h
 simp[Zy,this]
theorem Ld{a:Ka}{r:Nat->Nat}{K:List Nat}{k b:Nat}(h:(Zy a r K k).block? = some b):k∈K/\(a (r k)).block? = some b:=by
 by_cases hk:k∈K
 .rw[Zx hk]at h;exact⟨hk,h⟩
 .rw[Aiv hk]at h;cases h
theorem Zw{a:Ka}{r:Nat->Nat}{K:List Nat}(b:Nat)(h:¬Own a b):¬Own (Zy a r K) b:=by
 rintro (⟨k,hk⟩|hk)
 .exact h (.inl ⟨_,(Ld hk).2⟩)
 .exact h (.inr hk)
theorem Aw0{a:Ka}{w:World}{r:Nat->Nat}{K:List Nat}(hi:Inv a w)(gw:∀i∈K,∀j∈K,r i=r j->i=j):Inv (Zy a r K) w :=
 ⟨λ i j b h1 h2=>by
   obtain ⟨a1,a2⟩:=Ld h1;obtain ⟨b1,b2⟩:=Ld h2;exact gw i a1 j b1 (hi.inj _ _ b a2 b2),
  λ k b h=>hi.bnd _ b (Ld h).2,λ k b h=>hi.apart _ b (Ld h).2,hi.mbnd⟩
theorem Aw1{F:Fr}{a:Ka}{w:World}{r:Nat->Nat}{K bn:List Nat}(c:Ctx F a w)(hbn:∀k,F.k0 k≠.new->k∈bn)(hK:∀k∈bn,k∈K/\r k=k):Ctx F (Zy a r K) w :=
 ⟨c.size,c.os,c.tape,c.output,c.M,c.old,λ k b h=>c.own _ b (Ld h).2,λ k hk=>by
  obtain ⟨h1,h2⟩:=hK k (hbn k hk);rw[Zx h1,h2];exact c.nam k hk⟩
def Afu(bn K:List Nat):Bool:=bn.all (Se K)
structure Sub(C:Cx)(s:SS)(ρ:List (Nat×Nat))(L:List (Nat×SV))(O:Obs):Prop where
 slots:Ap9 ρ O.keys s L
 objs:Avj ρ O.keys s O
 names:Xs ρ C.bn O.keys=true/\Afu C.bn O.keys=true
theorem Sub.st{s:SS}{c:List (Nat×Nat)}{L:List (Nat×SV)}{O:Obs}(h:Sub C s c L O){m:Ka}{a:Act}{w:World}(hs:St C.F C.n s m a w):St C.F C.n (mkS L O) (Zy m (Bf c) O.keys) a w:=by
 obtain ⟨gw,hbn⟩:=Wp h.names.1;have a6:∀k∈C.bn,k∈O.keys:=λk hk=>by
  have:=h.names.2;simp only[Afu,yU]at this;exact memN_iff.1 (this k hk)
 have kt:Ren (Bf c) O.keys m (Zy m (Bf c) O.keys):=⟨λk hk=>Zx hk⟩
 refine⟨hs.defers,hs.size,Aw0 hs.inv gw,Aw1 hs.ctx C.hbn (λk hk=>⟨a6 k hk,hbn k hk⟩),?_,?_⟩
 .intro i;have h1:=h.slots;revert h1;simp only[mkS];generalize hL:L=L';clear hL
  induction L' with
  |nil=>intro _;simp[mkσ,Rd]
  |cons p r ih=>
   obtain ⟨j,x⟩:=p;intro h1;simp only[Ap9]at h1;simp only[mkσ,uG];split
   .rename_i hb;have:=yK hb;subst this;have h2:=hs.slot j;rw[<-h1.1]at h2;exact Rd.unren kt (λb _=>Zw b) _ _ h1.2.1 h2
   .exact ih h1.2.2
 .intro i;have h1:=h.objs;have hK:∀p∈O,p.1∈O.keys:=λp hp=>yS.2 ⟨p,hp,rfl⟩
  have key:∀O':Obs,(∀p∈O',p.1∈O.keys)->Avj c O.keys s O'->(i∈O'.map (·.1)->ObOK (Zy m (Bf c) O.keys) w i (mkh O' i))/\(i∉O'.map (·.1)->mkh O' i=.fresh):=by
   intro O'
   induction O' with
   |nil=>intro _ _;exact⟨by simp,λ_=>rfl⟩
   |cons p r ih=>
    obtain ⟨j,x⟩:=p;intro hk h1;simp only[Avj]at h1;obtain ⟨h2,h3⟩:=ih (λp hp=>hk p (by simp[hp])) h1.2.2;simp only[mkh,uG,xZ,yH,vW];constructor
    .intro hm;split
     .rename_i hb;have:=yK hb;subst this;rcases h1.1 with h4|h4
      .have h5:=hs.obj (Bf c j);rw[<-h4]at h5;exact ObOK.unren kt (λb _=>Zw b) (hk (j,x) qq) h1.2.1 h5
      .rw[h4];trivial
     .rename_i hb;exact h2 (hm.resolve_left (λe=>hb (by subst e;simp)))
    .rintro ⟨bf,bw⟩;rw[zD (λhb=>bf (yK hb).symm)];exact h3 bw
  obtain ⟨h2,h3⟩:=key O hK h1;by_cases hi:i∈O.map (·.1)
  .exact h2 hi
  .simp only[mkS];rw[h3 hi];exact Aiv hi
theorem Wj{body:Code}{α:Type}(L:α->List (Nat×SV))(O:α->Obs)(d:α->Nat)(x₀:α)(r:List (Nat×Nat))(a6:Sub C s r (L x₀) (O x₀))(h:∀x,G C (.code body::.inv (λa w=>∃x' b,d x'<d x/\St C.F C.n (mkS (L x') (O x')) b a w)::k) (mkS (L x) (O x))):G C (.code (.loop body)::k) s:=λb a w hs=>by
 refine wp_loop_ghost (λm a w=>∃x b,d x=m/\St C.F C.n (mkS (L x) (O x)) b a w) (d x₀) ⟨x₀,_,E,a6.st hs⟩ ?_;rintro m a' w' ⟨x,b',rfl,xb⟩;refine wp_mono (h x b' a' w' xb) ?_;intro e a'' yk hq;cases e with
 |normal=>
  obtain ⟨x',b'',h1,h2⟩:=hq;exact⟨d x',h1,x',b'',E,h2⟩
 |exit id=>exact hq
 |goto l=>exact hq
 |ret=>exact hq
 |panic c=>exact hq
 |outgrown=>exact hq
theorem Ye{α:Type}{L:α->List (Nat×SV)}{O:α->Obs}{μ:α->Nat}{x:α}(x':α)(r:List (Nat×Nat))(hμ:μ x'<μ x)(a6:Sub C s r (L x') (O x')):G C (.inv (λa w=>∃x' b,μ x'<μ x/\St C.F C.n (mkS (L x') (O x')) b a w)::k) s:=λ_ _ _ hs=>⟨x',_,hμ,a6.st hs⟩
end Go.Sy
