/- Parts of a proof. -/
import Derived.Test.YticmobkdaneelaaGreatDoorYE4
set_option linter.all false
set_option linter.unusedVariables false
set_option linter.unusedSimpArgs false
set_option linter.deprecated false
namespace Go.Sy
def A2u{P:Program}{o:Oper}{s:SS}{op:BinOp}{t yt:TypeId}{x y:Operand}{k:IntKind}{m n:Int}{K:Up→Prop}{stop:Prop}(h:o.op=.binOp op t x y yt)(hx:ev s x=.val (.int k m))(hy:ev s y=.val (.int k n))(hw:A2v op k m n (λv=>K ⟨v,[],[]⟩) stop):(∃U,Good P o s U∧K U)∨stop:=by
 have mk:∀u:Value,(∀w,(binOp op t (.int k m) (.int k n)).run P w=.ok u w)→K ⟨.val u,[],[]⟩→(∃U,Good P o s U∧K U)∨stop:=λu hu hk=>.inl ⟨_,A3d h hx hy hu,hk⟩
 unfold A2v at hw;split at hw
 ·split at hw
  ·exact mk _ (λw=>by simp[binOp_add,Op.intArith,hw.1.wrap]) hw.2
  ·exact mk _ (λw=>by simp[binOp_add,Op.intArith]) hw
 ·split at hw
  ·exact mk _ (λw=>by simp[binOp_sub,Op.intArith,hw.1.wrap]) hw.2
  ·exact mk _ (λw=>by simp[binOp_sub,Op.intArith]) hw
 ·split at hw
  ·exact mk _ (λw=>by simp[binOp_mul,Op.intArith,hw.1.wrap]) hw.2
  ·exact mk _ (λw=>by simp[binOp_mul,Op.intArith]) hw
 ·exact mk _ (λw=>by simp[binOp_quo,Op.intDiv,hw.1]) hw.2
 ·exact mk _ (λw=>by simp[binOp_rem,Op.intDiv,hw.1]) hw.2
 ·exact mk _ (λw=>by simp[binOp_and,intBits_and]) hw
 ·exact mk _ (λw=>by simp[binOp_or,intBits_or]) hw
 ·exact mk _ (λw=>by simp[binOp_xor,intBits_xor]) hw
 ·exact mk _ (λw=>by simp[binOp_andNot,intBits_andNot]) hw
 ·exact mk _ (λw=>by simp[binOp_lss]) hw
 ·exact mk _ (λw=>by simp[binOp_leq]) hw
 ·exact mk _ (λw=>by simp[binOp_gtr]) hw
 ·exact mk _ (λw=>by simp[binOp_geq]) hw
 ·exact mk _ (λw=>by simp[binOp_eql]) hw
 ·exact mk _ (λw=>by simp[binOp_neq]) hw
 ·exact .inr hw
def Af0{P:Program}{o:Oper}{s:SS}{op:BinOp}{t yt:TypeId}{x y:Operand}{k k':IntKind}{m n:Int}{u:Value}(h:o.op=.binOp op t x y yt)(hx:ev s x=.val (.int k m))(hy:ev s y=.val (.int k' n))(hr:∀w,(binOp op t (.int k m) (.int k' n)).run P w=.ok u w):Good P o s ⟨.val u,[],[]⟩ :=
 Good.pure λκ a w _ ie _=>by
  have h1:=ie x (by simp[h,Op.operands]);have h2:=ie y (by simp[h,Op.operands]);rw[hx]at h1;rw[hy]at h2;refine⟨u,?_,by simp[Rd]⟩;simp[execOp,h,h1.val,h2.val,eqGuard_at_int,hr]
def Arv{P:Program}{o:Oper}{s:SS}{op:BinOp}{t yt:TypeId}{x y:Operand}{k k':IntKind}{m n:Int}{K:Up→Prop}{stop:Prop}(h:o.op=.binOp op t x y yt)(hx:ev s x=.val (.int k m))(hy:ev s y=.val (.int k' n))(hw:Akm op k m n (λv=>K ⟨v,[],[]⟩) stop):(∃U,Good P o s U∧K U)∨stop:=by
 unfold Akm at hw;split at hw
 ·have hn:¬n<0:=by omega
  exact .inl ⟨_,Af0 (u:=.int k (k.wrap (m*2^(min n.toNat k.bits)))) h hx hy (λw=>by simp[binOp_shl,Op.shift,hn]),hw.2⟩
 ·have hn:¬n<0:=by omega
  exact .inl ⟨_,Af0 (u:=.int k (m.fdiv (2^(min n.toNat k.bits)))) h hx hy (λw=>by simp[binOp_shr,Op.shift,hn]),hw.2⟩
 ·exact .inr hw
def A0j{P:Program}{o:Oper}{s:SS}{op:BinOp}{t yt:TypeId}{x y:Operand}{m n:ByteArray}{K:Up→Prop}{stop:Prop}(h:o.op=.binOp op t x y yt)(hx:ev s x=.val (.string m))(hy:ev s y=.val (.string n))(hw:A0k op m n (λv=>K ⟨v,[],[]⟩) stop):(∃U,Good P o s U∧K U)∨stop:=by
 unfold A0k at hw;split at hw
 ·have hn:¬(9223372036854775807<((m.size+n.size:Nat):Int)):=by omega
  refine .inl ⟨_,Lt (u:=.string (m++n)) h y_ hx hy (λw=>?_),hw.2⟩;simp only[Op.stringOp,IntKind.max_i64];rw[zD hn];rfl
 ·exact .inl ⟨_,Lt (u:=.bool (m==n)) h y_ hx hy (λw=>by simp[Op.stringOp,beq_toListBytes]),hw⟩
 ·exact .inl ⟨_,Lt (u:=.bool (!(m==n))) h y_ hx hy (λw=>by simp[Op.stringOp,beq_toListBytes]),hw⟩
 ·exact .inl ⟨_,Lt (u:=.bool (Op.bytesLess m.toList n.toList)) h y_ hx hy (λw=>by simp[Op.stringOp]),hw⟩
 ·exact .inl ⟨_,Lt (u:=.bool (!(Op.bytesLess m.toList n.toList||m==n))) h y_ hx hy (λw=>by simp[Op.stringOp,beq_toListBytes]),hw⟩
 ·exact .inr hw
def Vm{P:Program}(Γ:Ty P){t:TypeId}{ti:TI}{e:TypeId}{len esz:Nat}(ht:Γ.get t=some ti)(hk:ti.k=.array e len esz):P.underlying t=some (.array len e)∧∃i,P.info? e=some i∧i.size=esz:=by
 obtain ⟨d,info,z,k1,k2,k3,k4,k5,k6⟩:=Γ.ok t ti ht;rw[hk]at k2;simp only[TK.ok]at k2;obtain ⟨rfl,k2⟩:=k2;exact⟨k1,k2⟩
def Sg{P:Program}{t et:TypeId}{len esz:Nat}{i:TypeInfo}{ik:IntKind}{n:Int}{b o:Nat}(w:World)(hu:P.underlying t=some (.array len et))(hq:P.info? et=some i)(hi:i.size=esz)(h0:0≤n)(hn:n.toNat<len):(Instr.indexAt t (.pointer (some ⟨b,o,none⟩)) (.int ik n)).run P w=.ok (.pointer (some ⟨b,o+n.toNat*esz,none⟩)) w:=by
 have ab:n<len:=by omega
 simp[Instr.indexAt,asIntOf,run_underlying hu,Instr.sureAddr,h0,ab,sizeOf,typeInfo,hq,hi,Addr.add_lit]
def I8{P:Program}(Γ:Ty P){o:Oper}{s:SS}{t:TypeId}{ti:TI}{et:TypeId}{len esz k off:Nat}{x y:Operand}{ik:IntKind}{n:Int}{l:List SV}(h:o.op=.indexAddr t x y)(ht:Γ.get t=some ti)(hk:ti.k=.array et len esz)(hx:ev s x=.ptr k off)(hb:s.h k=.box l)(hy:ev s y=.val (.int ik n))(h0:0≤n)(hn:n.toNat<len):Good P o s ⟨.ptr k (off+n.toNat*esz),[k],[]⟩ :=
 Good.pure λκ a w _ hr ho=>by
  have h1:=hr x (by simp[h,Op.operands]);have h2:=hr y (by simp[h,Op.operands]);have h3:=ho k y_;rw[hb]at h3;obtain ⟨b,cs,T,fr,e1,_⟩:=h3;rw[hx]at h1;rw[hy]at h2;simp only[Rd,e1]at h1;obtain ⟨hu,i,q1,q2⟩:=Vm Γ ht hk;refine⟨.pointer (some ⟨b,off+n.toNat*esz,none⟩),?_,by simp only[Rd,e1]⟩;simp only[execOp,h,h1,h2.val];simp[Sg w hu q1 q2 h0 hn]
def I7{P:Program}(Γ:Ty P){o:Oper}{s:SS}{t:TypeId}{ti:TI}{et:TypeId}{len esz sz off:Nat}{x y:Operand}{ik:IntKind}{n:Int}{z:SV}(h:o.op=.indexAddr t x y)(ht:Γ.get t=some ti)(hk:ti.k=.array et len esz)(hx:ev s x=.ref sz z off)(hy:ev s y=.val (.int ik n))(h0:0≤n)(hn:n.toNat<len):Good P o s ⟨.ref sz z (off+n.toNat*esz),[],[]⟩ :=
 Good.pure λκ a w _ hr _=>by
  have h1:=hr x (by simp[h,Op.operands]);have h2:=hr y (by simp[h,Op.operands]);rw[hx]at h1;rw[hy]at h2;simp only[Rd,RdD]at h1;obtain ⟨b,oo,u,e1,e2,e3,e4,e5⟩:=h1;obtain ⟨hu,i,q1,q2⟩:=Vm Γ ht hk;refine⟨.pointer (some ⟨b,oo+off+n.toNat*esz,none⟩),?_,?_⟩
  ·simp only[execOp,h,e1,h2.val];simp[Sg w hu q1 q2 h0 hn]
  ·simp only[Rd,RdD];exact⟨b,oo,u,by rw[vS],e2,e3,e4,e5⟩
def Zt{P:Program}(Γ:Ty P){o:Oper}{s:SS}{t:TypeId}{ti:TI}{x y:Operand}{ik:IntKind}{n:Int}{b:ByteArray}(h:o.op=.index t x y)(ht:Γ.get t=some ti)(hk:ti.k=.string)(hx:ev s x=.val (.string b))(hy:ev s y=.val (.int ik n))(h0:0≤n)(hn:n.toNat<b.size):Good P o s ⟨.val (.int .u8 (Bu b n.toNat).toNat),[],[]⟩ :=
 Good.pure λκ a w _ hr _=>by
  have h1:=hr x (by simp[h,Op.operands]);have h2:=hr y (by simp[h,Op.operands]);rw[hx]at h1;rw[hy]at h2;obtain ⟨d,info,z,k1,k2,k3,k4,k5,k6⟩:=Γ.ok t ti ht;rw[hk]at k2;simp only[TK.ok]at k2;subst k2;have hg:b[n.toNat]? = some (Bu b n.toNat):=by
   have lj:n.toNat<b.data.toList.length:=hn;rw[getElem?_pos b n.toNat hn];simp only[Bu,wH,zT lj,Option.getD_some,Option.some.injEq];rfl
  refine⟨.int .u8 (Bu b n.toNat).toNat,?_,by simp only[Rd]⟩;simp[execOp,h,h1.val,h2.val,Instr.index,run_underlying k1,asIntOf,h0,hg]
def BndAt(s:SS)(x:Option Operand)(d n:Int):Prop:=(x=none∧n=d)∨∃y k,x=some y∧ev s y=.val (.int k n)
def A33{s:SS}{x:Option Operand}{d:Int}{K:Int→Prop}{stop:Prop}(h:bnd s x d K stop):(∃n,BndAt s x d n∧K n)∨stop:=by
 unfold bnd at h;split at h
 ·exact .inl ⟨d,.inl ⟨E,E⟩,h⟩
 ·split at h
  ·rename_i y _ k n hy;exact .inl ⟨n,.inr ⟨y,k,E,hy⟩,h⟩
  ·exact .inr h
theorem BndAt.is{s:SS}{x:Option Operand}{d n:Int}{m:Nat}(h:BndAt s x d n)(h0:0≤n)(hd:d.toNat=m):BoundIs s x m n.toNat:=by
 rcases h with ⟨rfl,rfl⟩|⟨y,k,rfl,hy⟩
 ·exact .inl ⟨E,hd⟩
 ·exact .inr ⟨y,k,E,by rw[hy,xD h0]⟩
def A1p{P:Program}{Γ:TyE P}{o:Oper}{s:SS}{K:Up→Prop}{stop:Prop}(h:opW Γ o s K stop):(∃U,Good P o s U∧K U)∨stop:=by
 cases hop:o.op with
 |move x=>
  simp only[opW,hop,Abc]at h;exact .inl ⟨_,Ajf (.inl hop),h⟩
 |assign x=>
  simp only[opW,hop,Abc]at h;exact .inl ⟨_,Ajf (.inr hop),h⟩
 |pick c a b=>
  simp only[opW,hop,Abc]at h;split at h
  ·rename_i cc hc;cases cc
   ·exact .inl ⟨_,Aje hop hc,h⟩
   ·exact .inl ⟨_,Aje hop hc,h⟩
  ·exact .inr h
 |alloc t=>
  simp only[opW,hop,Qg]at h;split at h
  ·rename_i d hd;split at h
   ·rename_i hf;split at h
    ·rename_i i hi;split at h
     ·rename_i h1;exact .inl ⟨_,Atn Γ.toTy hop hf hi h1,h⟩
     ·exact .inr h
    ·exact .inr h
   ·exact .inr h
  ·exact .inr h
 |box t x=>
  simp only[opW,hop,Qg]at h;split at h
  ·rename_i d hd;split at h
   ·rename_i hf;split at h
    ·rename_i h1;exact .inl ⟨_,Aph hop hf h1,h⟩
    ·exact .inr h
   ·exact .inr h
  ·exact .inr h
 |load t x=>
  simp only[opW,hop,A3i]at h;split at h
  ·rename_i i hi;split at h
   ·rename_i k off hx;split at h
    ·rename_i l hk;split at h
     ·rename_i y hy;exact .inl ⟨_,Ahw Γ.toTy hop hx hi hk hy,h⟩
     ·exact .inr h
    ·exact .inr h
   ·rename_i sz z off hx;split at h
    ·rename_i hz;split at h
     ·rename_i y hy;exact .inl ⟨_,Ahv Γ.toTy hop hx hi hz hy,h⟩
     ·exact .inr h
    ·exact .inr h
   ·rename_i k sz n off hx;split at h
    ·rename_i dz α e l hk;obtain ⟨rfl,hn,h⟩:=h;split at h
     ·rename_i hz;split at h
      ·rename_i y hy;have ag:l≠[]:=by intro he;subst he;simp at hn
       refine .inl ⟨_,Xb (n:=l.length) (f:=rowF e l) Γ.toTy hop hx hi (λκ w ho=>?_) ⟨hn,E⟩ hz hy,h⟩;rw[hk]at ho;exact ho.rowAt ag
      ·exact h.elim
     ·exact h.elim
    ·rename_i dz svs hk;obtain ⟨rfl,h⟩:=h;split at h
     ·rename_i z bu;split at h
      ·rename_i hz;split at h
       ·rename_i y hy;refine .inl ⟨_,Xb (n:=svs.length) (f:=Ahm svs) Γ.toTy hop hx hi (λκ w ho=>?_) bu hz hy,h⟩;rw[hk]at ho;exact ho
       ·exact h.elim
      ·exact h.elim
     ·exact h.elim
    ·exact .inr h
   ·exact .inr h
  ·exact .inr h
 |store t x y=>
  simp only[opW,hop,Qg]at h;split at h
  ·rename_i i hi;split at h
   ·rename_i k off hx;split at h
    ·rename_i l hk;split at h
     ·rename_i hc;simp only[zE]at hc;exact .inl ⟨_,U7 Γ.toTy hop hx hi hk hc.1.1 (yK hc.1.2) (xZ hc.2),h⟩
     ·exact .inr h
    ·exact .inr h
   ·rename_i k sz n off hx;split at h
    ·rename_i dz α e l hk;obtain ⟨rfl,hn,z,hz,hc,h⟩:=h;simp only[zE]at hc;obtain ⟨⟨⟨⟨⟨c1,c2⟩,c3⟩,c4⟩,c5⟩,c6⟩:=hc;exact .inl ⟨_,U6 Γ.toTy hop hx hi hk c1 (yK c2) (xZ c3) hn hz c4 c5 c6,h⟩
    ·exact .inr h
   ·exact .inr h
  ·exact .inr h
 |fieldAddr t x f=>
  simp only[opW,hop]at h;split at h
  ·rename_i i hi;split at h
   ·rename_i fs hk;split at h
    ·rename_i fo fn hf;split at h
     ·exact .inr h
     ·rename_i fn';split at h
      ·rename_i k off hx;split at h
       ·rename_i l hb;exact .inl ⟨_,Kq Γ.toTy hop hi hk hf q_ (.inl ⟨k,off,l,hx,hb,E,E⟩),h⟩
       ·exact .inr h
      ·rename_i sz z off hx;exact .inl ⟨_,Kq Γ.toTy hop hi hk hf q_ (.inr (.inl ⟨sz,z,off,hx,E,E⟩)),h⟩
      ·rename_i k sz n off hx;split at h
       ·rename_i dz α e l hb;obtain ⟨ag,h⟩:=h;refine .inl ⟨_,Kq Γ.toTy hop hi hk hf q_ (.inr (.inr ⟨k,sz,n,off,hx,λκ w ho=>?_,E,E⟩)),h⟩;rw[hb]at ho;obtain ⟨b,cap,_,_,_,e1,_⟩:=ho.rowAt ag;exact⟨b,_,cap,e1⟩
       ·rename_i dz svs hb;refine .inl ⟨_,Kq Γ.toTy hop hi hk hf q_ (.inr (.inr ⟨k,sz,n,off,hx,λκ w ho=>?_,E,E⟩)),h⟩;rw[hb]at ho;obtain ⟨b,cap,_,_,_,e1,_⟩:=ho;exact⟨b,_,cap,e1⟩
       ·exact .inr h
      ·exact .inr h
    ·exact .inr h
   ·exact .inr h
  ·exact .inr h
 |nilCheck x=>
  simp only[opW,hop]at h;split at h
  ·rename_i k off hx;split at h
   ·rename_i l hb;have:=C0 (P:=P) (rd:=[k]) hop (.inl ⟨k,off,l,hx,hb,rfl⟩);rw[hx]at this;exact .inl ⟨_,this,h⟩
   ·exact .inr h
  ·rename_i sz z off hx;have:=C0 (P:=P) (rd:=[]) hop (.inr (.inl ⟨sz,z,off,hx,rfl⟩));rw[hx]at this;exact .inl ⟨_,this,h⟩
  ·rename_i fn first cap hx
   split at h
   ·rename_i f;have:=C0 (P:=P) (rd:=[]) hop (.inr (.inr (.inl ⟨f,first,cap,hx,rfl⟩)));rw[hx]at this;exact .inl ⟨_,this,h⟩
   ·exact .inr h
  ·exact .inr h
 |indexAddr t x y=>
  simp only[opW,hop]at h;split at h
  ·rename_i i hi;split at h
   ·rename_i et esz eb ez hk;split at h
    ·rename_i ik n hy;split at h
     ·rename_i sz α e l hx;obtain ⟨rfl,h0,hn,h⟩:=h;exact .inl ⟨_,Ko Γ.toTy hop hi hk hx hy h0 hn,h⟩
     ·rename_i k hx;split at h
      ·rename_i len hl;exact .inl ⟨_,Jt Γ.toTy hop hi hk hx hl hy h.1 h.2.1,h.2.2⟩
      ·exact .inr h
     ·exact .inr h
    ·exact .inr h
   ·rename_i et len esz hk;split at h
    ·rename_i ik n hy;split at h
     ·rename_i k off hx;split at h
      ·rename_i l hl;exact .inl ⟨_,I8 Γ.toTy hop hi hk hx hl hy h.1 h.2.1,h.2.2⟩
      ·exact .inr h
     ·rename_i sz z off hx;exact .inl ⟨_,I7 Γ.toTy hop hi hk hx hy h.1 h.2.1,h.2.2⟩
     ·exact .inr h
    ·exact .inr h
   ·exact .inr h
  ·exact .inr h
 |binOp op t x y yt=>
  simp only[opW,hop]at h;split at h
  ·rename_i k a k' b hx hy;split at h
   ·exact Arv hop hx hy h
   ·split at h
    ·rename_i m9;subst m9;exact A2u hop hx hy h
    ·exact .inr h
  ·rename_i a b hx hy;exact A0j hop hx hy h
  ·rename_i p q hx hy;split at h
   ·rename_i i hi;split at h
    ·rename_i hk;split at h
     ·exact .inl ⟨_,Zu Γ.toTy hop (.inl E) hi hk hx hy,h⟩
     ·exact .inl ⟨_,Zu Γ.toTy hop (.inr E) hi hk hx hy,h⟩
     ·exact .inr h
    ·exact .inr h
   ·exact .inr h
  ·rename_i l m hx hy;split at h
   ·rename_i ks hks;split at h
    ·rename_i r hr;split at h
     ·exact .inl ⟨_,Aco hop (.inl E) (Γ.eqok t ks hks) hx hy hr,h⟩
     ·exact .inl ⟨_,Aco hop (.inr E) (Γ.eqok t ks hks) hx hy hr,h⟩
     ·exact .inr h
    ·exact .inr h
   ·exact .inr h
  ·rename_i k off hx hy;split at h
   ·rename_i l hb;split at h
    ·rename_i i hi;split at h
     ·rename_i hk;split at h
      ·exact .inl ⟨_,Acn Γ.toTy hop (.inl E) hi hk hy (.inl ⟨k,off,l,hx,hb,E,E⟩),h⟩
      ·exact .inl ⟨_,Acn Γ.toTy hop (.inr E) hi hk hy (.inl ⟨k,off,l,hx,hb,E,E⟩),h⟩
      ·exact .inr h
     ·exact .inr h
    ·exact .inr h
   ·exact .inr h
  ·exact .inr h
 |unOp op t x=>
  simp only[opW,hop]at h;split at h
  ·rename_i b hx;exact .inl ⟨_,A3a hop hx,h⟩
  ·rename_i k n hx;exact .inl ⟨_,A3b hop hx,h⟩
  ·exact .inr h
 |extract x i=>
  simp only[opW,hop,A3i]at h;split at h
  ·rename_i l hx;split at h
   ·rename_i y hy;exact .inl ⟨_,Ale hop hx hy,h⟩
   ·exact .inr h
  ·exact .inr h
 |convert src dst x=>
  simp only[opW,hop]at h;split at h
  ·rename_i si di hs hd;split at h
   ·rename_i k' k n hk hx;exact .inl ⟨_,Abb Γ.toTy hop hs hd hk hx,h⟩
   ·rename_i b hk hx;split at h
    ·rename_i l6;exact .inl ⟨_,Wk Γ.toTy hop hs hd l6 hk hx,h⟩
    ·exact .inr h
   ·exact .inr h
  ·exact .inr h
 |makeInterface t x=>
  simp only[opW,hop,Abc]at h;split at h
  ·rename_i i hi;split at h
   ·exact .inr h
   ·exact .inr h
   ·exact .inr h
   ·rename_i h1 h2 h3;refine .inl ⟨_,X7 Γ.toTy hop hi ?_,h⟩;cases hk:i.k<;>first|rfl|(exact zY hk h1)|(exact zY hk h2)|(exact zY hk (h3 _ _ _))
  ·exact .inr h
 |build t ps=>
  simp only[opW,hop,Qg]at h;split at h
  ·rename_i i hi;split at h
   ·rename_i fs hk;split at h
    ·rename_i h1;split at h
     ·rename_i out iv;exact .inl ⟨_,Atm (ps:=ps.toList) Γ.toTy (by rw[hop]) hi hk h1 iv,h⟩
     ·exact .inr h
    ·exact .inr h
   ·exact .inr h
  ·exact .inr h
 |buildSlice t len ps=>
  simp only[opW,hop,Qg]at h;split at h
  ·rename_i d hd;split at h
   ·rename_i hf;split at h
    ·rename_i i hi;split at h
     ·rename_i et sz eb ez hk;split at h
      ·rename_i xs pl;split at h
       ·rename_i hc;simp only[zE]at hc;exact .inl ⟨_,Adn (ps:=ps.toList) Γ.toTy (by rw[hop]) hf hi hk pl (yK hc.1.1) (xZ hc.1.2) hc.2,h⟩
       ·exact .inr h
      ·exact .inr h
     ·exact .inr h
    ·exact .inr h
   ·exact .inr h
  ·exact .inr h
 |index t x y=>
  simp only[opW,hop]at h;split at h
  ·rename_i i hi;split at h
   ·rename_i hk;split at h
    ·rename_i b hx;split at h
     ·rename_i ik n hy;exact .inl ⟨_,Zt Γ.toTy hop hi hk hx hy h.1 h.2.1,h.2.2⟩
     ·exact .inr h
    ·exact .inr h
   ·exact .inr h
  ·exact .inr h
 |slice t x lo hi mx=>
  simp only[opW,hop]at h;split at h
  ·split at h
   ·rename_i i hi';split at h
    ·rename_i hk;split at h
     ·rename_i b hx;rcases A33 h with ⟨l,hl,h⟩|h
      ·rcases A33 h with ⟨r,hr,h⟩|h
       ·obtain ⟨⟨a1,a2,a3⟩,h⟩:=h;exact .inl ⟨_,Zr (lo:=l.toNat) (hi:=r.toNat) Γ.toTy hop hi' hk hx (hl.is a1 E) (hr.is q_ y_) q_ q_,h⟩
       ·exact .inr h
      ·exact .inr h
     ·exact .inr h
    ·exact .inr h
   ·exact .inr h
  ·exact .inr h
 |makeFunc fn first cap=>
  simp only[opW,hop,Qg]at h;exact .inl ⟨_,Ahu (ys:=first.toList) (xs:=cap.toList) (by rw[hop]),h⟩
 |call c=>
  simp only[opW,hop]at h;split at h
  ·rename_i yk;split at h
   ·rename_i x t r tt hats;have hc:c=⟨.builtin .len,#[x],c.argTypes⟩:=by
     obtain ⟨a,b,d⟩:=c;simp only at yk tt⊢;have:b=#[x]:=by
      apply Array.ext';simpa using tt
     rw[yk,this]
    rw[hc]at hop;have gd:c.argTypes[0]? = some t:=by
     rw[←vK,hats];rfl
    split at h
    ·rename_i i hi;split at h
     ·rename_i et sz eb ez hk;split at h
      ·rename_i z α e l hx;exact .inl ⟨_,Af1 Γ.toTy hop gd hi hk (.inl ⟨z,α,e,l,hx,E,E⟩),h⟩
      ·rename_i k hx;split at h
       ·rename_i n hn;exact .inl ⟨_,Af1 Γ.toTy hop gd hi hk (.inr (.inl ⟨k,hx,hn,E⟩)),h⟩
       ·exact .inr h
      ·rename_i a n cap hx;exact .inl ⟨_,Af1 Γ.toTy hop gd hi hk (.inr (.inr ⟨a,cap,hx,E⟩)),h⟩
      ·exact .inr h
     ·rename_i hk;split at h
      ·rename_i b hx;exact .inl ⟨_,Adm Γ.toTy hop gd hi hk hx,h⟩
      ·exact .inr h
     ·exact .inr h
    ·exact .inr h
   ·exact .inr h
  ·exact .inr h
 |_=>simp only[opW,hop]at h;exact .inr h
def A5h{P:Program}{Γ:TyE P}{o:Oper}{s:SS}{K:Up→Prop}{stop:Prop}(h:opW Γ o s K stop):(∃U,GoodX P o s U∧K U)∨stop:=by
 have hgen:(Lq o||T1 o)=false→(∃U,GoodX P o s U∧K U)∨stop:=λhn=>by
  rcases A1p h with ⟨U,hU,hk⟩|h
  ·exact .inl ⟨U,.of hU hn,hk⟩
  ·exact .inr h
 cases hop:o.op with
 |indexAddr t x y=>
  have cn:T1 o=false:=by simp[T1,hop]
  have hops:x∈o.op.operands∧y∈o.op.operands:=by simp[hop,Op.operands]
  simp only[opW,hop]at h;split at h
  ·rename_i i hi;split at h
   ·rename_i et esz eb ez hk;split at h
    ·rename_i ik n hy;split at h
     ·rename_i sz α e l hx;obtain ⟨rfl,h0,hn,h⟩:=h;exact .inl ⟨_,⟨(Ko Γ.toTy hop hi hk hx hy h0 hn).two,λ_=>⟨rfl,λs' h1 h2=>Ko Γ.toTy hop hi hk ((h1 x hops.1).trans hx) ((h1 y hops.2).trans hy) h0 hn⟩,λhc=>(by rw[cn]at hc;cases hc)⟩,h⟩
     ·rename_i k hx;split at h
      ·rename_i len hl;exact .inl ⟨_,⟨(Jt Γ.toTy hop hi hk hx hl hy h.1 h.2.1).two,λ_=>⟨rfl,λs' h1 h2=>Jt Γ.toTy hop hi hk ((h1 x hops.1).trans hx) (Ob.shp_len (h2 k y_) hl) ((h1 y hops.2).trans hy) h.1 h.2.1⟩,λhc=>(by rw[cn]at hc;cases hc)⟩,h.2.2⟩
      ·exact .inr h
     ·exact .inr h
    ·exact .inr h
   ·rename_i et len esz hk;split at h
    ·rename_i ik n hy;split at h
     ·rename_i k off hx;split at h
      ·rename_i l hl;exact .inl ⟨_,⟨(I8 Γ.toTy hop hi hk hx hl hy h.1 h.2.1).two,λ_=>⟨rfl,λs' h1 h2=>(Ob.shp_box ((h2 k y_).trans (zH Ob.shp hl))).elim λm hm=>I8 Γ.toTy hop hi hk ((h1 x hops.1).trans hx) hm ((h1 y hops.2).trans hy) h.1 h.2.1⟩,λhc=>(by rw[cn]at hc;cases hc)⟩,h.2.2⟩
      ·exact .inr h
     ·rename_i sz z off hx;exact .inl ⟨_,⟨(I7 Γ.toTy hop hi hk hx hy h.1 h.2.1).two,λ_=>⟨rfl,λs' h1 h2=>I7 Γ.toTy hop hi hk ((h1 x hops.1).trans hx) ((h1 y hops.2).trans hy) h.1 h.2.1⟩,λhc=>(by rw[cn]at hc;cases hc)⟩,h.2.2⟩
     ·exact .inr h
    ·exact .inr h
   ·exact .inr h
  ·exact .inr h
 |store t x y=>
  have qz:Lq o=false:=by simp[Lq,hop]
  simp only[opW,hop,Qg]at h;split at h
  ·rename_i i hi;split at h
   ·rename_i k off hx;split at h
    ·rename_i l hk;split at h
     ·rename_i hc;simp only[zE]at hc;exact .inl ⟨_,⟨(U7 Γ.toTy hop hx hi hk hc.1.1 (yK hc.1.2) (xZ hc.2)).two,λ hc=>(by rw[qz]at hc;cases hc),λ _ p hp=>by
       simp only[yB]at hp;subst hp;show (Ob.box _).shp=(s.h k).shp;rw[hk];rfl⟩,h⟩
     ·exact .inr h
    ·exact .inr h
   ·rename_i k sz n off hx;split at h
    ·rename_i dz α e l hk;obtain ⟨rfl,hn,z,hz,hc,h⟩:=h;simp only[zE]at hc;obtain ⟨⟨⟨⟨⟨c1,c2⟩,c3⟩,c4⟩,c5⟩,c6⟩:=hc;exact .inl ⟨_,⟨(U6 Γ.toTy hop hx hi hk c1 (yK c2) (xZ c3) hn hz c4 c5 c6).two,λ hc=>(by rw[qz]at hc;cases hc),λ _ p hp=>by
      simp only[yB]at hp;subst hp;show (Ob.row _ _ _).shp=(s.h k).shp;rw[hk];simp[Ob.shp]⟩,h⟩
    ·exact .inr h
   ·exact .inr h
  ·exact .inr h
 |_=>exact hgen (by simp[Lq,T1,hop])
def Afy(idx:Nat):List Oper→Bool
 |[]=>false
 | o::r=>(match o.guard with
  |some (j,_)=>Nat.beq j idx
  | none=>false) || Afy idx r
def A52(isg:Bool)(U:Up)(K K':Up→Prop):Prop :=
 match isg with
 |false=>K U
 | true=>(match U.v with
  | .val (.bool b)=>(b=true→K' ⟨.val (.bool true),U.rd,U.objs⟩)∧(b=false→K' ⟨.val (.bool false),U.rd,U.objs⟩)
  | _=>K U)
def Avs{X:Up→Prop}{isg:Bool}{U:Up}{K K':Up→Prop}(hK:∀U,K U→K' U)(hg:X U)(h:A52 isg U K K'):∃U',X U'∧K' U':=by
 unfold A52 at h;split at h
 ·exact⟨U,hg,hK _ h⟩
 ·split at h
  ·rename_i b hb;obtain ⟨v,rd,objs⟩:=U;simp only at hb;subst hb;cases b
   ·exact⟨_,hg,h.2 E⟩
   ·exact⟨_,hg,h.1 E⟩
  ·exact⟨U,hg,hK _ h⟩
def Hd(n:Nat)(all:Array Oper)(o:Oper)(s:SS):Option Bool :=
 match o.guard with
 |none=>some true
 | some (j,want)=>(match (all[j]?).bind (·.dst) with
  | some d=>(match Nat.blt d n with
   | true=>(match s.σ d with
    | .val (.bool c)=>(match c with
     |true=>some want
     | false=>(match want with | true=>some false | false=>some true))
    | .val (.tuple a)=>(match a.toList with|[]=>some false|_=>none)
    | _=>none)
   | false=>none)
  | none=>none)
def Hc{n:Nat}{all:Array Oper}{o:Oper}{s:SS}{b:Bool}(h:Hd n all o s=some b):Yq all s o.guard b∧∀j want,o.guard=some (j,want)→∀d,((all[j]?).bind (·.dst))=some d→d<n:=by
 unfold Hd at h;cases hg:o.guard with
 |none=>
  rw[hg]at h;simp only[Option.some.injEq]at h;exact⟨h.symm,λj want hh=>by cases hh⟩
 |some p=>
  obtain ⟨j,want⟩:=p;rw[hg]at h;simp only at h;split at h
  ·rename_i d hd;split at h
   ·rename_i ab;refine⟨⟨d,hd,?_⟩,λj' want' hh d' p9=>?_⟩
    ·split at h
     ·rename_i c hc;left;refine⟨c,hc,?_⟩;cases c
      ·cases want<;>simp_all
      ·simp_all
     ·rename_i a ha;split at h
      ·rename_i he;right;have:a=#[]:=by simpa using he
       subst this;simp only[Option.some.injEq]at h;exact⟨ha,h.symm⟩
      ·cases h
     ·cases h
    ·simp only[Option.some.injEq,Prod.mk.injEq]at hh;obtain ⟨rfl,rfl⟩:=hh;rw[hd]at p9;simp only[Option.some.injEq]at p9;subst p9;exact xZ ab
   ·cases h
  ·cases h
def Vf(n:Nat)(o:Oper):Bool:=match o.dst with|some d=>Nat.blt d n|none=>true
mutual
def Og(C:Cx)(Γ:TyE C.P):Nat→List KI→SS→Prop
 |0,k,s=>G C k s
 | n+1,k,s=>(match k with
  |[]=>G C [] s
  | .blk _::k=>Og C Γ n k s
  | .inv I::k=>G C (.inv I::k) s
  | .scp::k=>Og C Γ n k s
  | .ops _ []::k=>Og C Γ n k s
  | .ops all (o::rest)::k=>(match Vf C.n o with
   | true=>(match Hd C.n all o s with
    |some true=>opW Γ o s (λU=>A52 (Afy (all.size-rest.length-1) rest) U (λU=>Og C Γ n (.ops all rest::k) (s.upd o.dst U)) (λU=>G C (.ops all rest::k) (s.upd o.dst U))) (G C (.ops all (o::rest)::k) s)
    |some false=>Og C Γ n (.ops all rest::k) (s.upd o.dst ⟨.val undef,[],[]⟩)
    | none=>G C (.ops all (o::rest)::k) s)
   | false=>G C (.ops all (o::rest)::k) s)
  | .code c::k=>(match c with
   | .skip=>Og C Γ n k s
   | .seq x y=>Og C Γ n (.code x::.code y::k) s
   | .block id c=>Og C Γ n (.code c::.blk id::k) s
   | .scope c=>Og C Γ n (.code c::.scp::k) s
   | .label _=>Og C Γ n k s
   | .region id ops draw=>(match draw with
    |false=>Og C Γ n (.ops ops ops.toList::k) s
    | true=>(match At1 C.n ops.toList with
     |true=>Zz C Γ n k ops [] ops.toList s
     | false=>G C (.code (.region id ops true)::k) s))
   | .cond c x y=>(match ev s c with
    | .val (.bool b)=>(b=true→G C (.code x::k) s)∧(b=false→G C (.code y::k) s)
    | _=>G C (.code (.cond c x y)::k) s)
   | .exit id=>(match Xg id k with
    |some k'=>Og C Γ n k' s
    | none=>G C (.code (.exit id)::k) s)
   | c=>G C (.code c::k) s))
def Zz(C:Cx)(Γ:TyE C.P):Nat→List KI→Array Oper→List Stp→List Oper→SS→Prop
 |0,k,all,done,rest,s=>DR C k all done rest s
 | n+1,k,all,done,rest,s=>(match rest with
  |[]=>Alr all done=true∧Og C Γ n k s
  | o::rest=>(match Hd C.n all o s with
   |some true=>opW Γ o s (λU=>A52 (Afy (all.size-rest.length-1) rest) U (λU=>Zz C Γ n k all (done++[⟨done.length,o,U,true⟩]) rest (s.upd o.dst U)) (λU=>DR C k all (done++[⟨done.length,o,U,true⟩]) rest (s.upd o.dst U))) (DR C k all done (o::rest) s)
   |some false=>Zz C Γ n k all (done++[⟨done.length,o,⟨.val undef,[],[]⟩,false⟩]) rest (s.upd o.dst ⟨.val undef,[],[]⟩)
   | none=>DR C k all done (o::rest) s))
end
def Agf{n:Nat}{o:Oper}(h:Vf n o=true):∀d,o.dst=some d→d<n:=λd hd=>by
 unfold Vf at h;rw[hd]at h;exact xZ h
def A36{all:Array Oper}{done:List Stp}{o:Oper}{rest:List Oper}(h:all.toList=done.map (·.o)++o::rest):all[done.length]? = some o:=by
 rw[←vK,h,wG y_];simp
def Avt{C:Cx}{Γ:TyE C.P}(hm:C.P.follows .mixedOrders=true):∀n,(∀k s,Og C Γ n k s→G C k s)∧(∀k all done rest s,all.toList=done.map (·.o)++rest→Zz C Γ n k all done rest s→DR C k all done rest s):=by
 intro n
 induction n with
 |zero=>exact⟨λk s h=>(by simpa only [Og] using h),λk all done rest s _ h=>(by simpa only [Zz] using h)⟩
 |succ n ih=>
  obtain ⟨nk,td⟩:=ih;constructor
  ·intro k s h;simp only[Og]at h;split at h
   ·exact h
   ·exact G_blk (nk _ _ h)
   ·exact h
   ·exact G_scp (nk _ _ h)
   ·exact Azp (nk _ _ h)
   ·rename_i all o rest k';split at h
    ·rename_i hd;have p9:=Agf hd;split at h
     ·rename_i hg;obtain ⟨w1,w2⟩:=Hc hg;rcases A1p h with ⟨U,hU,hk⟩|h
      ·obtain ⟨U',hU',l6⟩:=Avs (X:=Good C.P o s) (λU hu=>nk _ _ hu) hU hk;exact G_op hU' (λκ a w hs=>Vu hs w2 w1) p9 l6
      ·exact h
     ·rename_i hg;obtain ⟨w1,w2⟩:=Hc hg;exact Azq (λκ a w hs=>Vu hs w2 w1) p9 (nk _ _ h)
     ·exact h
    ·exact h
   ·rename_i c k';split at h
    ·exact G_skip (nk _ _ h)
    ·exact G_seq (nk _ _ h)
    ·exact A6p (nk _ _ h)
    ·exact A6m (nk _ _ h)
    ·exact A6n (nk _ _ h)
    ·split at h
     ·exact A4m (nk _ _ h)
     ·split at h
      ·rename_i hd;exact G_draw hm hd (td _ _ _ _ _ y_ h)
      ·exact h
    ·split at h
     ·rename_i b hc;exact G_cond hc h.1 h.2
     ·exact h
    ·split at h
     ·rename_i hx;exact G_exit hx (nk _ _ h)
     ·exact h
    ·exact h
  ·intro k all done rest s gk h;simp only[Zz]at h;split at h
   ·exact DR_nil h.1 (nk _ _ h.2)
   ·rename_i o rest;have hi:=A36 gk;split at h
    ·rename_i hg;obtain ⟨w1,w2⟩:=Hc hg;rcases A5h h with ⟨U,hU,hk⟩|h
     ·obtain ⟨U',hU',l6⟩:=Avs (X:=GoodX C.P o s) (λU hu=>td _ _ _ _ _ (by simp[gk]) hu) hU hk;exact A63 U' hU' hi w1 l6
     ·exact h
    ·rename_i hg;obtain ⟨w1,w2⟩:=Hc hg;exact A6q hi w1 (td _ _ _ _ _ (by simp[gk]) h)
    ·exact h
def aF{p q:Prop}(h:q):(false=true→p)∧(false=false→q):=⟨λe=>(tK e).elim,λ_=>h⟩
def aT{p q:Prop}(h:p):(true=true→p)∧(true=false→q):=⟨λ_=>h,λe=>(tK e.symm).elim⟩
def run{C:Cx}{k:List KI}{s:SS}(Γ:TyE C.P)(hm:C.P.follows .mixedOrders=true)(n:Nat)(h:Og C Γ n k s):G C k s:=(Avt hm n).1 k s h
theorem runD{C:Cx}{k:List KI}{s:SS}{all:Array Oper}{done:List Stp}{rest:List Oper}(Γ:TyE C.P)(hm:C.P.follows .mixedOrders=true)(n:Nat)(hs:all.toList=done.map (·.o)++rest)(h:Zz C Γ n k all done rest s):DR C k all done rest s :=
 (Avt hm n).2 k all done rest s hs h
def rG{C:Cx}{k:List KI}{s:SS}(Γ:TyE C.P)(hm:C.P.follows .mixedOrders=true)(h:Og C Γ 400 k s):G C k s:=run Γ hm 400 h
def rD{C:Cx}{k:List KI}{s:SS}{all:Array Oper}{done:List Stp}{rest:List Oper}(Γ:TyE C.P)(hm:C.P.follows .mixedOrders=true)(hs:all.toList=done.map (·.o)++rest)(h:Zz C Γ 400 k all done rest s):DR C k all done rest s:=runD Γ hm 400 hs h
def Af{C:Cx}{k:List KI}{s:SS}{all:Array Oper}{o:Oper}{rest:List Oper}{U:Up}(hg:Good C.P o s U)(hd:Vf C.n o=true)(hw:Hd C.n all o s=some true)(h:G C (.ops all rest::k) (s.upd o.dst U)):G C (.ops all (o::rest)::k) s :=
 G_op hg (λ_ _ _ hs=>Vu hs (Hc hw).2 (Hc hw).1) (Agf hd) h
def Bw{C:Cx}{k:List KI}{s:SS}{all:Array Oper}{done:List Stp}{o:Oper}{rest:List Oper}{U:Up}(hg:Good C.P o s U)(hi:all[done.length]? = some o)(hw:Hd C.n all o s=some true)(h:DR C k all (done++[⟨done.length,o,U,true⟩]) rest (s.upd o.dst U))(hn:(Lq o||T1 o)=false:=by rfl):DR C k all done (o::rest) s:=A63 U (.of hg hn) hi (Hc hw).1 h
def done{P:Program}{fn:Func}{F:Fr}{R:SV}{H':Obs}{Γ:Ty P}{n:Nat}{bn:List Nat}{hbn:∀k,F.k0 k≠.new→k∈bn}{k:List KI}{s:SS}{rs:List ResultVar}(hf:fn.results=rs.toArray){xs:List SV}(hx:ResVs Γ.get s rs xs)(ρ:List (Nat×Nat))(L:Obs)(hL:∀p∈H',p∈L)(hR:R.ren (Bd ρ)=Ah4 xs)(my:R.inn L.keys=true)(bc:Sub ⟨P,Γ,F,n,Wo P fn F R H',bn,hbn⟩ s ρ [] L):G ⟨P,Γ,F,n,Wo P fn F R H',bn,hbn⟩ (.code .ret::k) s :=
 A62 λ_ _ _ hs=>(Au7 hf hx ρ L hL hR my bc hs).1
def A6{P:Program}{fn:Func}{F:Fr}{R:SV}{H':Obs}{Γ:Ty P}{n:Nat}{bn:List Nat}{hbn:∀k,F.k0 k≠.new→k∈bn}{s:SS}{rs:List ResultVar}(hf:fn.results=rs.toArray){xs:List SV}(hx:ResVs Γ.get s rs xs)(ρ:List (Nat×Nat))(L:Obs)(hL:∀p∈H',p∈L)(hR:R.ren (Bd ρ)=Ah4 xs)(my:R.inn L.keys=true)(bc:Sub ⟨P,Γ,F,n,Wo P fn F R H',bn,hbn⟩ s ρ [] L):G ⟨P,Γ,F,n,Wo P fn F R H',bn,hbn⟩ [] s :=
 G_nil λ_ _ _ hs=>(Au7 hf hx ρ L hL hR my bc hs).2
def At{P:Program}{fn:Func}{F:Fr}{R:SV}{Γ:Ty P}{n:Nat}{hbn:∀k,F.k0 k≠.new→k∈[]}{k:List KI}{s:SS}{rs:List ResultVar}(hf:fn.results=rs.toArray){xs:List SV}(hx:ResVs Γ.get s rs xs)(hR:R=Ah4 xs)(my:R.inn []=true):G ⟨P,Γ,F,n,Wo P fn F R [],[],hbn⟩ (.code .ret::k) s:=by
 have hid:∀x:SV,x.ren (Bd [])=x:=λx=>Bj x
 exact done hf hx [] [] (λ_ h=>h) (by rw[hid];exact hR) my ⟨Y,Y,E,E⟩
def fieldsOf(P:Program):List Field→Option (List (Nat×Nat))
 |[]=>some []
 |f::fs=>match P.info? f.type,fieldsOf P fs with
  |some i,some r=>some ((f.offset,i.size)::r)
  |_,_=>none
def Acv{P:Program}:∀{fs:List Field} {r:List (Nat×Nat)},fieldsOf P fs=some r→H2 P fs r
 |[],r,h=>by simp only[fieldsOf,Option.some.injEq]at h;subst h;trivial
 |f::fs,r,h=>by
  simp only[fieldsOf]at h;split at h
  ·rename_i i q hi hq;simp only[Option.some.injEq]at h;subst h;exact⟨E,by rw[hi];rfl,Acv hq⟩
  ·cases h
def tkOf(P:Program)(d:TypeDesc):Option TK :=
 match d with
 | .bool=>some .bool
 | .int k=>some (.int k)
 | .string=>some .string
 | .slice e=>(match P.info? e with
  | some i=>(match i.zero with
   |some z=>some (.slice e i.size i.bytes z.cells.toList)
   | none=>none)
  | none=>none)
 | .struct fs=>(match fieldsOf P fs.toList with
  |some r=>some (.struct r)
  | none=>none)
 | .array len e=>(match P.info? e with
  |some i=>some (.array e len i.size)
  | none=>none)
 | .pointer _=>some .ptr
 | .interface _=>some .iface
 | .func _ _ _=>some .func
 |_=>none
def A4x{P:Program}{d:TypeDesc}{k:TK}(h:tkOf P d=some k):TK.ok P d k:=by
 unfold tkOf at h;split at h
 ·cases h;rfl
 ·cases h;rfl
 ·cases h;rfl
 ·split at h
  ·rename_i i hi;split at h
   ·rename_i z hz;cases h;exact⟨E,i,z,hi,E,E,hz,E⟩
   ·cases h
  ·cases h
 ·split at h
  ·rename_i r hr;cases h;exact⟨_,E,Acv hr⟩
  ·cases h
 ·split at h
  ·rename_i i hi;cases h;exact⟨E,i,hi,E⟩
  ·cases h
 ·cases h;exact⟨_,rfl⟩
 ·cases h;exact⟨_,rfl⟩
 ·cases h;exact⟨_,_,_,rfl⟩
 ·cases h
def tiOf(P:Program)(t:TypeId):Option TI :=
 match P.underlying t,P.info? t with
 | some d,some info=>(match tkOf P d,info.zero with
  |some k,some z=>some ⟨k,info.size,z.cells.toList⟩
  | _,_=>none)
 |_,_=>none
def A4y{P:Program}{t:TypeId}{i:TI}(h:tiOf P t=some i):i.ok P t:=by
 unfold tiOf at h;split at h
 ·rename_i d info hd hi;split at h
  ·rename_i k z hk hz;cases h;exact⟨d,info,z,hd,A4x hk,hi,E,hz,E⟩
  ·cases h
 ·cases h
inductive Tr(α:Type)|lf|nd (k:Nat) (v:α) (l r:Tr α)
def Tr.look{α:Type}(t:Nat):Tr α→Option α
 | .lf=>none
 | .nd k v l r=>bif Nat.beq t k then some v else bif Nat.blt t k then l.look t else r.look t
def Tr.all{α:Type}(p:Nat→α→Prop):Tr α→Prop
 | .lf=>True
 | .nd k v l r=>p k v∧l.all p∧r.all p
theorem Tr.look_ok{α:Type}{p:Nat→α→Prop}{t:Nat}{v:α}:∀{T:Tr α},T.all p→T.look t=some v→p t v
 | .lf,_,h=>by cases h
 | .nd k u l r,ha,h=>by
  simp only[Tr.look,uA]at h;split at h
  ·rename_i hb;have:=yK hb;subst this;simp only[Option.some.injEq]at h;subst h;exact ha.1
  ·split at h
   ·exact Tr.look_ok ha.2.1 h
   ·exact Tr.look_ok ha.2.2 h
def ekOf(P:Program)(t:TypeId):Option EK :=
 match P.underlying t with
 |some (.int k)=>some (.int k)
 |some .bool=>some .bool
 |some .string=>some .string
 |_=>none
def Apv(P:Program):Nat→List Field→Option (List EK)
 |_,[]=>some []
 |i,f::fs=>match ekOf P f.type,Apv P (i+1) fs with
  |some k, some r=> if f.name ≠ "_" ∧ f.offset = i then some (k::r) else none
  |_,_=>none
def Apu{P:Program}:∀{fs:List Field} {i:Nat} {r:List EK},Apv P i fs=some r→Atw P i fs r
 |[],i,r,h=>by simp only[Apv,Option.some.injEq]at h;subst h;trivial
 |f::fs,i,r,h=>by
  simp only[Apv]at h;split at h
  ·rename_i k q hk hq;split at h
   ·rename_i hc;cases h;refine⟨hc.1,hc.2,?_,Apu hq⟩;unfold ekOf at hk;split at hk<;>first|(cases hk;assumption)|cases hk
   ·cases h
  ·cases h
def A3l(P:Program)(t:TypeId):Option (List EK) :=
 match P.underlying t with
 |some (.struct fs)=>if P.stoodInHeld t=false∧P.eqGuardType P.depth t=false then Apv P 0 fs.toList else none
 |_=>none
def A3k{P:Program}{t:TypeId}{r:List EK}(h:A3l P t=some r):EqOK P t r:=by
 unfold A3l at h;split at h
 ·rename_i fs sk;split at h
  ·rename_i hc;have hf:P.fieldsOf t=fs:=by simp[Program.fieldsOf,sk]
   exact⟨by rw[hf];exact sk,hc.1,hc.2,by rw[hf];exact Apu h⟩
  ·cases h
 ·cases h
def Agv(fn:Func):Code:=fn.body.getD .skip
def Aou{α:Type 1}:List α→Nat→Bool
 |[],_=>true
 |_::_,0=>false
 |_::l,n+1=>Aou l n
def Afl{α:Type 1}:∀{l:List α} {n:Nat},Aou l n=true→l.length≤n
 |[],_,_=>vA _
 |_::_,0,h=>by cases h
 |_::l,n+1,h=>Nat.succ_le_succ (Afl (l:=l) h)
def El{P:Program}(Γ:TyE P)(hm:P.follows .mixedOrders=true)(N:Nat){f:FuncId}{fn:Func}{c:Code}{A:List SV}{H:Obs}{R:SV}{H':Obs}(hF:Fun P f fn c){n:Nat}(lj:fn.ntmps=n)(hn:Aou A n=true)(h:∀(F:Fr) (hF:∀k,F.k0 k≠.new→k∈H.keys),Og ⟨P,Γ.toTy,F,n,Wo P fn F R H',H.keys,hF⟩ Γ N [.code c] ⟨argσ A,mkh H⟩):Sy.Spec P f A H R H' :=
 Awx Γ.toTy hF.1 hF.2 lj (Afl hn) λF hF=>run Γ hm N (h F hF)
variable {C:Cx} {k:List KI} {s:SS}
theorem Oz{all:Array Oper}{o:Oper}{rest:List Oper}{f:FuncId}{fn:Func}{c:Code}{xs:List Operand}{ts:Array TypeId}{A:List SV}{R:SV}(hs:Sy.Spec C.P f A [] R [])(hf:Fun C.P f fn c)(h:o.op=.call ⟨.value (.func f),xs.toArray,ts⟩)(hA:A=xs.map (ev s))(ar:(Cd [] A&&R.inn [])=true)(hd:Vf C.n o=true)(hw:Hd C.n all o s=some true)(hg:G C (.ops all rest::k) (s.upd o.dst ⟨R,[],[]⟩)):G C (.ops all (o::rest)::k) s:=by
 have hid:∀x:SV,x.ren (Bd [])=x:=λx=>Bj x
 have lm:∀x:List SV,K0 (Bd []) x=x:=λx=>Jm x
 have:=Ad (s:=s) (o:=o) [] h hf hs (by rw[lm];exact hA) trivial (by simp_all[L6,Wu,Akg,Obs.keys]) trivial;rw[hid]at this;exact Af this hd hw hg
theorem A31{all:Array Oper}{done:List Stp}{o:Oper}{rest:List Oper}{f:FuncId}{fn:Func}{c:Code}{xs:List Operand}{ts:Array TypeId}{A:List SV}{R:SV}(hs:Sy.Spec C.P f A [] R [])(hf:Fun C.P f fn c)(h:o.op=.call ⟨.value (.func f),xs.toArray,ts⟩)(hA:A=xs.map (ev s))(ar:(Cd [] A&&R.inn [])=true)(hi:all[done.length]? = some o)(hw:Hd C.n all o s=some true)(hg:DR C k all (done++[⟨done.length,o,⟨R,[],[]⟩,true⟩]) rest (s.upd o.dst ⟨R,[],[]⟩)):DR C k all done (o::rest) s:=by
 have hid:∀x:SV,x.ren (Bd [])=x:=λx=>Bj x
 have lm:∀x:List SV,K0 (Bd []) x=x:=λx=>Jm x
 have:=Ad (s:=s) (o:=o) [] h hf hs (by rw[lm];exact hA) trivial (by simp_all[L6,Wu,Akg,Obs.keys]) trivial;rw[hid]at this;exact Bw this hi hw hg (by simp[Lq,T1,h])
theorem Aqe{all:Array Oper}{o:Oper}{rest:List Oper}(V:List Nat){f:FuncId}{fn:Func}{c:Code}{xs:List Operand}{ts:Array TypeId}{A:List SV}{R:SV}(hs:Sy.Spec C.P f A [] R [])(hf:Fun C.P f fn c)(h:o.op=.call ⟨.value (.func f),xs.toArray,ts⟩)(hA:VwL s V (xs.map (ev s)) A)(ar:(Cd [] A&&R.plain)=true)(hd:Vf C.n o=true)(hw:Hd C.n all o s=some true)(hg:G C (.ops all rest::k) (s.upd o.dst ⟨R,V,[]⟩)):G C (.ops all (o::rest)::k) s:=by
 simp only[zE]at ar;exact Af (Iu V h hf hs hA ar.1 ar.2) hd hw hg
def H3(P:Program)(f:FuncId)(A:List SV)(R:SV):Prop:=(∃fn c,Fun P f fn c)∧Sy.Spec P f A [] R []
theorem call0E{all:Array Oper}{o:Oper}{rest:List Oper}{f:FuncId}{B A:List SV}{R:SV}(hE:Tm C.P o s [] f B)(hs:Sy.Spec C.P f A [] R [])(hA:A=B)(ar:(Cd [] A&&R.inn [])=true)(hd:Vf C.n o=true)(hw:Hd C.n all o s=some true)(hg:G C (.ops all rest::k) (s.upd o.dst ⟨R,[],[]⟩)):G C (.ops all (o::rest)::k) s:=by
 have hid:∀x:SV,x.ren (Bd [])=x:=λx=>Bj x
 have lm:∀x:List SV,K0 (Bd []) x=x:=λx=>Jm x
 have:=Ap (s:=s) (o:=o) [] hE hs (by rw[lm];exact hA) trivial (by simp_all[L6,Wu,Akg,Obs.keys]) trivial;rw[hid]at this;exact Af this hd hw hg
theorem D8{all:Array Oper}{o:Oper}{rest:List Oper}{f:FuncId}{x:Operand}{xs:List Operand}{ts:Array TypeId}{first cap A:List SV}{R:SV}(hs:H3 C.P f A R)(h:o.op=.call ⟨.value x,xs.toArray,ts⟩)(hx:ev s x=.clo (.func f) first cap)(hA:A=first++xs.map (ev s)++cap)(ar:(Cd [] A&&R.inn [])=true)(hd:Vf C.n o=true)(hw:Hd C.n all o s=some true)(hg:G C (.ops all rest::k) (s.upd o.dst ⟨R,[],[]⟩)):G C (.ops all (o::rest)::k) s:=by
 obtain ⟨⟨fn,c,hf⟩,hs⟩:=hs;exact call0E (Aq h hx hf) hs hA ar hd hw hg
theorem A6d{all:Array Oper}{done:List Stp}{o:Oper}{rest:List Oper}{f:FuncId}{B A:List SV}{R:SV}(hE:Tm C.P o s [] f B)(hn:(Lq o||T1 o)=false)(hs:Sy.Spec C.P f A [] R [])(hA:A=B)(ar:(Cd [] A&&R.inn [])=true)(hi:all[done.length]? = some o)(hw:Hd C.n all o s=some true)(hg:DR C k all (done++[⟨done.length,o,⟨R,[],[]⟩,true⟩]) rest (s.upd o.dst ⟨R,[],[]⟩)):DR C k all done (o::rest) s:=by
 have hid:∀x:SV,x.ren (Bd [])=x:=λx=>Bj x
 have lm:∀x:List SV,K0 (Bd []) x=x:=λx=>Jm x
 have:=Ap (s:=s) (o:=o) [] hE hs (by rw[lm];exact hA) trivial (by simp_all[L6,Wu,Akg,Obs.keys]) trivial;rw[hid]at this;exact Bw this hi hw hg hn
theorem Aud{all:Array Oper}{done:List Stp}{o:Oper}{rest:List Oper}{f:FuncId}{x:Operand}{xs:List Operand}{ts:Array TypeId}{first cap A:List SV}{R:SV}(hs:H3 C.P f A R)(h:o.op=.call ⟨.value x,xs.toArray,ts⟩)(hx:ev s x=.clo (.func f) first cap)(hA:A=first++xs.map (ev s)++cap)(ar:(Cd [] A&&R.inn [])=true)(hi:all[done.length]? = some o)(hw:Hd C.n all o s=some true)(hg:DR C k all (done++[⟨done.length,o,⟨R,[],[]⟩,true⟩]) rest (s.upd o.dst ⟨R,[],[]⟩)):DR C k all done (o::rest) s:=by
 obtain ⟨⟨fn,c,hf⟩,hs⟩:=hs;exact A6d (Aq h hx hf) (by simp[Lq,T1,h]) hs hA ar hi hw hg
theorem A30{all:Array Oper}{done:List Stp}{o:Oper}{rest:List Oper}(V:List Nat){f:FuncId}{fn:Func}{c:Code}{xs:List Operand}{ts:Array TypeId}{A:List SV}{R:SV}(hs:Sy.Spec C.P f A [] R [])(hf:Fun C.P f fn c)(h:o.op=.call ⟨.value (.func f),xs.toArray,ts⟩)(hA:VwL s V (xs.map (ev s)) A)(ar:(Cd [] A&&R.plain)=true)(hi:all[done.length]? = some o)(hw:Hd C.n all o s=some true)(hg:DR C k all (done++[⟨done.length,o,⟨R,V,[]⟩,true⟩]) rest (s.upd o.dst ⟨R,V,[]⟩)):DR C k all done (o::rest) s:=by
 simp only[zE]at ar;exact Bw (Iu V h hf hs hA ar.1 ar.2) hi hw hg (by simp[Lq,T1,h])
theorem Ay8{P:Program}(w:World)(dT sT ty elem:TypeId)(d a:Option Addr)(ln u6 lp u7:Nat){i:TypeInfo}(hu:P.underlying dT=some (.slice elem))(hq:P.info? elem=some i)(_hi:i.size=1)(hn:min lp ln=0):(Builtin.copy_ #[dT,sT] ty #[.slice d ln u6,.slice a lp u7]).run P w=.ok (.int .i64 0) w:=by
 have hl:∀(x:Addr),(loadCells x 0).run P w=.ok #[] w:=λx=>by simpa using run_loadCells_list (P:=P) w x [] y_
 have lj:Nat.min lp ln=0:=hn;cases d<;>cases a<;>simp[Builtin.copy_,run_underlying hu,Builtin.lenOf,Builtin.firstCells,sizeOf,typeInfo,hq,lj,storeCells,hl]<;>rfl
theorem Aju{P:Program}(w w':World)(dT sT ty elem:TypeId)(d a:Addr)(ln u6 lp u7:Nat){i:TypeInfo}(cs:List Value)(hu:P.underlying dT=some (.slice elem))(hq:P.info? elem=some i)(hi:i.size=1)(hn:cs.length=min lp ln)(jr:∀j v,cs[j]? = some v→w.cell? (a.add j)=some v)(cn:(storeCells d cs 0).run P w=.ok () w'):(Builtin.copy_ #[dT,sT] ty #[.slice (some d) ln u6,.slice (some a) lp u7]).run P w=.ok (.int .i64 cs.length) w':=by
 have hl:=run_loadCells_list (P:=P) w a cs jr;have lj:cs.length=Nat.min lp ln:=hn;simp[Builtin.copy_,run_underlying hu,Builtin.lenOf,Builtin.firstCells,sizeOf,typeInfo,hq,hi,←lj,hl,cn];rfl
theorem Aba{P:Program}(Γ:Ty P){o:Oper}{s:SS}{t:TypeId}{ti:TI}{et:TypeId}{eb k:Nat}{ez:List Value}{x y:Operand}{ks:List Nat}{α:Type}{e:α→SV}{l m:List α}(h:o.op=.call ⟨.builtin .copy,#[x,y],#[t,t]⟩)(ht:Γ.get t=some ti)(hk:ti.k=.slice et 1 eb ez)(hx:ev s x=.osl k)(ho':s.h k=.row 1 e l)(hs:AppSrc s 1 (ev s y) ks m.length (rowF e m)):Good P o s ⟨.val (.int .i64 (min m.length l.length:Nat)),ks,[(k,.row 1 e (m.take l.length++l.drop m.length))]⟩:=by
 intro κ a w hi hr ho N Q hN;have h1:=hr x (by simp[h,Op.operands,Call.operands]);have h2:=hr y (by simp[h,Op.operands,Call.operands]);have h3:=ho k (.inr (by simp[Up.ws]));rw[ho']at h3;obtain ⟨hu,i,z,q1,q2,q3,q4,q5⟩:=Cq Γ ht hk;have jr:=hs.src h2 (λj hj=>ho j (.inl hj));have hlen:∃ad cap,a.eval x=.slice ad l.length cap∧(l≠[]→∃b c,κ k=.row b l.length c∧ad=some ⟨b,0,none⟩):=by
  have:=Ob.len_ok (ob:=.row 1 e l) (n:=l.length) rfl h3 (v:=a.eval x) (by rw[←hx];exact h1);obtain ⟨ad,cap,e1,e2⟩:=this;exact⟨ad,cap,e1,λhl=>e2 (by simpa using hl)⟩
 obtain ⟨ad,cap,e1,e2⟩:=hlen;by_cases hz:min m.length l.length=0
 ·have j8:m.take l.length++l.drop m.length=l:=by
   rcases uB m.length with h0|h0
   ·have:m=[]:=wW.1 h0;subst this;simp
   ·have:l=[]:=wW.1 q_;subst this;simp
  have mw:∃a' c',a.eval y=.slice a' m.length c':=by
   rcases jr with ⟨h0,_,a',c',h4⟩|⟨b,off,c',news,h4,_⟩
   ·exact⟨a',c',by rw[h4,h0]⟩
   ·exact⟨_,_,h4⟩
  obtain ⟨a',c',h4⟩:=mw;have au:(execOp a.eval o).run P w=.ok (.value (.int .i64 (min m.length l.length:Nat))) w:=by
   have:=Ay8 (P:=P) w t t o.type et ad a' l.length cap m.length c' hu q1 q2 hz;rw[hz];simp[execOp,h,resolve,invoke,builtin,e1,h4,this]
  simp only[Oper.wp,au,Oper.upon];refine hN _ κ w ((Jr [] κ hi).1.weaken y_) hi (by simp[Rd]) (λp hp=>?_);simp only[yB]at hp;subst hp;rw[j8];exact h3
 ·have hl:l≠[]:=by rintro rfl;simp at hz
  have h4:=h3.rowAt hl;obtain ⟨b,dx,cs,T,fr,f1,f2,f3,f4,f5,f6⟩:=h4;obtain ⟨b',c',g1,g2⟩:=e2 hl;rw[f1]at g1;cases g1;rcases jr with ⟨h0,_⟩|⟨b2,off,c2,news,g3,g4,g5,g6,g7⟩
  ·simp[h0]at hz
  ·have hn:(news.take (min m.length l.length)).length=min m.length l.length:=by simp;omega
   obtain ⟨w',k1,k2,k3,k4,k5,k6,k7⟩:=De P b 0 T fr (news.take (min m.length l.length)) 0 cs w f2 f3 (by rw[hn];omega) (λ v hv=>g5 v (wQ hv));have hc:=Aju (P:=P) w w' t t o.type et ⟨b,0,none⟩ ⟨b2,off,none⟩ l.length cap m.length c2 (news.take (min m.length l.length)) hu q1 q2 hn (λ j v hv=>by
    rw[Addr.add_lit];refine g6 j v ?_;rw[vN]at hv;split at hv
    ·exact hv
    ·cases hv) k1
   rw[hn]at hc;have au:(execOp a.eval o).run P w=.ok (.value (.int .i64 (min m.length l.length:Nat))) w':=by
    subst g2;simp[execOp,h,resolve,invoke,builtin,e1,g3,hc]
   simp only[Oper.wp,au,Oper.upon];obtain ⟨st,inv⟩:=Sd hi (k:=k) (b:=b) (by rw[f1];rfl) k3 k4 k5 k6 k7;refine hN _ κ w' (st.weaken (by simp[Up.ws])) inv (by simp[Rd]) (λp hp=>?_);simp only[yB]at hp;subst hp;have jy:(m.take l.length++l.drop m.length).length=l.length:=by simp;omega
   refine .inr ⟨b,dx,_,T,fr,by rw[jy];exact f1,k2,by rw[Cg];exact f3,by rw[Cg];exact f4,by rw[jy];exact f5,?_⟩;rintro j x ⟨hj,rfl⟩;rw[jy]at hj;refine⟨by rw[jy];exact hj,?_⟩;have a7:=Mp cs (news.take (min m.length l.length)) 0;by_cases x6:j<m.length
   ·obtain ⟨_,u,u1,u2,u3,u4⟩:=g7 j (e m[j]) ⟨x6,rfl⟩;refine⟨u,?_,u2,u3,λi hi'=>?_⟩
    ·have:(m.take l.length++l.drop m.length)[j]=m[j]:=by
      rw[yT (by simp;omega),wA]
     rw[this];exact RdD.keep st.keeps _ _ u1
    ·have dp:i=0:=by omega
     subst dp;simp only[Nat.mul_one,Nat.add_zero]at u4⊢;rw[a7 _ q_,zG q_,vN,zG q_];have:=u4 0 q_;simpa using this
   ·obtain ⟨_,u,u1,u2,u3,u4⟩:=f6 j (e l[j]) ⟨hj,rfl⟩;refine⟨u,?_,u2,u3,λi hi'=>?_⟩
    ·have:(m.take l.length++l.drop m.length)[j]'(by rw[jy];exact hj)=l[j]:=by
      rw[xP (by simp;omega),vT];congr 1;simp;omega
     rw[this];exact RdD.keep st.keeps _ _ u1
    ·have dp:i=0:=by omega
     subst dp;simp only[Nat.mul_one,Nat.add_zero]at u4⊢;rw[a7 _ q_,zD q_];have:=u4 0 q_;simpa using this
def Aqu(C:Cx)(n:Nat)(L:Nat→List (Nat×SV))(O:Nat→Obs)(i:Nat)(a:Act)(w:World):Prop :=
 ∃x':{j:Nat // j≤n},∃κ,n-x'.1<n-i∧St C.F C.n (mkS (L x'.1) (O x'.1)) κ a w
theorem A5{C:Cx}{k:List KI}{s:SS}{body:Code}(n:Nat)(L:Nat→List (Nat×SV))(O:Nat→Obs)(ρ:List (Nat×Nat))(bc:Sub C s ρ (L 0) (O 0))(h:∀i,i≤n→G C (.code body::.inv (Aqu C n L O i)::k) (mkS (L i) (O i))):G C (.code (.loop body)::k) s :=
 Vr (α:={j:Nat // j≤n}) (λx=>L x.1) (λx=>O x.1) (λx=>n-x.1) ⟨0,vA _⟩ ρ bc (λx=>h x.1 x.2)
theorem Ay{C:Cx}{k:List KI}{s:SS}{n:Nat}{L:Nat→List (Nat×SV)}{O:Nat→Obs}{i:Nat}(ρ:List (Nat×Nat))(hi:i+1≤n)(bc:Sub C s ρ (L (i+1)) (O (i+1))):G C (.inv (Aqu C n L O i)::k) s :=
 Xk (α:={j:Nat // j≤n}) (L:=λx=>L x.1) (O:=λx=>O x.1) (μ:=λx=>n-x.1) (x:=⟨i,by omega⟩) ⟨i+1,hi⟩ ρ (by simp only;omega) bc
inductive SrcT{α:Type}(s:SS)(sz:Nat)(e:α→SV):SV→List Nat→List α→Prop
 |sl {l:List α}:SrcT s sz e (.sl sz e l) [] l
 |row {k:Nat} {l:List α} (h:s.h k=.row sz e l):SrcT s sz e (.osl k) [k] l
 |lit {k:Nat} {l:List α} {svs:List SV} (h:s.h k=.lit sz svs) (hl:l.map e=svs):SrcT s sz e (.osl k) [k] l
 |nil:SrcT s sz e (.val (.slice none 0 0)) [] []
inductive BaseT{α:Type}(s:SS)(sz:Nat)(e:α→SV):SV→Option Nat→List α→Prop
 |nil:BaseT s sz e (.val (.slice none 0 0)) none []
 |row {k:Nat} {l:List α} (h:s.h k=.row sz e l):BaseT s sz e (.osl k) (some k) l
 |lit {k:Nat} {l:List α} {svs:List SV} (h:s.h k=.lit sz svs) (hl:l.map e=svs):BaseT s sz e (.osl k) (some k) l
theorem SrcT.src{α:Type}{s:SS}{sz:Nat}{e:α→SV}{x:SV}{ks:List Nat}{m:List α}(h:SrcT s sz e x ks m):∃g,AppSrc s sz x ks m.length g∧∀i x,rowF e m i x→g i x:=by
 cases h with
 |sl=>exact⟨_,.sl,λ_ _ h=>h⟩
 |row h=>exact⟨_,.row h,λ_ _ h=>h⟩
 | @lit k _ svs h hl=>exact⟨Ahm svs,by have:=AppSrc.lit (sz:=sz) h;rwa [←hl,xF,hl]at this,λi x hx=>Qm hl i x hx⟩
 |nil=>exact⟨_,.nil,λi x hx=>by obtain ⟨h,_⟩:=hx;simp at h⟩
theorem BaseT.base{α:Type}{s:SS}{sz:Nat}{e:α→SV}{x:SV}{k:Option Nat}{m:List α}(h:BaseT s sz e x k m):∃g,AppBase s sz x k m.length g∧∀i x,rowF e m i x→g i x:=by
 cases h with
 |row h=>exact⟨_,.row h,λ_ _ h=>h⟩
 | @lit k _ svs h hl=>exact⟨Ahm svs,by have:=AppBase.lit (sz:=sz) h;rwa [←hl,xF,hl]at this,λi x hx=>Qm hl i x hx⟩
 |nil=>exact⟨_,.nil,λi x hx=>by obtain ⟨h,_⟩:=hx;simp at h⟩
theorem Ag{P:Program}(Γ:Ty P){o:Oper}{s:SS}(d:Nat){α:Type}{e:α→SV}{l m:List α}{t:TypeId}{ti:TI}{et:TypeId}{sz eb:Nat}{ez:List Value}{x y:Operand}{k:Option Nat}{ks:List Nat}(h:o.op=.call ⟨.builtin .append,#[x,y],#[t,t]⟩)(hd:s.h d=.fresh)(ht:Γ.get t=some ti)(hk:ti.k=.slice et sz eb ez)(nu:ez.length=sz)(hb:BaseT s sz e (ev s x) k l)(hs:SrcT s sz e (ev s y) ks m)(m9:∀j,k=some j→j≠d)(cx:(l.length+m.length)*eb≤140737488355328)(rf:l.length+m.length≤9223372036854775807):Good P o s ⟨.osl d,ks,Tj k d (.row sz e (l++m))⟩:=by
 obtain ⟨f,hb,hf⟩:=hb.base;obtain ⟨g,hs,hg⟩:=hs.src;exact Acr Γ h hd ht hk nu hb hs m9 cx rf λκ w hr=>A37 hr y_ (A0x hf hg)
theorem Kn{P:Program}(Γ:Ty P){o:Oper}{s:SS}{src dst:TypeId}{si di ei:TI}{x:Operand}{et:TypeId}{eb:Nat}{ez:List Value}{ks:List Nat}{bs:List UInt8}(h:o.op=.convert src dst x)(hs:Γ.get src=some si)(hsk:si.k=.slice et 1 eb ez)(he:Γ.get et=some ei)(hek:ei.k=.int .u8)(hd:Γ.get dst=some di)(yc:di.k=.string)(hx:SrcT s 1 Al (ev s x) ks bs):Good P o s ⟨Aw ⟨bs.toArray⟩,ks,[]⟩:=by
 obtain ⟨g,hx,hg⟩:=hx.src;exact Zv Γ bs h hs hsk he hek hd yc hx E (λi hi=>hg i _ ⟨hi,E⟩)
theorem Aup{C:Cx}{kk:List KI}{s:SS}(k d:Nat)(r:List Nat){sz:Nat}{α:Type}{e:α→SV}{l:List α}(h:s.h k=.row sz e l)(hd:s.h d=.fresh)(ck:k≠d)(hr:∀i∈r,s.σ i=.osl k)(hg:G C kk ⟨freezeσ s.σ (.osl d) r,upd (upd s.h k .non) d (.row sz e l)⟩):G C kk s:=λκ a w hs=>by
 have cj:=hs.obj k;rw[h]at cj;have a6:κ d=.new:=by have:=hs.obj d;rwa [hd]at this
 have fin:∀κ':Ka,Step (λj=>j=k∨j=d) κ w κ' w→Inv κ' w→(∀v,Rd κ w (.osl k) v→Rd κ' w (.osl d) v)→ObOK κ' w d (.row sz e l)→den C.P C.B kk .normal a w:=by
  intro κ' st inv hv ho;refine hg κ' a w ⟨hs.defers,hs.size,inv,hs.ctx.step inv st,λj=>?_,λj=>?_⟩
  ·refine freezeσ_ok r _ j (Rd.step st _ _ (hs.slot j)) (λhj=>hv _ ?_);have:=hs.slot j;rwa [hr j hj]at this
  ·show ObOK _ w j (upd (upd s.h k .non) d (.row sz e l) j);by_cases hj:j=d
   ·subst hj;rw[B1];exact ho
   ·rw[Cp _ _ hj];by_cases an:j=k
    ·subst an;rw[B1];trivial
    ·rw[Cp _ _ an];exact ObOK.step st (λe=>e.elim an hj) _ (hs.obj j)
 rcases cj with ⟨h1,rfl⟩|⟨b,cap,cs,T,fr,e1,e2,e3,e4,e5,e6⟩
 ·have st:=J9 (Lr hs.inv (some k)) (by show Ec κ k .dead d=.new;rw[B8 _ _ (Ne.symm ck)];exact a6) (e:=.nil) (Grew.refl w) (λb hb=>by cases hb);refine fin _ (((Ju (some k)).weaken (λj hj=>.inl (Option.some.inj hj).symm)).trans (st.1.weaken (λj hj=>.inr hj))) st.2 (λv hv=>?_) (.inl ⟨Az _ _ _,E⟩);simp only[Rd,h1]at hv;simp[Rd,Az,hv]
 ·obtain ⟨st,inv⟩:=Qk (n':=l.length) (w':=w) hs.inv e1 a6 rfl rfl rfl rfl (λ_ _=>rfl);refine fin _ st inv (λv hv=>?_) (.inr ⟨b,cap,cs,T,fr,Az _ _ _,e2,e3,e4,e5,λi x hx=>?_⟩)
  ·simp only[Rd,e1]at hv;simp[Rd,Az,hv]
  ·obtain ⟨q1,u,q2,q3⟩:=e6 i x hx;exact⟨q1,u,RdD.keep st.keeps _ _ q2,q3⟩
mutual
def frz(d:Nat)(x:SV):SV→SV
 | .osl k=>bif Nat.beq k d then x else .osl k
 | .agg l=>.agg (Af4 d x l)
 | .tup l=>.tup (Af4 d x l)
 | .ifc t y=>.ifc t (frz d x y)
 | .clo f g l=>.clo f (Af4 d x g) (Af4 d x l)
 |y=>y
def Af4(d:Nat)(x:SV):List SV→List SV
 |[]=>[]
 |y::l=>frz d x y::Af4 d x l
end
mutual
theorem Alh{κ κ':Ka}{w:World}{K:Nat→Prop}{d:Nat}{x:SV}(st:Step K κ w κ' w)(hx:∀v,Rd κ w (.osl d) v→Rd κ' w x v):∀(y:SV) (v:Value),Rd κ w y v→Rd κ' w (frz d x y) v
 | .osl k,v,h=>by
  unfold frz;by_cases hk:k=d
  ·subst hk;rw[show Nat.beq k k=true from tL k];exact hx v h
  ·rw[show Nat.beq k d=false from by cases hb:Nat.beq k d with|false=>rfl|true=>exact zY (yK hb) hk];exact Rd.step st _ _ h
 | .agg l,v,h=>by
  simp only[Rd]at h;unfold frz;simp only[Rd];obtain ⟨cs,h1,h2,h3⟩:=h;exact⟨cs,h1,h2,Kr st hx l cs h3⟩
 | .tup l,v,h=>by
  simp only[Rd]at h;unfold frz;simp only[Rd];obtain ⟨cs,h1,h3⟩:=h;exact⟨cs,h1,Kr st hx l cs h3⟩
 | .ifc t y,v,h=>by
  simp only[Rd]at h;unfold frz;simp only[Rd];obtain ⟨u,h1,h3⟩:=h;exact⟨u,h1,Alh st hx y u h3⟩
 | .clo f g l,v,h=>by
  simp only[Rd]at h;unfold frz;simp only[Rd];obtain ⟨fs,cs,h1,h2,h3⟩:=h;exact⟨fs,cs,h1,Kr st hx g fs h2,Kr st hx l cs h3⟩
 | .top,v,h=>by unfold frz;exact Rd.step st _ _ h
 | .val u,v,h=>by unfold frz;exact Rd.step st _ _ h
 | .sl sz e l,v,h=>by unfold frz;exact Rd.step st _ _ h
 | .ref sz z o,v,h=>by unfold frz;exact Rd.step st _ _ h
 | .ptr k o,v,h=>by unfold frz;exact Rd.step st _ _ h
 | .rpt k sz i o,v,h=>by unfold frz;exact Rd.step st _ _ h
theorem Kr{κ κ':Ka}{w:World}{K:Nat→Prop}{d:Nat}{x:SV}(st:Step K κ w κ' w)(hx:∀v,Rd κ w (.osl d) v→Rd κ' w x v):∀(l:List SV) (vs:List Value),RdL κ w l vs→RdL κ' w (Af4 d x l) vs
 |[],vs,h=>by
  unfold Af4;simpa [RdL] using h
 |y::l,vs,h=>by
  simp only[RdL]at h;unfold Af4;simp only[RdL];obtain ⟨v,r,h1,h2,h3⟩:=h;exact⟨v,r,h1,Alh st hx y v h2,Kr st hx l r h3⟩
end
def Ayv(d:Nat)(x:SV):Ob→Ob
 | .box l=>.box (Af4 d x l)
 | .rown sz e l i cl=>.rown sz e l i (Af4 d x cl)
 | .tbox T l=>.tbox T (Af4 d x l)
 |o=>o
def Aj{C:Cx}{k:List KI}{s:SS}(d:Nat){sz:Nat}{α:Type}{e:α→SV}{l:List α}(h:s.h d=.row sz e l)(hg:G C k ⟨λi=>frz d (.sl sz e l) (s.σ i),λj=>bif Nat.beq j d then .non else Ayv d (.sl sz e l) (s.h j)⟩):G C k s:=λκ a w hs=>by
 have cj:=hs.obj d;rw[h]at cj;have st:=Ju (κ:=κ) (w:=w) (some d);have inv:=Lr hs.inv (some d);have hx:∀v,Rd κ w (.osl d) v→Rd (Ec κ d .dead) w (.sl sz e l) v:=λv hv=>by
  rcases cj with ⟨h1,rfl⟩|h1
  ·simp only[Rd,h1]at hv;simp only[Rd,RdD];exact .inl ⟨by simp,none,0,hv⟩
  ·refine h1.freeze hv st.keeps.out (λb hb=>⟨hs.inv.bnd d b hb,?_⟩);rintro (⟨q,hq⟩|hq)
   ·by_cases qq:q=d
    ·subst qq;rw[Az]at hq;cases hq
    ·rw[B8 _ _ qq]at hq;exact qq (hs.inv.inj q d b hq hb)
   ·exact hs.inv.apart d b hb hq
 refine hg (Ec κ d .dead) a w ⟨hs.defers,hs.size,inv,hs.ctx.step inv st,λj=>Alh st hx _ _ (hs.slot j),λj=>?_⟩;show ObOK _ w j (bif Nat.beq j d then .non else Ayv d (.sl sz e l) (s.h j));by_cases hj:j=d
 ·subst hj;rw[show Nat.beq j j=true from tL j];trivial
 ·rw[show Nat.beq j d=false from by cases hb:Nat.beq j d with|false=>rfl|true=>exact zY (yK hb) hj];have hb:=ObOK.step st (λe=>hj (Option.some.inj e).symm) _ (hs.obj j);have h0:=hs.obj j;show ObOK _ w j (Ayv d (.sl sz e l) (s.h j));cases hh:s.h j with
  |box m=>
   rw[hh]at h0 hb;obtain ⟨b,cs,T,fr,e1,e2,e3,e4,e5⟩:=h0;exact⟨b,cs,T,fr,by show Ec κ d .dead j=_;rw[B8 _ _ hj];exact e1,e2,e3,e4,Kr st hx m cs e5⟩
  |tbox T m=>
   rw[hh]at h0 hb;obtain ⟨b,cs,fr,e1,e2,e3,e4,e5⟩:=h0;exact⟨b,cs,fr,by show Ec κ d .dead j=_;rw[B8 _ _ hj];exact e1,e2,e3,e4,Kr st hx m cs e5⟩
  |fresh=>rw[hh]at hb;exact hb
  |non=>rw[hh]at hb;exact hb
  |row dz e' l'=>rw[hh]at hb;exact hb
  |lit dz svs=>rw[hh]at hb;exact hb
  |glob dz x' g'=>rw[hh]at hb;exact hb
  |pin b' n' dx dz e' l'=>rw[hh]at hb;exact hb
  |dat v' dz e' l'=>rw[hh]at hb;exact hb
  |trow T' m'=>rw[hh]at hb;exact hb
  |rown dz e' l' i' xd=>
   rw[hh]at h0;obtain ⟨b2,ri,vk,T2,xc,f1,f2,f3,f4,f5,f6,f7,yl,v1,v2,v3,v4⟩:=h0;refine⟨b2,ri,vk,T2,xc,by show Ec κ d .dead j=_;rw[B8 _ _ hj];exact f1,f2,f3,f4,f5,λm y hm hy=>?_,f7,yl,v1,v2,Kr st hx xd yl v3,v4⟩;obtain ⟨g0,u,g1,g2⟩:=f6 m y hm hy;exact⟨g0,u,RdD.keep st.keeps _ _ g1,g2⟩
def Aj7(C:Cx)(n:Nat)(I:Nat→Prop)(L:Nat→List (Nat×SV))(O:Nat→Obs)(i:Nat)(a:Act)(w:World):Prop :=
 ∃x':{j:Nat // j≤n∧I j},∃κ,n-x'.1<n-i∧St C.F C.n (mkS (L x'.1) (O x'.1)) κ a w
def A9{C:Cx}{k:List KI}{s:SS}{body:Code}(n:Nat)(I:Nat→Prop)(L:Nat→List (Nat×SV))(O:Nat→Obs)(ρ:List (Nat×Nat))(h0:I 0)(bc:Sub C s ρ (L 0) (O 0))(h:∀i,i≤n→I i→G C (.code body::.inv (Aj7 C n I L O i)::k) (mkS (L i) (O i))):G C (.code (.loop body)::k) s :=
 Vr (α:={j:Nat // j≤n∧I j}) (λx=>L x.1) (λx=>O x.1) (λx=>n-x.1) ⟨0,vA _,h0⟩ ρ bc (λx=>h x.1 x.2.1 x.2.2)
def A8{C:Cx}{k:List KI}{s:SS}{n:Nat}{I:Nat→Prop}{L:Nat→List (Nat×SV)}{O:Nat→Obs}{i:Nat}(ρ:List (Nat×Nat))(h0:I i)(hi:i+1≤n)(h1:I (i+1))(bc:Sub C s ρ (L (i+1)) (O (i+1))):G C (.inv (Aj7 C n I L O i)::k) s :=
 Xk (α:={j:Nat // j≤n∧I j}) (L:=λx=>L x.1) (O:=λx=>O x.1) (μ:=λx=>n-x.1) (x:=⟨i,by omega,h0⟩) ⟨i+1,hi,h1⟩ ρ (by simp only;omega) bc
mutual
def frb(d sz:Nat)(x:SV):SV→SV
 | .ptr k o=>bif Nat.beq k d then .ref sz x o else .ptr k o
 | .agg l=>.agg (Ali d sz x l)
 | .tup l=>.tup (Ali d sz x l)
 | .ifc t y=>.ifc t (frb d sz x y)
 | .clo f g l=>.clo f (Ali d sz x g) (Ali d sz x l)
 |y=>y
def Ali(d sz:Nat)(x:SV):List SV→List SV
 |[]=>[]
 |y::l=>frb d sz x y::Ali d sz x l
end
mutual
theorem Atp{κ κ':Ka}{w:World}{K:Nat→Prop}{d sz:Nat}{x:SV}(st:Step K κ w κ' w)(hx:∀o v,Rd κ w (.ptr d o) v→Rd κ' w (.ref sz x o) v):∀(y:SV) (v:Value),Rd κ w y v→Rd κ' w (frb d sz x y) v
 | .ptr k o,v,h=>by
  unfold frb;by_cases hk:k=d
  ·subst hk;rw[show Nat.beq k k=true from tL k];exact hx o v h
  ·rw[show Nat.beq k d=false from by cases hb:Nat.beq k d with|false=>rfl|true=>exact zY (yK hb) hk];exact Rd.step st _ _ h
 | .agg l,v,h=>by
  simp only[Rd]at h;unfold frb;simp only[Rd];obtain ⟨cs,h1,h2,h3⟩:=h;exact⟨cs,h1,h2,V8 st hx l cs h3⟩
 | .tup l,v,h=>by
  simp only[Rd]at h;unfold frb;simp only[Rd];obtain ⟨cs,h1,h3⟩:=h;exact⟨cs,h1,V8 st hx l cs h3⟩
 | .ifc t y,v,h=>by
  simp only[Rd]at h;unfold frb;simp only[Rd];obtain ⟨u,h1,h3⟩:=h;exact⟨u,h1,Atp st hx y u h3⟩
 | .clo f g l,v,h=>by
  simp only[Rd]at h;unfold frb;simp only[Rd];obtain ⟨fs,cs,h1,h2,h3⟩:=h;exact⟨fs,cs,h1,V8 st hx g fs h2,V8 st hx l cs h3⟩
 | .top,v,h=>by unfold frb;exact Rd.step st _ _ h
 | .val u,v,h=>by unfold frb;exact Rd.step st _ _ h
 | .sl sz e l,v,h=>by unfold frb;exact Rd.step st _ _ h
 | .ref sz z o,v,h=>by unfold frb;exact Rd.step st _ _ h
 | .rpt k sz i o,v,h=>by unfold frb;exact Rd.step st _ _ h
 | .osl k,v,h=>by unfold frb;exact Rd.step st _ _ h
theorem V8{κ κ':Ka}{w:World}{K:Nat→Prop}{d sz:Nat}{x:SV}(st:Step K κ w κ' w)(hx:∀o v,Rd κ w (.ptr d o) v→Rd κ' w (.ref sz x o) v):∀(l:List SV) (vs:List Value),RdL κ w l vs→RdL κ' w (Ali d sz x l) vs
 |[],vs,h=>by
  unfold Ali;simpa [RdL] using h
 |y::l,vs,h=>by
  simp only[RdL]at h;unfold Ali;simp only[RdL];obtain ⟨v,r,h1,h2,h3⟩:=h;exact⟨v,r,h1,Atp st hx y v h2,V8 st hx l r h3⟩
end
def frbO(d sz:Nat)(x:SV):Ob→Ob
 | .box l=>.box (Ali d sz x l)
 |o=>o
def Aue{κ κ':Ka}{w:World}{d sz:Nat}{l:List SV}{x:SV}(h:ObOK κ w d (.box l))(hl:cellsOf x=l)(hb:x.boxed=true)(_hd:Q5 l=true)(bg:l.length=sz)(ho:∀b,b<w.heap.size→¬Own κ b→¬Own κ' b)(pn:∀b,(κ d).block? = some b→b<w.heap.size∧¬Own κ' b)(xx:x.data=true)(o:Nat)(v:Value)(hv:Rd κ w (.ptr d o) v):Rd κ' w (.ref sz x o) v:=by
 obtain ⟨b,cs,T,fr,e1,e2,e3,e4,e5⟩:=h;simp only[Rd,e1]at hv;obtain ⟨h1,h2⟩:=pn b (by rw[e1];rfl);rw[←hl]at e5;obtain ⟨u,f1,f2⟩:=Rd.of_cells hb e4 e5;simp only[Rd,RdD];refine⟨b,0,u,by rw[wE];exact hv,h2,h1,RdD.keep ⟨yG _,λ_ _ _=>rfl,ho⟩ _ _ (Rd.data _ _ xx f1),?_,by rw[f2];exact e4,λj hj=>?_⟩
 ·have:=e5.length;rw[←bg,←hl,←this,←f2];simp
 ·rw[wE,cell_of_row w b _ cs.toArray T fr e2,←f2]
def Bf{C:Cx}{k:List KI}{s:SS}(d sz:Nat)(x:SV){l:List SV}(h:s.h d=.box l)(hl:cellsOf x=l)(hc:(x.boxed&&x.data&&Q5 l&&Nat.beq l.length sz)=true)(hg:G C k ⟨λi=>frb d sz x (s.σ i),λj=>bif Nat.beq j d then .non else frbO d sz x (s.h j)⟩):G C k s:=λκ a w hs=>by
 simp only[zE]at hc;obtain ⟨⟨⟨hb,xx⟩,hd⟩,bg⟩:=hc;have bg:=yK bg;have cj:=hs.obj d;rw[h]at cj;have st:=Ju (κ:=κ) (w:=w) (some d);have inv:=Lr hs.inv (some d);have hx:∀o v,Rd κ w (.ptr d o) v→Rd (Ec κ d .dead) w (.ref sz x o) v:=λo v hv=>
  Aue cj hl hb hd bg st.keeps.out (λ b hb=>⟨hs.inv.bnd d b hb,by
   rintro (⟨q,hq⟩|hq)
   ·by_cases qq:q=d
    ·subst qq;change (Ec κ q .dead q).block? = some b at hq;rw[Az]at hq;cases hq
    ·change (Ec κ d .dead q).block? = some b at hq;rw[B8 _ _ qq]at hq;exact qq (hs.inv.inj q d b hq hb)
   ·exact hs.inv.apart d b hb hq⟩) xx o v hv
 refine hg (Ec κ d .dead) a w ⟨hs.defers,hs.size,inv,hs.ctx.step inv st,λj=>Atp st hx _ _ (hs.slot j),λj=>?_⟩;show ObOK _ w j (bif Nat.beq j d then .non else frbO d sz x (s.h j));by_cases hj:j=d
 ·subst hj;rw[show Nat.beq j j=true from tL j];trivial
 ·rw[show Nat.beq j d=false from by cases hb:Nat.beq j d with|false=>rfl|true=>exact zY (yK hb) hj];have hb:=ObOK.step st (λe=>hj (Option.some.inj e).symm) _ (hs.obj j);have h0:=hs.obj j;show ObOK _ w j (frbO d sz x (s.h j));cases hh:s.h j with
  |box m=>
   rw[hh]at h0 hb;obtain ⟨b,cs,T,fr,e1,e2,e3,e4,e5⟩:=h0;exact⟨b,cs,T,fr,by show Ec κ d .dead j=_;rw[B8 _ _ hj];exact e1,e2,e3,e4,V8 st hx m cs e5⟩
  |fresh=>rw[hh]at hb;exact hb
  |non=>rw[hh]at hb;exact hb
  |row dz e' l'=>rw[hh]at hb;exact hb
  |lit dz svs=>rw[hh]at hb;exact hb
  |glob dz x' g'=>rw[hh]at hb;exact hb
  |pin b' n' dx dz e' l'=>rw[hh]at hb;exact hb
  |dat v' dz e' l'=>rw[hh]at hb;exact hb
  |trow T' m'=>rw[hh]at hb;exact hb
  |rown dz e' l' i' xd=>rw[hh]at hb;exact hb
  |tbox T' m'=>rw[hh]at hb;exact hb
def Au{C:Cx}{k:List KI}{s:SS}(d sz:Nat){α:Type}(e:α→SV)(h:s.σ d=.val (.slice none 0 0))(hg:G C k ⟨upd s.σ d (.sl sz e []),s.h⟩):G C k s :=
 G_set d (λ κ w v hv=>by
  rw[h]at hv;simp only[Rd]at hv;simp only[Rd,RdD];exact .inl ⟨Y,none,0,hv⟩) hg
end Go.Sy
