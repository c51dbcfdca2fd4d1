/- Parts of a proof. -/
import Derived.Test.YtodbnbfjhjcanaaGreatDoorXA3
set_option linter.all false
namespace Go.Sy
def fv(x:SV)(K:SV->Prop):Prop :=
 match x with
 | .val v=>(match v with
  | .int k n=>K (.val (.int k n))
  | .bool b=>K (.val (.bool b))
  | .string b=>K (.val (.string b))
  | v=>K (.val v))
 | .agg l=>K (.agg l)
 | .tup l=>K (.tup l)
 | .sl sz e l=>K (.sl sz e l)
 | .ref sz x o=>K (.ref sz x o)
 | .ptr k o=>K (.ptr k o)
 | .rpt k sz i o=>K (.rpt k sz i o)
 | .osl k=>K (.osl k)
 | .ifc t x=>K (.ifc t x)
 | .clo f g l=>K (.clo f g l)
 | .top=>K .top
def dH(x:SV)(K:SV->Prop):fv x K↔K x:=by
 unfold fv;split<;>first|rfl|(split<;>rfl)
def fl(l:List SV)(K:List SV->Prop):Prop :=
 match l with
 |[]=>K []
 |x::r=>fv x λx'=>fl r λr'=>K (x'::r')
def Qy:∀(l:List SV) (K:List SV->Prop),fl l K↔K l
 |[],K=>Iff.rfl
 |x::r,K=>by unfold fl;rw[dH,Qy r]
def fa(x:SV)(K:SV->Prop):Prop :=
 match x with
 | .agg l=>fl l λl=>K (.agg l)
 | .tup l=>fl l λl=>K (.tup l)
 |x=>fv x K
def Azn(x:SV)(K:SV->Prop):fa x K↔K x:=by
 unfold fa;split
 .exact Qy _ _
 .exact Qy _ _
 .exact dH _ _
def I64(x:Int):Prop:=-9223372036854775808<=x/\x<=9223372036854775807
theorem I64.wrap{x:Int}(h:I64 x):IntKind.i64.wrap x=x:=by
 obtain ⟨h1,h2⟩:=h;rw[IntKind.wrap_i64];omega
def Ay1(op:BinOp)(k:IntKind)(a b:Int)(K:SV->Prop)(stop:Prop):Prop :=
 match op with
 | .add=>(match k with| .i64=>I64 (a+b)/\K (.val (.int .i64 (a+b)))|k=>K (.val (.int k (k.wrap (a+b)))))
 | .sub=>(match k with| .i64=>I64 (a-b)/\K (.val (.int .i64 (a-b)))|k=>K (.val (.int k (k.wrap (a-b)))))
 | .mul=>(match k with| .i64=>I64 (a*b)/\K (.val (.int .i64 (a*b)))|k=>K (.val (.int k (k.wrap (a*b)))))
 | .quo=>b≠0/\K (.val (.int k (k.wrap (a.tdiv b))))
 | .rem=>b≠0/\K (.val (.int k (a.tmod b)))
 | .and=>K (.val (.int k (bits .and k a b)))
 | .or=>K (.val (.int k (bits .or k a b)))
 | .xor=>K (.val (.int k (bits .xor k a b)))
 | .andNot=>K (.val (.int k (bits .andNot k a b)))
 | .lss=>K (.val (.bool (decide (a<b))))
 | .leq=>K (.val (.bool (decide (a<=b))))
 | .gtr=>K (.val (.bool (decide (a>b))))
 | .geq=>K (.val (.bool (decide (a>=b))))
 | .eql=>K (.val (.bool (a==b)))
 | .neq=>K (.val (.bool (a != b)))
 |_=>stop
def Af1(op:BinOp)(k:IntKind)(a b:Int)(K:SV->Prop)(stop:Prop):Prop :=
 match op with
 | .shl=>0<=b/\K (.val (.int k (k.wrap (a*2^(min b.toNat k.bits)))))
 | .shr=>0<=b/\K (.val (.int k (a.fdiv (2^(min b.toNat k.bits)))))
 |_=>stop
def A13:BinOp->Bool| .shl=>true| .shr=>true|_=>false
def Awh(op:BinOp)(a b:ByteArray)(K:SV->Prop)(stop:Prop):Prop :=
 match op with
 | .add=>a.size+b.size<=9223372036854775807/\K (.val (.string (a++b)))
 | .eql=>K (.val (.bool (a==b)))
 | .neq=>K (.val (.bool (!(a==b))))
 | .lss=>K (.val (.bool (Op.bytesLess a.toList b.toList)))
 | .gtr=>K (.val (.bool (!(Op.bytesLess a.toList b.toList||a==b))))
 |_=>stop
structure TyE(P:Program) extends Ty P where
 eqs:TypeId->Option (List EK)
 eqok:∀t ks,eqs t=some ks->EqOK P t ks
def bnd(s:SS)(x:Option Operand)(d:Int)(K:Int->Prop)(stop:Prop):Prop :=
 match x with
 |none=>K d
 | some y=>(match ev s y with
  | .val (.int _ n)=>K n
  | _=>stop)
def Bw(b:ByteArray)(i:Nat):UInt8:=b.data.toList.getD i 0
def opW{P:Program}(Γ:TyE P)(o:Oper)(s:SS)(K:Up->Prop)(stop:Prop):Prop :=
 match o.op with
 | .move x=>fv (ev s x) λv=>K ⟨v,[],[]⟩
 | .assign x=>fv (ev s x) λv=>K ⟨v,[],[]⟩
 | .pick c a b=>(match ev s c with
  | .val (.bool c)=>(match c with
   |true=>fv (ev s a) λv=>K ⟨v,[],[]⟩
   | false=>fv (ev s b) λ v=>K ⟨v,[],[]⟩)
  | _=>stop)
 | .alloc t=>(match o.dst with
  | some d=>(match s.h d with
   | .fresh=>(match Γ.get t with
    | some i=>(match eM i.zero with
     |true=>fl (i.zero.map .val) λl=>K ⟨.ptr d 0,[],[(d,.box l)]⟩
     | false=>stop)
    | none=>stop)
   | _=>stop)
  | none=>stop)
 | .box _ x=>(match o.dst with
  | some d=>(match s.h d with
   | .fresh=>(match (ev s x).boxed with
    |true=>fl (cellsOf (ev s x)) λl=>K ⟨.ptr d 0,[],[(d,.box l)]⟩
    | false=>stop)
   | _=>stop)
  | none=>stop)
 | .load t x=>(match Γ.get t with
  | some i=>(match ev s x with
   | .ptr k off=>(match s.h k with
    | .box l=>(match Of i l off with
     |some y=>fa y λy=>K ⟨y,[k],[]⟩
     | none=>stop)
    | _=>stop)
   | .ref _ z off=>(match z.boxed with
    | true=>(match Of i (cellsOf z) off with
     |some y=>fa y λy=>K ⟨y,[],[]⟩
     | none=>stop)
    | false=>stop)
   | .rpt k sz n off=>(match s.h k with
    | .row d8 e l=>d8=sz/\∃ h:n<l.length,(match (e l[n]).boxed with
     | true=>(match Of i (cellsOf (e l[n])) off with
      |some y=>fa y λy=>K ⟨y,[k],[]⟩
      | none=>False)
     | false=>False)
    | .lit d8 svs=>d8=sz/\(match H6 svs n with
     | some z=>(match z.boxed with
      | true=>(match Of i (cellsOf z) off with
       |some y=>fa y λy=>K ⟨y,[k],[]⟩
       | none=>False)
      | false=>False)
     | none=>False)
    | _=>stop)
   | _=>stop)
  | none=>stop)
 | .store t x y=>(match Γ.get t with
  | some i=>(match ev s x with
   | .ptr k off=>(match s.h k with
    | .box l=>(match (ev s y).boxed && Nat.beq (cellsOf (ev s y)).length i.size && Nat.ble (off+i.size) l.length with
     |true=>fl (setAt l off (cellsOf (ev s y))) λl=>K ⟨.val undef,[],[(k,.box l)]⟩
     | false=>stop)
    | _=>stop)
   | .rpt k sz n off=>(match s.h k with
    | .row (α:=g) d8 e l=>d8=sz/\∃(h:n<l.length) (z:g),cellsOf (e z)=setAt (cellsOf (e l[n])) off (cellsOf (ev s y)) /\
      (((ev s y).boxed&&Nat.beq (cellsOf (ev s y)).length i.size&&Nat.ble (off+i.size) sz&&(e l[n]).boxed&&(e z).boxed&&(e z).data)=true)/\K ⟨.val undef,[],[(k,.row d8 e (l.set n z))]⟩
    | _=>stop)
   | _=>stop)
  | none=>stop)
 | .fieldAddr t x f=>(match Γ.get t with
  | some i=>(match i.k with
   | .struct fs=>(match fs[f]? with
    | some (fo,fn)=>(match fn with
     |0=>stop
     | _+1=>(match ev s x with
      | .ptr k off=>(match s.h k with
       | .box _=>K ⟨.ptr k (off+fo),[k],[]⟩
       | _=>stop)
      | .ref sz z off=>K ⟨.ref sz z (off+fo),[],[]⟩
      | .rpt k sz n off=>(match s.h k with
       | .row (α:=g) d8 e l=>l≠[]/\K ⟨.rpt k sz n (off+fo),[k],[]⟩
       | .lit _ _=>K ⟨.rpt k sz n (off+fo),[k],[]⟩
       | _=>stop)
      | _=>stop))
    | none=>stop)
   | _=>stop)
  | none=>stop)
 | .nilCheck x=>(match ev s x with
  | .ptr k off=>(match s.h k with
   | .box _=>K ⟨.ptr k off,[k],[]⟩
   | _=>stop)
  | .ref sz z off=>K ⟨.ref sz z off,[],[]⟩
  | .clo fn first cap=>(match fn with
   | .func f=>K ⟨.clo (.func f) first cap,[],[]⟩
   | _=>stop)
  | _=>stop)
 | .indexAddr t x y=>(match Γ.get t with
  | some i=>(match i.k with
   | .slice _ esz _ _=>(match ev s y with
    | .val (.int _ n)=>(match ev s x with
     | .sl sz e l=>esz=sz/\∃(_:0<=n) (h:n.toNat<l.length),K ⟨.ref sz (e l[n.toNat]) 0,[],[]⟩
     | .osl k=>(match (s.h k).len with
      |some len=>0<=n/\n.toNat<len/\K ⟨.rpt k esz n.toNat 0,[k],[]⟩
      | none=>stop)
     | _=>stop)
    | _=>stop)
   | .array _ len esz=>(match ev s y with
    | .val (.int _ n)=>(match ev s x with
     | .ptr k off=>(match s.h k with
      | .box _=>0<=n/\n.toNat<len/\K ⟨.ptr k (off+n.toNat*esz),[k],[]⟩
      | _=>stop)
     | .ref sz z off=>0<=n/\n.toNat<len/\K ⟨.ref sz z (off+n.toNat*esz),[],[]⟩
     | _=>stop)
    | _=>stop)
   | _=>stop)
  | none=>stop)
 | .binOp op t x y _=>(match ev s x,ev s y with
  | .val (.int k a),.val (.int k' b)=>(match A13 op with
   |true=>Af1 op k a b (λv=>K ⟨v,[],[]⟩) stop
   | false=>if k=k' then Ay1 op k a b (λ v=>K ⟨v,[],[]⟩) stop else stop)
  | .val (.string a),.val (.string b)=>Awh op a b (λv=>K ⟨v,[],[]⟩) stop
  | .val (.bool p),.val (.bool q)=>(match Γ.get t with
   | some i=>(match i.k with
    | .bool=>(match op with
     | .eql=>K ⟨.val (.bool (p==q)),[],[]⟩
     | .neq=>K ⟨.val (.bool (p != q)),[],[]⟩
     | _=>stop)
    | _=>stop)
   | none=>stop)
  | .agg l,.agg m=>(match Γ.eqs t with
   | some ks=>(match eqS ks l m with
    | some r=>(match op with
     | .eql=>K ⟨.val (.bool r),[],[]⟩
     | .neq=>K ⟨.val (.bool (!r)),[],[]⟩
     | _=>stop)
    | none=>stop)
   | none=>stop)
  | .ptr k _,.val (.pointer none)=>(match s.h k with
   | .box _=>(match Γ.get t with
    | some i=>(match i.k with
     | .ptr=>(match op with
      | .eql=>K ⟨.val (.bool false),[k],[]⟩
      | .neq=>K ⟨.val (.bool true),[k],[]⟩
      | _=>stop)
     | _=>stop)
    | none=>stop)
   | _=>stop)
  | _,_=>stop)
 | .unOp op _ x=>(match op,ev s x with
  | .not,.val (.bool b)=>K ⟨.val (.bool (!b)),[],[]⟩
  | .neg,.val (.int k n)=>K ⟨.val (.int k (k.wrap (0-n))),[],[]⟩
  | _,_=>stop)
 | .extract x i=>(match ev s x with
  | .tup l=>(match H6 l i with
   |some y=>fa y λy=>K ⟨y,[],[]⟩
   | none=>stop)
  | _=>stop)
 | .convert src dst x=>(match Γ.get src,Γ.get dst with
  | some si,some di=>(match di.k,ev s x with
   | .int k',.val (.int _ n)=>K ⟨.val (.int k' (k'.wrap n)),[],[]⟩
   | .string,.val (.string b)=>(match si.k with
    | .string=>K ⟨.val (.string b),[],[]⟩
    | _=>stop)
   | _,_=>stop)
  | _,_=>stop)
 | .makeInterface t x=>(match Γ.get t with
  | some i=>(match i.k with
   | .iface=>stop
   | .other=>stop
   | .array _ _ _=>stop
   | _=>fv (ev s x) λ v=>K ⟨.ifc t v,[],[]⟩)
  | none=>stop)
 | .build t ps=>(match Γ.get t with
  | some i=>(match i.k with
   | .struct fs=>(match eM i.zero with
    | true=>(match Aa3 fs (i.zero.map .val) (ps.toList.map λ p=>(p.1,ev s p.2)) with
     |some out=>fl out λout=>K ⟨.agg out,[],[]⟩
     | none=>stop)
    | false=>stop)
   | _=>stop)
  | none=>stop)
 | .buildSlice t len ps=>(match o.dst with
  | some d=>(match s.h d with
   | .fresh=>(match Γ.get t with
    | some i=>(match i.k with
     | .slice _ sz _ _=>(match Mz 0 ps.toList with
      | some xs=>(match Nat.beq xs.length len && Nat.ble (len * sz) 16777216 && Ad7 sz (xs.map (ev s)) with
       |true=>fl (xs.map (ev s)) λsvs=>K ⟨.osl d,[],[(d,.lit sz svs)]⟩
       | false=>stop)
      | none=>stop)
     | _=>stop)
    | none=>stop)
   | _=>stop)
  | none=>stop)
 | .index t x y=>(match Γ.get t with
  | some i=>(match i.k with
   | .string=>(match ev s x with
    | .val (.string b)=>(match ev s y with
     | .val (.int _ n)=>0<=n/\n.toNat<b.size/\K ⟨.val (.int .u8 (Bw b n.toNat).toNat),[],[]⟩
     | _=>stop)
    | _=>stop)
   | _=>stop)
  | none=>stop)
 | .slice t x lo hi mx=>(match mx with
  | none=>(match Γ.get t with
   | some i=>(match i.k with
    | .string=>(match ev s x with
     | .val (.string b)=>bnd s lo 0 (λl=>bnd s hi b.size (λh=>(0<=l/\l<=h/\h<=b.size)/\K ⟨.val (.string (b.extract l.toNat h.toNat)),[],[]⟩) stop) stop
     | _=>stop)
    | _=>stop)
   | none=>stop)
  | some _=>stop)
 | .makeFunc fn first cap=>fl (first.toList.map (ev s)) λf=>fl (cap.toList.map (ev s)) λl=>K ⟨.clo fn f l,[],[]⟩
 | .call c=>(match c.callee with
  | .builtin .len=>(match c.args.toList,c.argTypes.toList with
   | [x],t::_=>(match Γ.get t with
    | some i=>(match i.k with
     | .slice _ _ _ _=>(match ev s x with
      | .sl _ _ l=>K ⟨.val (.int .i64 l.length),[],[]⟩
      | .osl k=>(match (s.h k).len with
       |some n=>K ⟨.val (.int .i64 n),[k],[]⟩
       | none=>stop)
      | .val (.slice _ n _)=>K ⟨.val (.int .i64 n),[],[]⟩
      | _=>stop)
     | .string=>(match ev s x with
      | .val (.string b)=>K ⟨.val (.int .i64 b.size),[],[]⟩
      | _=>stop)
     | _=>stop)
    | none=>stop)
   | _,_=>stop)
  | _=>stop)
 |_=>stop
def Ay0{P:Program}{o:Oper}{s:SS}{op:BinOp}{t yt:TypeId}{x y:Operand}{k:IntKind}{m n:Int}{K:Up->Prop}{stop:Prop}(h:o.op=.binOp op t x y yt)(hx:ev s x=.val (.int k m))(hy:ev s y=.val (.int k n))(hw:Ay1 op k m n (λv=>K ⟨v,[],[]⟩) stop):(∃U,Good P o s U/\K U)\/stop:=by
 have mk:∀u:Value,(∀w,(binOp op t (.int k m) (.int k n)).run P w=.ok u w)->K ⟨.val u,[],[]⟩->(∃U,Good P o s U/\K U)\/stop:=λu hu hk=>.inl ⟨_,Azh h hx hy hu,hk⟩
 unfold Ay1 at hw;split at hw
 .split at hw
  .exact mk _ (λw=>by simp[binOp_add,Op.intArith,hw.1.wrap]) hw.2
  .exact mk _ (λw=>by simp[binOp_add,Op.intArith]) hw
 .split at hw
  .exact mk _ (λw=>by simp[binOp_sub,Op.intArith,hw.1.wrap]) hw.2
  .exact mk _ (λw=>by simp[binOp_sub,Op.intArith]) hw
 .split at hw
  .exact mk _ (λw=>by simp[binOp_mul,Op.intArith,hw.1.wrap]) hw.2
  .exact mk _ (λw=>by simp[binOp_mul,Op.intArith]) hw
 .exact mk _ (λw=>by simp[binOp_quo,Op.intDiv,hw.1]) hw.2
 .exact mk _ (λw=>by simp[binOp_rem,Op.intDiv,hw.1]) hw.2
 .exact mk _ (λw=>by simp[binOp_and,intBits_and]) hw
 .exact mk _ (λw=>by simp[binOp_or,intBits_or]) hw
 .exact mk _ (λw=>by simp[binOp_xor,intBits_xor]) hw
 .exact mk _ (λw=>by simp[binOp_andNot,intBits_andNot]) hw
 .exact mk _ (λw=>by simp[binOp_lss]) hw
 .exact mk _ (λw=>by simp[binOp_leq]) hw
 .exact mk _ (λw=>by simp[binOp_gtr]) hw
 .exact mk _ (λw=>by simp[binOp_geq]) hw
 .exact mk _ (λw=>by simp[binOp_eql]) hw
 .exact mk _ (λw=>by simp[binOp_neq]) hw
 .exact .inr hw
def Aax{P:Program}{o:Oper}{s:SS}{op:BinOp}{t yt:TypeId}{x y:Operand}{k k':IntKind}{m n:Int}{u:Value}(h:o.op=.binOp op t x y yt)(hx:ev s x=.val (.int k m))(hy:ev s y=.val (.int k' n))(hr:∀w,(binOp op t (.int k m) (.int k' n)).run P w=.ok u w):Good P o s ⟨.val u,[],[]⟩ :=
 Good.pure λb a w _ ia _=>by
  have h1:=ia x (by simp[h,Op.operands]);have h2:=ia y (by simp[h,Op.operands]);rw[hx]at h1;rw[hy]at h2;refine⟨u,?_,by simp[Rd]⟩;simp[execOp,h,h1.val,h2.val,eqGuard_at_int,hr]
def Am9{P:Program}{o:Oper}{s:SS}{op:BinOp}{t yt:TypeId}{x y:Operand}{k k':IntKind}{m n:Int}{K:Up->Prop}{stop:Prop}(h:o.op=.binOp op t x y yt)(hx:ev s x=.val (.int k m))(hy:ev s y=.val (.int k' n))(hw:Af1 op k m n (λv=>K ⟨v,[],[]⟩) stop):(∃U,Good P o s U/\K U)\/stop:=by
 unfold Af1 at hw;split at hw
 .have hn:¬n<0:=by omega
  exact .inl ⟨_,Aax (u:=.int k (k.wrap (m*2^(min n.toNat k.bits)))) h hx hy (λw=>by simp[binOp_shl,Op.shift,hn]),hw.2⟩
 .have hn:¬n<0:=by omega
  exact .inl ⟨_,Aax (u:=.int k (m.fdiv (2^(min n.toNat k.bits)))) h hx hy (λw=>by simp[binOp_shr,Op.shift,hn]),hw.2⟩
 .exact .inr hw
def Awg{P:Program}{o:Oper}{s:SS}{op:BinOp}{t yt:TypeId}{x y:Operand}{m n:ByteArray}{K:Up->Prop}{stop:Prop}(h:o.op=.binOp op t x y yt)(hx:ev s x=.val (.string m))(hy:ev s y=.val (.string n))(hw:Awh op m n (λv=>K ⟨v,[],[]⟩) stop):(∃U,Good P o s U/\K U)\/stop:=by
 unfold Awh at hw;split at hw
 .have hn:¬(9223372036854775807<((m.size+n.size:Nat):Int)):=by omega
  refine .inl ⟨_,L0 (u:=.string (m++n)) h qq hx hy (λw=>?_),hw.2⟩;simp only[Op.stringOp,IntKind.max_i64];rw[zD hn];rfl
 .exact .inl ⟨_,L0 (u:=.bool (m==n)) h qq hx hy (λw=>by simp[Op.stringOp,beq_toListBytes]),hw⟩
 .exact .inl ⟨_,L0 (u:=.bool (!(m==n))) h qq hx hy (λw=>by simp[Op.stringOp,beq_toListBytes]),hw⟩
 .exact .inl ⟨_,L0 (u:=.bool (Op.bytesLess m.toList n.toList)) h qq hx hy (λw=>by simp[Op.stringOp]),hw⟩
 .exact .inl ⟨_,L0 (u:=.bool (!(Op.bytesLess m.toList n.toList||m==n))) h qq hx hy (λw=>by simp[Op.stringOp,beq_toListBytes]),hw⟩
 .exact .inr hw
def Wf{P:Program}(Γ:Ty P){t:TypeId}{ti:TI}{e:TypeId}{len esz:Nat}(ht:Γ.get t=some ti)(hk:ti.k=.array e len esz):P.underlying t=some (.array len e)/\∃i,P.info? e=some i/\i.size=esz:=by
 obtain ⟨d,info,z,k1,k2,k3,k4,k5,k6⟩:=Γ.ok t ti ht;rw[hk]at k2;simp only[TK.ok]at k2;obtain ⟨rfl,k2⟩:=k2;exact⟨k1,k2⟩
def Td{P:Program}{t et:TypeId}{len esz:Nat}{i:TypeInfo}{ik:IntKind}{n:Int}{b o:Nat}(w:World)(hu:P.underlying t=some (.array len et))(hq:P.info? et=some i)(hi:i.size=esz)(h0:0<=n)(hn:n.toNat<len):(Instr.indexAt t (.pointer (some ⟨b,o,none⟩)) (.int ik n)).run P w=.ok (.pointer (some ⟨b,o+n.toNat*esz,none⟩)) w:=by
 have ab:n<len:=by omega
 simp[Instr.indexAt,asIntOf,run_underlying hu,Instr.sureAddr,h0,ab,sizeOf,typeInfo,hq,hi,Addr.add_lit]
def Jg{P:Program}(Γ:Ty P){o:Oper}{s:SS}{t:TypeId}{ti:TI}{et:TypeId}{len esz k off:Nat}{x y:Operand}{ik:IntKind}{n:Int}{l:List SV}(h:o.op=.indexAddr t x y)(ht:Γ.get t=some ti)(hk:ti.k=.array et len esz)(hx:ev s x=.ptr k off)(hb:s.h k=.box l)(hy:ev s y=.val (.int ik n))(h0:0<=n)(hn:n.toNat<len):Good P o s ⟨.ptr k (off+n.toNat*esz),[k],[]⟩ :=
 Good.pure λr a w _ hr ho=>by
  have h1:=hr x (by simp[h,Op.operands]);have h2:=hr y (by simp[h,Op.operands]);have h3:=ho k qq;rw[hb]at h3;obtain ⟨b,cs,T,fr,e1,_⟩:=h3;rw[hx]at h1;rw[hy]at h2;simp only[Rd,e1]at h1;obtain ⟨hu,i,q1,q2⟩:=Wf Γ ht hk;refine⟨.pointer (some ⟨b,off+n.toNat*esz,none⟩),?_,by simp only[Rd,e1]⟩;simp only[execOp,h,h1,h2.val];simp[Td w hu q1 q2 h0 hn]
def Jf{P:Program}(Γ:Ty P){o:Oper}{s:SS}{t:TypeId}{ti:TI}{et:TypeId}{len esz sz off:Nat}{x y:Operand}{ik:IntKind}{n:Int}{z:SV}(h:o.op=.indexAddr t x y)(ht:Γ.get t=some ti)(hk:ti.k=.array et len esz)(hx:ev s x=.ref sz z off)(hy:ev s y=.val (.int ik n))(h0:0<=n)(hn:n.toNat<len):Good P o s ⟨.ref sz z (off+n.toNat*esz),[],[]⟩ :=
 Good.pure λr a w _ hr _=>by
  have h1:=hr x (by simp[h,Op.operands]);have h2:=hr y (by simp[h,Op.operands]);rw[hx]at h1;rw[hy]at h2;simp only[Rd,RdD]at h1;obtain ⟨b,oo,u,e1,e2,e3,e4,e5⟩:=h1;obtain ⟨hu,i,q1,q2⟩:=Wf Γ ht hk;refine⟨.pointer (some ⟨b,oo+off+n.toNat*esz,none⟩),?_,?_⟩
  .simp only[execOp,h,e1,h2.val];simp[Td w hu q1 q2 h0 hn]
  .simp only[Rd,RdD];exact⟨b,oo,u,by rw[vX],e2,e3,e4,e5⟩
def aR{P:Program}(Γ:Ty P){o:Oper}{s:SS}{t:TypeId}{ti:TI}{x y:Operand}{ik:IntKind}{n:Int}{b:ByteArray}(h:o.op=.index t x y)(ht:Γ.get t=some ti)(hk:ti.k=.string)(hx:ev s x=.val (.string b))(hy:ev s y=.val (.int ik n))(h0:0<=n)(hn:n.toNat<b.size):Good P o s ⟨.val (.int .u8 (Bw b n.toNat).toNat),[],[]⟩ :=
 Good.pure λr a w _ hr _=>by
  have h1:=hr x (by simp[h,Op.operands]);have h2:=hr y (by simp[h,Op.operands]);rw[hx]at h1;rw[hy]at h2;obtain ⟨d,info,z,k1,k2,k3,k4,k5,k6⟩:=Γ.ok t ti ht;rw[hk]at k2;simp only[TK.ok]at k2;subst k2;have hg:b[n.toNat]? = some (Bw b n.toNat):=by
   have l6:n.toNat<b.data.toList.length:=hn;rw[getElem?_pos b n.toNat hn];simp only[Bw,wF,zR l6,Option.getD_some,Option.some.injEq];rfl
  refine⟨.int .u8 (Bw b n.toNat).toNat,?_,by simp only[Rd]⟩;simp[execOp,h,h1.val,h2.val,Instr.index,run_underlying k1,asIntOf,h0,hg]
def BndAt(s:SS)(x:Option Operand)(d n:Int):Prop:=(x=none/\n=d)\/∃y k,x=some y/\ev s y=.val (.int k n)
def Az7{s:SS}{x:Option Operand}{d:Int}{K:Int->Prop}{stop:Prop}(h:bnd s x d K stop):(∃n,BndAt s x d n/\K n)\/stop:=by
 unfold bnd at h;split at h
 .exact .inl ⟨d,.inl ⟨E,E⟩,h⟩
 .split at h
  .rename_i y _ k n hy;exact .inl ⟨n,.inr ⟨y,k,E,hy⟩,h⟩
  .exact .inr h
theorem BndAt.is{s:SS}{x:Option Operand}{d n:Int}{m:Nat}(h:BndAt s x d n)(h0:0<=n)(hd:d.toNat=m):BoundIs s x m n.toNat:=by
 rcases h with ⟨rfl,rfl⟩|⟨y,k,rfl,hy⟩
 .exact .inl ⟨E,hd⟩
 .exact .inr ⟨y,k,E,by rw[hy,yR h0]⟩
def Axq{P:Program}{Γ:TyE P}{o:Oper}{s:SS}{K:Up->Prop}{stop:Prop}(h:opW Γ o s K stop):(∃U,Good P o s U/\K U)\/stop:=by
 cases hop:o.op with
 |move x=>
  simp only[opW,hop,dH]at h;exact .inl ⟨_,Aeq (.inl hop),h⟩
 |assign x=>
  simp only[opW,hop,dH]at h;exact .inl ⟨_,Aeq (.inr hop),h⟩
 |pick c a b=>
  simp only[opW,hop,dH]at h;split at h
  .rename_i cc hc;cases cc
   .exact .inl ⟨_,Aep hop hc,h⟩
   .exact .inl ⟨_,Aep hop hc,h⟩
  .exact .inr h
 |alloc t=>
  simp only[opW,hop,Qy]at h;split at h
  .rename_i d hd;split at h
   .rename_i hf;split at h
    .rename_i i hi;split at h
     .rename_i h1;exact .inl ⟨_,Ao7 Γ.toTy hop hf hi h1,h⟩
     .exact .inr h
    .exact .inr h
   .exact .inr h
  .exact .inr h
 |box t x=>
  simp only[opW,hop,Qy]at h;split at h
  .rename_i d hd;split at h
   .rename_i hf;split at h
    .rename_i h1;exact .inl ⟨_,aW hop hf h1,h⟩
    .exact .inr h
   .exact .inr h
  .exact .inr h
 |load t x=>
  simp only[opW,hop,Azn]at h;split at h
  .rename_i i hi;split at h
   .rename_i k off hx;split at h
    .rename_i l hk;split at h
     .rename_i y hy;exact .inl ⟨_,Ac1 Γ.toTy hop hx hi hk hy,h⟩
     .exact .inr h
    .exact .inr h
   .rename_i sz z off hx;split at h
    .rename_i hz;split at h
     .rename_i y hy;exact .inl ⟨_,Ac0 Γ.toTy hop hx hi hz hy,h⟩
     .exact .inr h
    .exact .inr h
   .rename_i k sz n off hx;split at h
    .rename_i d8 j e l hk;obtain ⟨rfl,hn,h⟩:=h;split at h
     .rename_i hz;split at h
      .rename_i y hy;have ag:l≠[]:=by intro he;subst he;simp at hn
       refine .inl ⟨_,X4 (n:=l.length) (f:=rowF e l) Γ.toTy hop hx hi (λg w ho=>?_) ⟨hn,E⟩ hz hy,h⟩;rw[hk]at ho;exact ho.rowAt ag
      .exact h.elim
     .exact h.elim
    .rename_i d8 svs hk;obtain ⟨rfl,h⟩:=h;split at h
     .rename_i z bq;split at h
      .rename_i hz;split at h
       .rename_i y hy;refine .inl ⟨_,X4 (n:=svs.length) (f:=Acq svs) Γ.toTy hop hx hi (λg w ho=>?_) bq hz hy,h⟩;rw[hk]at ho;exact ho
       .exact h.elim
      .exact h.elim
     .exact h.elim
    .exact .inr h
   .exact .inr h
  .exact .inr h
 |store t x y=>
  simp only[opW,hop,Qy]at h;split at h
  .rename_i i hi;split at h
   .rename_i k off hx;split at h
    .rename_i l hk;split at h
     .rename_i hc;simp only[zG]at hc;exact .inl ⟨_,Vx Γ.toTy hop hx hi hk hc.1.1 (yK hc.1.2) (wA hc.2),h⟩
     .exact .inr h
    .exact .inr h
   .rename_i k sz n off hx;split at h
    .rename_i d8 j e l hk;obtain ⟨rfl,hn,z,hz,hc,h⟩:=h;simp only[zG]at hc;obtain ⟨⟨⟨⟨⟨c1,c2⟩,c3⟩,c4⟩,c5⟩,c6⟩:=hc;exact .inl ⟨_,Vv Γ.toTy hop hx hi hk c1 (yK c2) (wA c3) hn hz c4 c5 c6,h⟩
    .exact .inr h
   .exact .inr h
  .exact .inr h
 |fieldAddr t x f=>
  simp only[opW,hop]at h;split at h
  .rename_i i hi;split at h
   .rename_i fs hk;split at h
    .rename_i fo fn hf;split at h
     .exact .inr h
     .rename_i fn';split at h
      .rename_i k off hx;split at h
       .rename_i l hb;exact .inl ⟨_,K3 Γ.toTy hop hi hk hf z_ (.inl ⟨k,off,l,hx,hb,E,E⟩),h⟩
       .exact .inr h
      .rename_i sz z off hx;exact .inl ⟨_,K3 Γ.toTy hop hi hk hf z_ (.inr (.inl ⟨sz,z,off,hx,E,E⟩)),h⟩
      .rename_i k sz n off hx;split at h
       .rename_i d8 j e l hb;obtain ⟨ag,h⟩:=h;refine .inl ⟨_,K3 Γ.toTy hop hi hk hf z_ (.inr (.inr ⟨k,sz,n,off,hx,λg w ho=>?_,E,E⟩)),h⟩;rw[hb]at ho;obtain ⟨b,cap,_,_,_,e1,_⟩:=ho.rowAt ag;exact⟨b,_,cap,e1⟩
       .rename_i d8 svs hb;refine .inl ⟨_,K3 Γ.toTy hop hi hk hf z_ (.inr (.inr ⟨k,sz,n,off,hx,λg w ho=>?_,E,E⟩)),h⟩;rw[hb]at ho;obtain ⟨b,cap,_,_,_,e1,_⟩:=ho;exact⟨b,_,cap,e1⟩
       .exact .inr h
      .exact .inr h
    .exact .inr h
   .exact .inr h
  .exact .inr h
 |nilCheck x=>
  simp only[opW,hop]at h;split at h
  .rename_i k off hx;split at h
   .rename_i l hb;have:=E2 (P:=P) (rd:=[k]) hop (.inl ⟨k,off,l,hx,hb,rfl⟩);rw[hx]at this;exact .inl ⟨_,this,h⟩
   .exact .inr h
  .rename_i sz z off hx;have:=E2 (P:=P) (rd:=[]) hop (.inr (.inl ⟨sz,z,off,hx,rfl⟩));rw[hx]at this;exact .inl ⟨_,this,h⟩
  .rename_i fn first cap hx
   split at h
   .rename_i f;have:=E2 (P:=P) (rd:=[]) hop (.inr (.inr (.inl ⟨f,first,cap,hx,rfl⟩)));rw[hx]at this;exact .inl ⟨_,this,h⟩
   .exact .inr h
  .exact .inr h
 |indexAddr t x y=>
  simp only[opW,hop]at h;split at h
  .rename_i i hi;split at h
   .rename_i et esz eb ez hk;split at h
    .rename_i ik n hy;split at h
     .rename_i sz j e l hx;obtain ⟨rfl,h0,hn,h⟩:=h;exact .inl ⟨_,K2 Γ.toTy hop hi hk hx hy h0 hn,h⟩
     .rename_i k hx;split at h
      .rename_i len hl;exact .inl ⟨_,J2 Γ.toTy hop hi hk hx hl hy h.1 h.2.1,h.2.2⟩
      .exact .inr h
     .exact .inr h
    .exact .inr h
   .rename_i et len esz hk;split at h
    .rename_i ik n hy;split at h
     .rename_i k off hx;split at h
      .rename_i l hl;exact .inl ⟨_,Jg Γ.toTy hop hi hk hx hl hy h.1 h.2.1,h.2.2⟩
      .exact .inr h
     .rename_i sz z off hx;exact .inl ⟨_,Jf Γ.toTy hop hi hk hx hy h.1 h.2.1,h.2.2⟩
     .exact .inr h
    .exact .inr h
   .exact .inr h
  .exact .inr h
 |binOp op t x y yt=>
  simp only[opW,hop]at h;split at h
  .rename_i k a k' b hx hy;split at h
   .exact Am9 hop hx hy h
   .split at h
    .rename_i pn;subst pn;exact Ay0 hop hx hy h
    .exact .inr h
  .rename_i a b hx hy;exact Awg hop hx hy h
  .rename_i p q hx hy;split at h
   .rename_i i hi;split at h
    .rename_i hk;split at h
     .exact .inl ⟨_,aS Γ.toTy hop (.inl E) hi hk hx hy,h⟩
     .exact .inl ⟨_,aS Γ.toTy hop (.inr E) hi hk hx hy,h⟩
     .exact .inr h
    .exact .inr h
   .exact .inr h
  .rename_i l m hx hy;split at h
   .rename_i ks hks;split at h
    .rename_i r hr;split at h
     .exact .inl ⟨_,eY hop (.inl E) (Γ.eqok t ks hks) hx hy hr,h⟩
     .exact .inl ⟨_,eY hop (.inr E) (Γ.eqok t ks hks) hx hy hr,h⟩
     .exact .inr h
    .exact .inr h
   .exact .inr h
  .rename_i k off hx hy;split at h
   .rename_i l hb;split at h
    .rename_i i hi;split at h
     .rename_i hk;split at h
      .exact .inl ⟨_,eX Γ.toTy hop (.inl E) hi hk hy (.inl ⟨k,off,l,hx,hb,E,E⟩),h⟩
      .exact .inl ⟨_,eX Γ.toTy hop (.inr E) hi hk hy (.inl ⟨k,off,l,hx,hb,E,E⟩),h⟩
      .exact .inr h
     .exact .inr h
    .exact .inr h
   .exact .inr h
  .exact .inr h
 |unOp op t x=>
  simp only[opW,hop]at h;split at h
  .rename_i b hx;exact .inl ⟨_,Aze hop hx,h⟩
  .rename_i k n hx;exact .inl ⟨_,Azf hop hx,h⟩
  .exact .inr h
 |extract x i=>
  simp only[opW,hop,Azn]at h;split at h
  .rename_i l hx;split at h
   .rename_i y hy;exact .inl ⟨_,Agv hop hx hy,h⟩
   .exact .inr h
  .exact .inr h
 |convert src dst x=>
  simp only[opW,hop]at h;split at h
  .rename_i si di hs hd;split at h
   .rename_i k' k n hk hx;exact .inl ⟨_,dG Γ.toTy hop hs hd hk hx,h⟩
   .rename_i b hk hx;split at h
    .rename_i mr;exact .inl ⟨_,Xi Γ.toTy hop hs hd mr hk hx,h⟩
    .exact .inr h
   .exact .inr h
  .exact .inr h
 |makeInterface t x=>
  simp only[opW,hop,dH]at h;split at h
  .rename_i i hi;split at h
   .exact .inr h
   .exact .inr h
   .exact .inr h
   .rename_i h1 h2 h3;refine .inl ⟨_,Yz Γ.toTy hop hi ?_,h⟩;cases hk:i.k<;>first|rfl|(exact zX hk h1)|(exact zX hk h2)|(exact zX hk (h3 _ _ _))
  .exact .inr h
 |build t ps=>
  simp only[opW,hop,Qy]at h;split at h
  .rename_i i hi;split at h
   .rename_i fs hk;split at h
    .rename_i h1;split at h
     .rename_i out kq;exact .inl ⟨_,Ao6 (ps:=ps.toList) Γ.toTy (by rw[hop]) hi hk h1 kq,h⟩
     .exact .inr h
    .exact .inr h
   .exact .inr h
  .exact .inr h
 |buildSlice t len ps=>
  simp only[opW,hop,Qy]at h;split at h
  .rename_i d hd;split at h
   .rename_i hf;split at h
    .rename_i i hi;split at h
     .rename_i et sz eb ez hk;split at h
      .rename_i xs pp;split at h
       .rename_i hc;simp only[zG]at hc;exact .inl ⟨_,lE (ps:=ps.toList) Γ.toTy (by rw[hop]) hf hi hk pp (yK hc.1.1) (wA hc.1.2) hc.2,h⟩
       .exact .inr h
      .exact .inr h
     .exact .inr h
    .exact .inr h
   .exact .inr h
  .exact .inr h
 |index t x y=>
  simp only[opW,hop]at h;split at h
  .rename_i i hi;split at h
   .rename_i hk;split at h
    .rename_i b hx;split at h
     .rename_i ik n hy;exact .inl ⟨_,aR Γ.toTy hop hi hk hx hy h.1 h.2.1,h.2.2⟩
     .exact .inr h
    .exact .inr h
   .exact .inr h
  .exact .inr h
 |slice t x lo hi mx=>
  simp only[opW,hop]at h;split at h
  .split at h
   .rename_i i hi';split at h
    .rename_i hk;split at h
     .rename_i b hx;rcases Az7 h with ⟨l,hl,h⟩|h
      .rcases Az7 h with ⟨r,hr,h⟩|h
       .obtain ⟨⟨a1,a2,a3⟩,h⟩:=h;exact .inl ⟨_,aO (lo:=l.toNat) (hi:=r.toNat) Γ.toTy hop hi' hk hx (hl.is a1 E) (hr.is z_ qq) z_ z_,h⟩
       .exact .inr h
      .exact .inr h
     .exact .inr h
    .exact .inr h
   .exact .inr h
  .exact .inr h
 |makeFunc fn first cap=>
  simp only[opW,hop,Qy]at h;exact .inl ⟨_,Acz (ys:=first.toList) (xs:=cap.toList) (by rw[hop]),h⟩
 |call c=>
  simp only[opW,hop]at h;split at h
  .rename_i ze;split at h
   .rename_i x t r um hats;have hc:c=⟨.builtin .len,#[x],c.argTypes⟩:=by
     obtain ⟨a,b,d⟩:=c;simp only at ze um|-;have:b=#[x]:=by
      apply Array.ext';simpa using um
     rw[ze,this]
    rw[hc]at hop;have gh:c.argTypes[0]? = some t:=by
     rw[<-vP,hats];rfl
    split at h
    .rename_i i hi;split at h
     .rename_i et sz eb ez hk;split at h
      .rename_i z j e l hx;exact .inl ⟨_,Aay Γ.toTy hop gh hi hk (.inl ⟨z,j,e,l,hx,E,E⟩),h⟩
      .rename_i k hx;split at h
       .rename_i n hn;exact .inl ⟨_,Aay Γ.toTy hop gh hi hk (.inr (.inl ⟨k,hx,hn,E⟩)),h⟩
       .exact .inr h
      .rename_i a n cap hx;exact .inl ⟨_,Aay Γ.toTy hop gh hi hk (.inr (.inr ⟨a,cap,hx,E⟩)),h⟩
      .exact .inr h
     .rename_i hk;split at h
      .rename_i b hx;exact .inl ⟨_,lD Γ.toTy hop gh hi hk hx,h⟩
      .exact .inr h
     .exact .inr h
    .exact .inr h
   .exact .inr h
  .exact .inr h
 |_=>simp only[opW,hop]at h;exact .inr h
def A1o{P:Program}{Γ:TyE P}{o:Oper}{s:SS}{K:Up->Prop}{stop:Prop}(h:opW Γ o s K stop):(∃U,GoodX P o s U/\K U)\/stop:=by
 have hgen:(Kc o||Qw o)=false->(∃U,GoodX P o s U/\K U)\/stop:=λhn=>by
  rcases Axq h with ⟨U,hU,hk⟩|h
  .exact .inl ⟨U,.of hU hn,hk⟩
  .exact .inr h
 cases hop:o.op with
 |indexAddr t x y=>
  have br:Qw o=false:=by simp[Qw,hop]
  have hops:x∈o.op.operands/\y∈o.op.operands:=by simp[hop,Op.operands]
  simp only[opW,hop]at h;split at h
  .rename_i i hi;split at h
   .rename_i et esz eb ez hk;split at h
    .rename_i ik n hy;split at h
     .rename_i sz a e l hx;obtain ⟨rfl,h0,hn,h⟩:=h;exact .inl ⟨_,⟨(K2 Γ.toTy hop hi hk hx hy h0 hn).two,λ_=>⟨rfl,λs' h1 h2=>K2 Γ.toTy hop hi hk ((h1 x hops.1).trans hx) ((h1 y hops.2).trans hy) h0 hn⟩,λhc=>(by rw[br]at hc;cases hc)⟩,h⟩
     .rename_i k hx;split at h
      .rename_i len hl;exact .inl ⟨_,⟨(J2 Γ.toTy hop hi hk hx hl hy h.1 h.2.1).two,λ_=>⟨rfl,λs' h1 h2=>J2 Γ.toTy hop hi hk ((h1 x hops.1).trans hx) (Ob.shp_len (h2 k qq) hl) ((h1 y hops.2).trans hy) h.1 h.2.1⟩,λhc=>(by rw[br]at hc;cases hc)⟩,h.2.2⟩
      .exact .inr h
     .exact .inr h
    .exact .inr h
   .rename_i et len esz hk;split at h
    .rename_i ik n hy;split at h
     .rename_i k off hx;split at h
      .rename_i l hl;exact .inl ⟨_,⟨(Jg Γ.toTy hop hi hk hx hl hy h.1 h.2.1).two,λ_=>⟨rfl,λs' h1 h2=>(Ob.shp_box ((h2 k qq).trans (zH Ob.shp hl))).elim λm hm=>Jg Γ.toTy hop hi hk ((h1 x hops.1).trans hx) hm ((h1 y hops.2).trans hy) h.1 h.2.1⟩,λhc=>(by rw[br]at hc;cases hc)⟩,h.2.2⟩
      .exact .inr h
     .rename_i sz z off hx;exact .inl ⟨_,⟨(Jf Γ.toTy hop hi hk hx hy h.1 h.2.1).two,λ_=>⟨rfl,λs' h1 h2=>Jf Γ.toTy hop hi hk ((h1 x hops.1).trans hx) ((h1 y hops.2).trans hy) h.1 h.2.1⟩,λhc=>(by rw[br]at hc;cases hc)⟩,h.2.2⟩
     .exact .inr h
    .exact .inr h
   .exact .inr h
  .exact .inr h
 |store t x y=>
  have sk:Kc o=false:=by simp[Kc,hop]
  simp only[opW,hop,Qy]at h;split at h
  .rename_i i hi;split at h
   .rename_i k off hx;split at h
    .rename_i l hk;split at h
     .rename_i hc;simp only[zG]at hc;exact .inl ⟨_,⟨(Vx Γ.toTy hop hx hi hk hc.1.1 (yK hc.1.2) (wA hc.2)).two,λ hc=>(by rw[sk]at hc;cases hc),λ _ p hp=>by
       simp only[zZ]at hp;subst hp;show (Ob.box _).shp=(s.h k).shp;rw[hk];rfl⟩,h⟩
     .exact .inr h
    .exact .inr h
   .rename_i k sz n off hx;split at h
    .rename_i d8 a e l hk;obtain ⟨rfl,hn,z,hz,hc,h⟩:=h;simp only[zG]at hc;obtain ⟨⟨⟨⟨⟨c1,c2⟩,c3⟩,c4⟩,c5⟩,c6⟩:=hc;exact .inl ⟨_,⟨(Vv Γ.toTy hop hx hi hk c1 (yK c2) (wA c3) hn hz c4 c5 c6).two,λ hc=>(by rw[sk]at hc;cases hc),λ _ p hp=>by
      simp only[zZ]at hp;subst hp;show (Ob.row _ _ _).shp=(s.h k).shp;rw[hk];simp[Ob.shp]⟩,h⟩
    .exact .inr h
   .exact .inr h
  .exact .inr h
 |_=>exact hgen (by simp[Kc,Qw,hop])
def Aav(idx:Nat):List Oper->Bool
 |[]=>false
 | o::r=>(match o.guard with
  |some (j,_)=>Nat.beq j idx
  | none=>false) || Aav idx r
def A2b(isg:Bool)(U:Up)(K K':Up->Prop):Prop :=
 match isg with
 |false=>K U
 | true=>(match U.v with
  | .val (.bool b)=>(b=true->K' ⟨.val (.bool true),U.rd,U.objs⟩)/\(b=false->K' ⟨.val (.bool false),U.rd,U.objs⟩)
  | _=>K U)
def Ara{X:Up->Prop}{isg:Bool}{U:Up}{K K':Up->Prop}(hK:∀U,K U->K' U)(hg:X U)(h:A2b isg U K K'):∃U',X U'/\K' U':=by
 unfold A2b at h;split at h
 .exact⟨U,hg,hK _ h⟩
 .split at h
  .rename_i b hb;obtain ⟨v,rd,objs⟩:=U;simp only at hb;subst hb;cases b
   .exact⟨_,hg,h.2 E⟩
   .exact⟨_,hg,h.1 E⟩
  .exact⟨U,hg,hK _ h⟩
def En(n:Nat)(all:Array Oper)(o:Oper)(s:SS):Option Bool :=
 match o.guard with
 |none=>some true
 | some (j,want)=>(match (all[j]?).bind (·.dst) with
  | some d=>(match Nat.blt d n with
   | true=>(match s.σ d with
    | .val (.bool c)=>(match c with
     |true=>some want
     | false=>(match want with | true=>some false | false=>some true))
    | .val (.tuple a)=>(match a.toList with|[]=>some false|_=>none)
    | _=>none)
   | false=>none)
  | none=>none)
def Ep{n:Nat}{all:Array Oper}{o:Oper}{s:SS}{b:Bool}(h:En n all o s=some b):Zf all s o.guard b/\∀j want,o.guard=some (j,want)->∀d,((all[j]?).bind (·.dst))=some d->d<n:=by
 unfold En at h;cases hg:o.guard with
 |none=>
  rw[hg]at h;simp only[Option.some.injEq]at h;exact⟨h.symm,λj want hh=>by cases hh⟩
 |some p=>
  obtain ⟨j,want⟩:=p;rw[hg]at h;simp only at h;split at h
  .rename_i d hd;split at h
   .rename_i ab;refine⟨⟨d,hd,?_⟩,λj' want' hh d' r6=>?_⟩
    .split at h
     .rename_i c hc;left;refine⟨c,hc,?_⟩;cases c
      .cases want<;>simp_all
      .simp_all
     .rename_i a ha;split at h
      .rename_i he;right;have:a=#[]:=kS he;subst this;simp only[Option.some.injEq]at h;exact⟨ha,h.symm⟩
      .cases h
     .cases h
    .simp only[Option.some.injEq,Prod.mk.injEq]at hh;obtain ⟨rfl,rfl⟩:=hh;rw[hd]at r6;simp only[Option.some.injEq]at r6;subst r6;exact wA ab
   .cases h
  .cases h
def V6(n:Nat)(o:Oper):Bool:=match o.dst with|some d=>Nat.blt d n|none=>true
mutual
def O3(C:Cx)(Γ:TyE C.P):Nat->List KI->SS->Prop
 |0,k,s=>G C k s
 | n+1,k,s=>(match k with
  |[]=>G C [] s
  | .blk _::k=>O3 C Γ n k s
  | .inv I::k=>G C (.inv I::k) s
  | .scp::k=>O3 C Γ n k s
  | .ops _ []::k=>O3 C Γ n k s
  | .ops all (o::rest)::k=>(match V6 C.n o with
   | true=>(match En C.n all o s with
    |some true=>opW Γ o s (λU=>A2b (Aav (all.size-rest.length-1) rest) U (λU=>O3 C Γ n (.ops all rest::k) (s.upd o.dst U)) (λU=>G C (.ops all rest::k) (s.upd o.dst U))) (G C (.ops all (o::rest)::k) s)
    |some false=>O3 C Γ n (.ops all rest::k) (s.upd o.dst ⟨.val undef,[],[]⟩)
    | none=>G C (.ops all (o::rest)::k) s)
   | false=>G C (.ops all (o::rest)::k) s)
  | .code c::k=>(match c with
   | .skip=>O3 C Γ n k s
   | .seq x y=>O3 C Γ n (.code x::.code y::k) s
   | .block id c=>O3 C Γ n (.code c::.blk id::k) s
   | .scope c=>O3 C Γ n (.code c::.scp::k) s
   | .label _=>O3 C Γ n k s
   | .region id ops draw=>(match draw with
    |false=>O3 C Γ n (.ops ops ops.toList::k) s
    | true=>(match Apm C.n ops.toList with
     |true=>bB C Γ n k ops [] ops.toList s
     | false=>G C (.code (.region id ops true)::k) s))
   | .cond c x y=>(match ev s c with
    | .val (.bool b)=>(b=true->G C (.code x::k) s)/\(b=false->G C (.code y::k) s)
    | _=>G C (.code (.cond c x y)::k) s)
   | .exit id=>(match X9 id k with
    |some k'=>O3 C Γ n k' s
    | none=>G C (.code (.exit id)::k) s)
   | c=>G C (.code c::k) s))
def bB(C:Cx)(Γ:TyE C.P):Nat->List KI->Array Oper->List Stp->List Oper->SS->Prop
 |0,k,all,done,rest,s=>DR C k all done rest s
 | n+1,k,all,done,rest,s=>(match rest with
  |[]=>Ag6 all done=true/\O3 C Γ n k s
  | o::rest=>(match En C.n all o s with
   |some true=>opW Γ o s (λU=>A2b (Aav (all.size-rest.length-1) rest) U (λU=>bB C Γ n k all (done++[⟨done.length,o,U,true⟩]) rest (s.upd o.dst U)) (λU=>DR C k all (done++[⟨done.length,o,U,true⟩]) rest (s.upd o.dst U))) (DR C k all done (o::rest) s)
   |some false=>bB C Γ n k all (done++[⟨done.length,o,⟨.val undef,[],[]⟩,false⟩]) rest (s.upd o.dst ⟨.val undef,[],[]⟩)
   | none=>DR C k all done (o::rest) s))
end
def Aa9{n:Nat}{o:Oper}(h:V6 n o=true):∀d,o.dst=some d->d<n:=λd hd=>by
 unfold V6 at h;rw[hd]at h;exact wA h
def A0b{all:Array Oper}{done:List Stp}{o:Oper}{rest:List Oper}(h:all.toList=done.map (·.o)++o::rest):all[done.length]? = some o:=by
 rw[<-vP,h,wE qq];simp
def Arb{C:Cx}{Γ:TyE C.P}(hm:C.P.follows .mixedOrders=true):∀n,(∀k s,O3 C Γ n k s->G C k s)/\(∀k all done rest s,all.toList=done.map (·.o)++rest->bB C Γ n k all done rest s->DR C k all done rest s):=by
 intro n
 induction n with
 |zero=>exact⟨λk s h=>(by simpa only [O3] using h),λk all done rest s _ h=>(by simpa only [bB] using h)⟩
 |succ n ih=>
  obtain ⟨oe,t8⟩:=ih;constructor
  .intro k s h;simp only[O3]at h;split at h
   .exact h
   .exact G_blk (oe _ _ h)
   .exact h
   .exact G_scp (oe _ _ h)
   .exact Avk (oe _ _ h)
   .rename_i all o rest k';split at h
    .rename_i hd;have r6:=Aa9 hd;split at h
     .rename_i hg;obtain ⟨w1,w2⟩:=Ep hg;rcases Axq h with ⟨U,hU,hk⟩|h
      .obtain ⟨U',hU',mr⟩:=Ara (X:=Good C.P o s) (λU hu=>oe _ _ hu) hU hk;exact G_op hU' (λr a w hs=>Wl hs w2 w1) r6 mr
      .exact h
     .rename_i hg;obtain ⟨w1,w2⟩:=Ep hg;exact Avl (λr a w hs=>Wl hs w2 w1) r6 (oe _ _ h)
     .exact h
    .exact h
   .rename_i c k';split at h
    .exact G_skip (oe _ _ h)
    .exact G_seq (oe _ _ h)
    .exact A21 (oe _ _ h)
    .exact A2y (oe _ _ h)
    .exact A2z (oe _ _ h)
    .split at h
     .exact A0r (oe _ _ h)
     .split at h
      .rename_i hd;exact G_draw hm hd (t8 _ _ _ _ _ qq h)
      .exact h
    .split at h
     .rename_i b hc;exact G_cond hc h.1 h.2
     .exact h
    .split at h
     .rename_i hx;exact G_exit hx (oe _ _ h)
     .exact h
    .exact h
  .intro k all done rest s gz h;simp only[bB]at h;split at h
   .exact DR_nil h.1 (oe _ _ h.2)
   .rename_i o rest;have hi:=A0b gz;split at h
    .rename_i hg;obtain ⟨w1,w2⟩:=Ep hg;rcases A1o h with ⟨U,hU,hk⟩|h
     .obtain ⟨U',hU',mr⟩:=Ara (X:=GoodX C.P o s) (λU hu=>t8 _ _ _ _ _ (by simp[gz]) hu) hU hk;exact A0s U' hU' hi w1 mr
     .exact h
    .rename_i hg;obtain ⟨w1,w2⟩:=Ep hg;exact A22 hi w1 (t8 _ _ _ _ _ (by simp[gz]) h)
    .exact h
def aF{p q:Prop}(h:q):(false=true->p)/\(false=false->q):=⟨λe=>(tJ e).elim,λ_=>h⟩
def aT{p q:Prop}(h:p):(true=true->p)/\(true=false->q):=⟨λ_=>h,λe=>(tJ e.symm).elim⟩
def run{C:Cx}{k:List KI}{s:SS}(Γ:TyE C.P)(hm:C.P.follows .mixedOrders=true)(n:Nat)(h:O3 C Γ n k s):G C k s:=(Arb hm n).1 k s h
theorem runD{C:Cx}{k:List KI}{s:SS}{all:Array Oper}{done:List Stp}{rest:List Oper}(Γ:TyE C.P)(hm:C.P.follows .mixedOrders=true)(n:Nat)(hs:all.toList=done.map (·.o)++rest)(h:bB C Γ n k all done rest s):DR C k all done rest s :=
 (Arb hm n).2 k all done rest s hs h
def rG{C:Cx}{k:List KI}{s:SS}(Γ:TyE C.P)(hm:C.P.follows .mixedOrders=true)(h:O3 C Γ 400 k s):G C k s:=run Γ hm 400 h
def rD{C:Cx}{k:List KI}{s:SS}{all:Array Oper}{done:List Stp}{rest:List Oper}(Γ:TyE C.P)(hm:C.P.follows .mixedOrders=true)(hs:all.toList=done.map (·.o)++rest)(h:bB C Γ 400 k all done rest s):DR C k all done rest s:=runD Γ hm 400 hs h
def Ai{C:Cx}{k:List KI}{s:SS}{all:Array Oper}{o:Oper}{rest:List Oper}{U:Up}(hg:Good C.P o s U)(hd:V6 C.n o=true)(hw:En C.n all o s=some true)(h:G C (.ops all rest::k) (s.upd o.dst U)):G C (.ops all (o::rest)::k) s :=
 G_op hg (λ_ _ _ hs=>Wl hs (Ep hw).2 (Ep hw).1) (Aa9 hd) h
def Cc{C:Cx}{k:List KI}{s:SS}{all:Array Oper}{done:List Stp}{o:Oper}{rest:List Oper}{U:Up}(hg:Good C.P o s U)(hi:all[done.length]? = some o)(hw:En C.n all o s=some true)(h:DR C k all (done++[⟨done.length,o,U,true⟩]) rest (s.upd o.dst U))(hn:(Kc o||Qw o)=false:=by rfl):DR C k all done (o::rest) s:=A0s U (.of hg hn) hi (Ep hw).1 h
def done{P:Program}{fn:Func}{F:Fr}{R:SV}{H':Obs}{Γ:Ty P}{n:Nat}{bn:List Nat}{hbn:∀k,F.k0 k≠.new->k∈bn}{k:List KI}{s:SS}{rs:List ResultVar}(hf:fn.results=rs.toArray){xs:List SV}(hx:ResVs Γ.get s rs xs)(a:List (Nat×Nat))(L:Obs)(hL:∀p∈H',p∈L)(hR:R.ren (Bf a)=Ac6 xs)(nj:R.inn L.keys=true)(a6:Sub ⟨P,Γ,F,n,Xl P fn F R H',bn,hbn⟩ s a [] L):G ⟨P,Γ,F,n,Xl P fn F R H',bn,hbn⟩ (.code .ret::k) s :=
 A3b λ_ _ _ hs=>(Aqs hf hx a L hL hR nj a6 hs).1
def A2{P:Program}{fn:Func}{F:Fr}{R:SV}{H':Obs}{Γ:Ty P}{n:Nat}{bn:List Nat}{hbn:∀k,F.k0 k≠.new->k∈bn}{s:SS}{rs:List ResultVar}(hf:fn.results=rs.toArray){xs:List SV}(hx:ResVs Γ.get s rs xs)(a:List (Nat×Nat))(L:Obs)(hL:∀p∈H',p∈L)(hR:R.ren (Bf a)=Ac6 xs)(nj:R.inn L.keys=true)(a6:Sub ⟨P,Γ,F,n,Xl P fn F R H',bn,hbn⟩ s a [] L):G ⟨P,Γ,F,n,Xl P fn F R H',bn,hbn⟩ [] s :=
 G_nil λ_ _ _ hs=>(Aqs hf hx a L hL hR nj a6 hs).2
def Aq{P:Program}{fn:Func}{F:Fr}{R:SV}{Γ:Ty P}{n:Nat}{hbn:∀k,F.k0 k≠.new->k∈[]}{k:List KI}{s:SS}{rs:List ResultVar}(hf:fn.results=rs.toArray){xs:List SV}(hx:ResVs Γ.get s rs xs)(hR:R=Ac6 xs)(nj:R.inn []=true):G ⟨P,Γ,F,n,Xl P fn F R [],[],hbn⟩ (.code .ret::k) s:=by
 have hid:∀x:SV,x.ren (Bf [])=x:=λx=>Be x
 exact done hf hx [] [] (λ_ h=>h) (by rw[hid];exact hR) nj kU
def fieldsOf(P:Program):List Field->Option (List (Nat×Nat))
 |[]=>some []
 |f::fs=>match P.info? f.type,fieldsOf P fs with
  |some i,some r=>some ((f.offset,i.size)::r)
  |_,_=>none
def fD{P:Program}:∀{fs:List Field} {r:List (Nat×Nat)},fieldsOf P fs=some r->H8 P fs r
 |[],r,h=>by simp only[fieldsOf,Option.some.injEq]at h;subst h;trivial
 |f::fs,r,h=>by
  simp only[fieldsOf]at h;split at h
  .rename_i i q hi hq;simp only[Option.some.injEq]at h;subst h;exact⟨E,by rw[hi];rfl,fD hq⟩
  .cases h
def tkOf(P:Program)(d:TypeDesc):Option TK :=
 match d with
 | .bool=>some .bool
 | .int k=>some (.int k)
 | .string=>some .string
 | .slice e=>(match P.info? e with
  | some i=>(match i.zero with
   |some z=>some (.slice e i.size i.bytes z.cells.toList)
   | none=>none)
  | none=>none)
 | .struct fs=>(match fieldsOf P fs.toList with
  |some r=>some (.struct r)
  | none=>none)
 | .array len e=>(match P.info? e with
  |some i=>some (.array e len i.size)
  | none=>none)
 | .pointer _=>some .ptr
 | .interface _=>some .iface
 | .func _ _ _=>some .func
 |_=>none
def A03{P:Program}{d:TypeDesc}{k:TK}(h:tkOf P d=some k):TK.ok P d k:=by
 unfold tkOf at h;split at h
 .cases h;rfl
 .cases h;rfl
 .cases h;rfl
 .split at h
  .rename_i i hi;split at h
   .rename_i z hz;cases h;exact⟨E,i,z,hi,E,E,hz,E⟩
   .cases h
  .cases h
 .split at h
  .rename_i r hr;cases h;exact⟨_,E,fD hr⟩
  .cases h
 .split at h
  .rename_i i hi;cases h;exact⟨E,i,hi,E⟩
  .cases h
 .cases h;exact⟨_,rfl⟩
 .cases h;exact⟨_,rfl⟩
 .cases h;exact⟨_,_,_,rfl⟩
 .cases h
def tiOf(P:Program)(t:TypeId):Option TI :=
 match P.underlying t,P.info? t with
 | some d,some info=>(match tkOf P d,info.zero with
  |some k,some z=>some ⟨k,info.size,z.cells.toList⟩
  | _,_=>none)
 |_,_=>none
def A04{P:Program}{t:TypeId}{i:TI}(h:tiOf P t=some i):i.ok P t:=by
 unfold tiOf at h;split at h
 .rename_i d info hd hi;split at h
  .rename_i k z hk hz;cases h;exact⟨d,info,z,hd,A03 hk,hi,E,hz,E⟩
  .cases h
 .cases h
inductive Tr(α:Type)|lf|nd (k:Nat) (v:α) (l r:Tr α)
def Tr.look{a:Type}(t:Nat):Tr a->Option a
 | .lf=>none
 | .nd k v l r=>bif Nat.beq t k then some v else bif Nat.blt t k then l.look t else r.look t
def Tr.all{a:Type}(p:Nat->a->Prop):Tr a->Prop
 | .lf=>True
 | .nd k v l r=>p k v/\l.all p/\r.all p
theorem Tr.look_ok{a:Type}{p:Nat->a->Prop}{t:Nat}{v:a}:∀{T:Tr a},T.all p->T.look t=some v->p t v
 | .lf,_,h=>by cases h
 | .nd k u l r,ha,h=>by
  simp only[Tr.look,uG]at h;split at h
  .rename_i hb;have:=yK hb;subst this;simp only[Option.some.injEq]at h;subst h;exact ha.1
  .split at h
   .exact Tr.look_ok ha.2.1 h
   .exact Tr.look_ok ha.2.2 h
def ekOf(P:Program)(t:TypeId):Option EK :=
 match P.underlying t with
 |some (.int k)=>some (.int k)
 |some .bool=>some .bool
 |some .string=>some .string
 |_=>none
def Ak5(P:Program):Nat->List Field->Option (List EK)
 |_,[]=>some []
 |i,f::fs=>match ekOf P f.type,Ak5 P (i+1) fs with
  |some k, some r=> if f.name ≠ "_" /\ f.offset = i then some (k::r) else none
  |_,_=>none
def Ak4{P:Program}:∀{fs:List Field} {i:Nat} {r:List EK},Ak5 P i fs=some r->Aph P i fs r
 |[],i,r,h=>by simp only[Ak5,Option.some.injEq]at h;subst h;trivial
 |f::fs,i,r,h=>by
  simp only[Ak5]at h;split at h
  .rename_i k q hk hq;split at h
   .rename_i hc;cases h;refine⟨hc.1,hc.2,?_,Ak4 hq⟩;unfold ekOf at hk;split at hk<;>first|(cases hk;assumption)|cases hk
   .cases h
  .cases h
def Azp(P:Program)(t:TypeId):Option (List EK) :=
 match P.underlying t with
 |some (.struct fs)=>if P.stoodInHeld t=false/\P.eqGuardType P.depth t=false then Ak5 P 0 fs.toList else none
 |_=>none
def Azo{P:Program}{t:TypeId}{r:List EK}(h:Azp P t=some r):EqOK P t r:=by
 unfold Azp at h;split at h
 .rename_i fs th;split at h
  .rename_i hc;have hf:P.fieldsOf t=fs:=by simp[Program.fieldsOf,th]
   exact⟨by rw[hf];exact th,hc.1,hc.2,by rw[hf];exact Ak4 h⟩
  .cases h
 .cases h
def Abp(fn:Func):Code:=fn.body.getD .skip
def Aj8{k:Type 1}:List k->Nat->Bool
 |[],_=>true
 |_::_,0=>false
 |_::l,n+1=>Aj8 l n
def Aad{k:Type 1}:∀{l:List k} {n:Nat},Aj8 l n=true->l.length<=n
 |[],_,_=>xX _
 |_::_,0,h=>by cases h
 |_::l,n+1,h=>Nat.succ_le_succ (Aad (l:=l) h)
def Sw{P:Program}(Γ:TyE P)(hm:P.follows .mixedOrders=true)(N:Nat){f:FuncId}{fn:Func}{c:Code}{A:List SV}{H:Obs}{R:SV}{H':Obs}(hF:Fun P f fn c){n:Nat}(l6:fn.ntmps=n)(hn:Aj8 A n=true)(h:∀(F:Fr) (hF:∀k,F.k0 k≠.new->k∈H.keys),O3 ⟨P,Γ.toTy,F,n,Xl P fn F R H',H.keys,hF⟩ Γ N [.code c] ⟨argσ A,mkh H⟩):Sy.Spec P f A H R H' :=
 Ask Γ.toTy hF.1 hF.2 l6 (Aad hn) λF hF=>run Γ hm N (h F hF)
variable {C:Cx} {k:List KI} {s:SS}
theorem Mh{all:Array Oper}{o:Oper}{rest:List Oper}{f:FuncId}{fn:Func}{c:Code}{xs:List Operand}{ts:Array TypeId}{A:List SV}{R:SV}(hs:Sy.Spec C.P f A [] R [])(hf:Fun C.P f fn c)(h:o.op=.call ⟨.value (.func f),xs.toArray,ts⟩)(hA:A=xs.map (ev s))(ar:(B7 [] A&&R.inn [])=true)(hd:V6 C.n o=true)(hw:En C.n all o s=some true)(hg:G C (.ops all rest::k) (s.upd o.dst ⟨R,[],[]⟩)):G C (.ops all (o::rest)::k) s:=by
 have hid:∀x:SV,x.ren (Bf [])=x:=λx=>Be x
 have mh:∀x:List SV,Lc (Bf []) x=x:=λx=>Jw x
 have:=Ad (s:=s) (o:=o) [] h hf hs (by rw[mh];exact hA) trivial (by simp_all[Mc,Xs,Afu,Obs.keys]) trivial;rw[hid]at this;exact Ai this hd hw hg
theorem Az4{all:Array Oper}{done:List Stp}{o:Oper}{rest:List Oper}{f:FuncId}{fn:Func}{c:Code}{xs:List Operand}{ts:Array TypeId}{A:List SV}{R:SV}(hs:Sy.Spec C.P f A [] R [])(hf:Fun C.P f fn c)(h:o.op=.call ⟨.value (.func f),xs.toArray,ts⟩)(hA:A=xs.map (ev s))(ar:(B7 [] A&&R.inn [])=true)(hi:all[done.length]? = some o)(hw:En C.n all o s=some true)(hg:DR C k all (done++[⟨done.length,o,⟨R,[],[]⟩,true⟩]) rest (s.upd o.dst ⟨R,[],[]⟩)):DR C k all done (o::rest) s:=by
 have hid:∀x:SV,x.ren (Bf [])=x:=λx=>Be x
 have mh:∀x:List SV,Lc (Bf []) x=x:=λx=>Jw x
 have:=Ad (s:=s) (o:=o) [] h hf hs (by rw[mh];exact hA) trivial (by simp_all[Mc,Xs,Afu,Obs.keys]) trivial;rw[hid]at this;exact Cc this hi hw hg (by simp[Kc,Qw,h])
theorem Ark{all:Array Oper}{o:Oper}{rest:List Oper}(V:List Nat){f:FuncId}{fn:Func}{c:Code}{xs:List Operand}{ts:Array TypeId}{A:List SV}{R:SV}(hs:Sy.Spec C.P f A [] R [])(hf:Fun C.P f fn c)(h:o.op=.call ⟨.value (.func f),xs.toArray,ts⟩)(hA:VwL s V (xs.map (ev s)) A)(ar:(B7 [] A&&R.plain)=true)(hd:V6 C.n o=true)(hw:En C.n all o s=some true)(hg:G C (.ops all rest::k) (s.upd o.dst ⟨R,V,[]⟩)):G C (.ops all (o::rest)::k) s:=by
 simp only[zG]at ar;exact Ai (I0 V h hf hs hA ar.1 ar.2) hd hw hg
def E4(P:Program)(f:FuncId)(A:List SV)(R:SV):Prop:=(∃fn c,Fun P f fn c)/\Sy.Spec P f A [] R []
theorem call0E{all:Array Oper}{o:Oper}{rest:List Oper}{f:FuncId}{B A:List SV}{R:SV}(hE:Ug C.P o s [] f B)(hs:Sy.Spec C.P f A [] R [])(hA:A=B)(ar:(B7 [] A&&R.inn [])=true)(hd:V6 C.n o=true)(hw:En C.n all o s=some true)(hg:G C (.ops all rest::k) (s.upd o.dst ⟨R,[],[]⟩)):G C (.ops all (o::rest)::k) s:=by
 have hid:∀x:SV,x.ren (Bf [])=x:=λx=>Be x
 have mh:∀x:List SV,Lc (Bf []) x=x:=λx=>Jw x
 have:=Av (s:=s) (o:=o) [] hE hs (by rw[mh];exact hA) trivial (by simp_all[Mc,Xs,Afu,Obs.keys]) trivial;rw[hid]at this;exact Ai this hd hw hg
theorem D4{all:Array Oper}{o:Oper}{rest:List Oper}{f:FuncId}{x:Operand}{xs:List Operand}{ts:Array TypeId}{first cap A:List SV}{R:SV}(hs:E4 C.P f A R)(h:o.op=.call ⟨.value x,xs.toArray,ts⟩)(hx:ev s x=.clo (.func f) first cap)(hA:A=first++xs.map (ev s)++cap)(ar:(B7 [] A&&R.inn [])=true)(hd:V6 C.n o=true)(hw:En C.n all o s=some true)(hg:G C (.ops all rest::k) (s.upd o.dst ⟨R,[],[]⟩)):G C (.ops all (o::rest)::k) s:=by
 obtain ⟨⟨fn,c,hf⟩,hs⟩:=hs;exact call0E (Aw h hx hf) hs hA ar hd hw hg
theorem A2n{all:Array Oper}{done:List Stp}{o:Oper}{rest:List Oper}{f:FuncId}{B A:List SV}{R:SV}(hE:Ug C.P o s [] f B)(hn:(Kc o||Qw o)=false)(hs:Sy.Spec C.P f A [] R [])(hA:A=B)(ar:(B7 [] A&&R.inn [])=true)(hi:all[done.length]? = some o)(hw:En C.n all o s=some true)(hg:DR C k all (done++[⟨done.length,o,⟨R,[],[]⟩,true⟩]) rest (s.upd o.dst ⟨R,[],[]⟩)):DR C k all done (o::rest) s:=by
 have hid:∀x:SV,x.ren (Bf [])=x:=λx=>Be x
 have mh:∀x:List SV,Lc (Bf []) x=x:=λx=>Jw x
 have:=Av (s:=s) (o:=o) [] hE hs (by rw[mh];exact hA) trivial (by simp_all[Mc,Xs,Afu,Obs.keys]) trivial;rw[hid]at this;exact Cc this hi hw hg hn
theorem Apy{all:Array Oper}{done:List Stp}{o:Oper}{rest:List Oper}{f:FuncId}{x:Operand}{xs:List Operand}{ts:Array TypeId}{first cap A:List SV}{R:SV}(hs:E4 C.P f A R)(h:o.op=.call ⟨.value x,xs.toArray,ts⟩)(hx:ev s x=.clo (.func f) first cap)(hA:A=first++xs.map (ev s)++cap)(ar:(B7 [] A&&R.inn [])=true)(hi:all[done.length]? = some o)(hw:En C.n all o s=some true)(hg:DR C k all (done++[⟨done.length,o,⟨R,[],[]⟩,true⟩]) rest (s.upd o.dst ⟨R,[],[]⟩)):DR C k all done (o::rest) s:=by
 obtain ⟨⟨fn,c,hf⟩,hs⟩:=hs;exact A2n (Aw h hx hf) (by simp[Kc,Qw,h]) hs hA ar hi hw hg
theorem Az3{all:Array Oper}{done:List Stp}{o:Oper}{rest:List Oper}(V:List Nat){f:FuncId}{fn:Func}{c:Code}{xs:List Operand}{ts:Array TypeId}{A:List SV}{R:SV}(hs:Sy.Spec C.P f A [] R [])(hf:Fun C.P f fn c)(h:o.op=.call ⟨.value (.func f),xs.toArray,ts⟩)(hA:VwL s V (xs.map (ev s)) A)(ar:(B7 [] A&&R.plain)=true)(hi:all[done.length]? = some o)(hw:En C.n all o s=some true)(hg:DR C k all (done++[⟨done.length,o,⟨R,V,[]⟩,true⟩]) rest (s.upd o.dst ⟨R,V,[]⟩)):DR C k all done (o::rest) s:=by
 simp only[zG]at ar;exact Cc (I0 V h hf hs hA ar.1 ar.2) hi hw hg (by simp[Kc,Qw,h])
theorem Auz{P:Program}(w:World)(dT sT ty elem:TypeId)(d a:Option Addr)(mi vy mj vz:Nat){i:TypeInfo}(hu:P.underlying dT=some (.slice elem))(hq:P.info? elem=some i)(_hi:i.size=1)(hn:min mj mi=0):(Builtin.copy_ #[dT,sT] ty #[.slice d mi vy,.slice a mj vz]).run P w=.ok (.int .i64 0) w:=by
 have hl:∀(x:Addr),(loadCells x 0).run P w=.ok #[] w:=λx=>kS (run_loadCells_list (P:=P) w x [] qq)
 have l6:Nat.min mj mi=0:=hn;cases d<;>cases a<;>simp[Builtin.copy_,run_underlying hu,Builtin.lenOf,Builtin.firstCells,sizeOf,typeInfo,hq,l6,storeCells,hl]<;>rfl
theorem Ae6{P:Program}(w w':World)(dT sT ty elem:TypeId)(d a:Addr)(mi vy mj vz:Nat){i:TypeInfo}(cs:List Value)(hu:P.underlying dT=some (.slice elem))(hq:P.info? elem=some i)(hi:i.size=1)(hn:cs.length=min mj mi)(jl:∀j v,cs[j]? = some v->w.cell? (a.add j)=some v)(br:(storeCells d cs 0).run P w=.ok () w'):(Builtin.copy_ #[dT,sT] ty #[.slice (some d) mi vy,.slice (some a) mj vz]).run P w=.ok (.int .i64 cs.length) w':=by
 have hl:=run_loadCells_list (P:=P) w a cs jl;have l6:cs.length=Nat.min mj mi:=hn;simp[Builtin.copy_,run_underlying hu,Builtin.lenOf,Builtin.firstCells,sizeOf,typeInfo,hq,hi,<-l6,hl,br];rfl
theorem Wy{P:Program}(Γ:Ty P){o:Oper}{s:SS}{t:TypeId}{ti:TI}{et:TypeId}{eb k:Nat}{ez:List Value}{x y:Operand}{ks:List Nat}{d:Type}{e:d->SV}{l m:List d}(h:o.op=.call ⟨.builtin .copy,#[x,y],#[t,t]⟩)(ht:Γ.get t=some ti)(hk:ti.k=.slice et 1 eb ez)(hx:ev s x=.osl k)(ho':s.h k=.row 1 e l)(hs:AppSrc s 1 (ev s y) ks m.length (rowF e m)):Good P o s ⟨.val (.int .i64 (min m.length l.length:Nat)),ks,[(k,.row 1 e (m.take l.length++l.drop m.length))]⟩:=by
 intro r a w hi hr ho N Q hN;have h1:=hr x (by simp[h,Op.operands,Call.operands]);have h2:=hr y (by simp[h,Op.operands,Call.operands]);have h3:=ho k (.inr (by simp[Up.ws]));rw[ho']at h3;obtain ⟨hu,i,z,q1,q2,q3,q4,q5⟩:=Cs Γ ht hk;have jl:=hs.src h2 (λj hj=>ho j (.inl hj));have hlen:∃ad cap,a.eval x=.slice ad l.length cap/\(l≠[]->∃b c,r k=.row b l.length c/\ad=some ⟨b,0,none⟩):=by
  have:=Ob.len_ok (ob:=.row 1 e l) (n:=l.length) rfl h3 (v:=a.eval x) (by rw[<-hx];exact h1);obtain ⟨ad,cap,e1,e2⟩:=this;exact⟨ad,cap,e1,λhl=>e2 (kS hl)⟩
 obtain ⟨ad,cap,e1,e2⟩:=hlen;by_cases hz:min m.length l.length=0
 .have kl:m.take l.length++l.drop m.length=l:=by
   rcases uH m.length with h0|h0
   .have:m=[]:=vH.1 h0;subst this;simp
   .have:l=[]:=vH.1 z_;subst this;simp
  have m7:∃a' c',a.eval y=.slice a' m.length c':=by
   rcases jl with ⟨h0,_,a',c',h4⟩|⟨b,off,c',news,h4,_⟩
   .exact⟨a',c',by rw[h4,h0]⟩
   .exact⟨_,_,h4⟩
  obtain ⟨a',c',h4⟩:=m7;have au:(execOp a.eval o).run P w=.ok (.value (.int .i64 (min m.length l.length:Nat))) w:=by
   have:=Auz (P:=P) w t t o.type et ad a' l.length cap m.length c' hu q1 q2 hz;rw[hz];simp[execOp,h,resolve,invoke,builtin,e1,h4,this]
  simp only[Oper.wp,au,Oper.upon];refine hN _ r w ((J1 [] r hi).1.weaken qq) hi (by simp[Rd]) (λp hp=>?_);simp only[zZ]at hp;subst hp;rw[kl];exact h3
 .have hl:l≠[]:=by rintro rfl;simp at hz
  have h4:=h3.rowAt hl;obtain ⟨b,d5,cs,T,fr,f1,f2,f3,f4,f5,f6⟩:=h4;obtain ⟨b',c',g1,g2⟩:=e2 hl;rw[f1]at g1;cases g1;rcases jl with ⟨h0,_⟩|⟨b2,off,c2,news,g3,g4,g5,g6,g7⟩
  .simp[h0]at hz
  .have hn:(news.take (min m.length l.length)).length=min m.length l.length:=by simp;omega
   obtain ⟨w',k1,k2,k3,k4,k5,k6,k7⟩:=Dl P b 0 T fr (news.take (min m.length l.length)) 0 cs w f2 f3 (by rw[hn];omega) (λ v hv=>g5 v (wM hv));have hc:=Ae6 (P:=P) w w' t t o.type et ⟨b,0,none⟩ ⟨b2,off,none⟩ l.length cap m.length c2 (news.take (min m.length l.length)) hu q1 q2 hn (λ j v hv=>by
    rw[Addr.add_lit];refine g6 j v ?_;rw[vT]at hv;split at hv
    .exact hv
    .cases hv) k1
   rw[hn]at hc;have au:(execOp a.eval o).run P w=.ok (.value (.int .i64 (min m.length l.length:Nat))) w':=by
    subst g2;simp[execOp,h,resolve,invoke,builtin,e1,g3,hc]
   simp only[Oper.wp,au,Oper.upon];obtain ⟨st,inv⟩:=Mx hi (k:=k) (b:=b) (by rw[f1];rfl) k3 k4 k5 k6 k7;refine hN _ r w' (st.weaken (by simp[Up.ws])) inv (by simp[Rd]) (λp hp=>?_);simp only[zZ]at hp;subst hp;have kf:(m.take l.length++l.drop m.length).length=l.length:=by simp;omega
   refine .inr ⟨b,d5,_,T,fr,by rw[kf];exact f1,k2,by rw[Cj];exact f3,by rw[Cj];exact f4,by rw[kf];exact f5,?_⟩;rintro j x ⟨hj,rfl⟩;rw[kf]at hj;refine⟨by rw[kf];exact hj,?_⟩;have bj:=My cs (news.take (min m.length l.length)) 0;by_cases yn:j<m.length
   .obtain ⟨_,u,u1,u2,u3,u4⟩:=g7 j (e m[j]) ⟨yn,rfl⟩;refine⟨u,?_,u2,u3,λi hi'=>?_⟩
    .have:(m.take l.length++l.drop m.length)[j]=m[j]:=by
      rw[yT kO,wH]
     rw[this];exact RdD.keep st.keeps _ _ u1
    .have dq:i=0:=by omega
     subst dq;simp only[Nat.mul_one,Nat.add_zero]at u4|-;rw[bj _ z_,zE z_,vT,zE z_];have:=u4 0 z_;simpa using this
   .obtain ⟨_,u,u1,u2,u3,u4⟩:=f6 j (e l[j]) ⟨hj,rfl⟩;refine⟨u,?_,u2,u3,λi hi'=>?_⟩
    .have:(m.take l.length++l.drop m.length)[j]'(by rw[kf];exact hj)=l[j]:=by
      rw[xR kO,vN];congr 1;simp;omega
     rw[this];exact RdD.keep st.keeps _ _ u1
    .have dq:i=0:=by omega
     subst dq;simp only[Nat.mul_one,Nat.add_zero]at u4|-;rw[bj _ z_,zD z_];have:=u4 0 z_;simpa using this
def Al4(C:Cx)(n:Nat)(L:Nat->List (Nat×SV))(O:Nat->Obs)(i:Nat)(a:Act)(w:World):Prop :=
 ∃x':{j:Nat // j<=n},∃k,n-x'.1<n-i/\St C.F C.n (mkS (L x'.1) (O x'.1)) k a w
theorem A8{C:Cx}{k:List KI}{s:SS}{body:Code}(n:Nat)(L:Nat->List (Nat×SV))(O:Nat->Obs)(a:List (Nat×Nat))(a6:Sub C s a (L 0) (O 0))(h:∀i,i<=n->G C (.code body::.inv (Al4 C n L O i)::k) (mkS (L i) (O i))):G C (.code (.loop body)::k) s :=
 Wj (α:={j:Nat // j<=n}) (λx=>L x.1) (λx=>O x.1) (λx=>n-x.1) ⟨0,xX _⟩ a a6 (λx=>h x.1 x.2)
theorem Ax{C:Cx}{k:List KI}{s:SS}{n:Nat}{L:Nat->List (Nat×SV)}{O:Nat->Obs}{i:Nat}(a:List (Nat×Nat))(hi:i+1<=n)(a6:Sub C s a (L (i+1)) (O (i+1))):G C (.inv (Al4 C n L O i)::k) s :=
 Ye (α:={j:Nat // j<=n}) (L:=λx=>L x.1) (O:=λx=>O x.1) (μ:=λx=>n-x.1) (x:=⟨i,by omega⟩) ⟨i+1,hi⟩ a (by simp only;omega) a6
inductive SrcT{α:Type}(s:SS)(sz:Nat)(e:α->SV):SV->List Nat->List α->Prop
 |sl {l:List α}:SrcT s sz e (.sl sz e l) [] l
 |row {k:Nat} {l:List α} (h:s.h k=.row sz e l):SrcT s sz e (.osl k) [k] l
 |lit {k:Nat} {l:List α} {svs:List SV} (h:s.h k=.lit sz svs) (hl:l.map e=svs):SrcT s sz e (.osl k) [k] l
 |nil:SrcT s sz e (.val (.slice none 0 0)) [] []
inductive BaseT{α:Type}(s:SS)(sz:Nat)(e:α->SV):SV->Option Nat->List α->Prop
 |nil:BaseT s sz e (.val (.slice none 0 0)) none []
 |row {k:Nat} {l:List α} (h:s.h k=.row sz e l):BaseT s sz e (.osl k) (some k) l
 |lit {k:Nat} {l:List α} {svs:List SV} (h:s.h k=.lit sz svs) (hl:l.map e=svs):BaseT s sz e (.osl k) (some k) l
theorem SrcT.src{a:Type}{s:SS}{sz:Nat}{e:a->SV}{x:SV}{ks:List Nat}{m:List a}(h:SrcT s sz e x ks m):∃g,AppSrc s sz x ks m.length g/\∀i x,rowF e m i x->g i x:=by
 cases h with
 |sl=>exact⟨_,.sl,λ_ _ h=>h⟩
 |row h=>exact⟨_,.row h,λ_ _ h=>h⟩
 | @lit k _ svs h hl=>exact⟨Acq svs,by have:=AppSrc.lit (sz:=sz) h;rwa [<-hl,yZ,hl]at this,λi x hx=>Q6 hl i x hx⟩
 |nil=>exact⟨_,.nil,λi x hx=>by obtain ⟨h,_⟩:=hx;simp at h⟩
theorem BaseT.base{a:Type}{s:SS}{sz:Nat}{e:a->SV}{x:SV}{k:Option Nat}{m:List a}(h:BaseT s sz e x k m):∃g,AppBase s sz x k m.length g/\∀i x,rowF e m i x->g i x:=by
 cases h with
 |row h=>exact⟨_,.row h,λ_ _ h=>h⟩
 | @lit k _ svs h hl=>exact⟨Acq svs,by have:=AppBase.lit (sz:=sz) h;rwa [<-hl,yZ,hl]at this,λi x hx=>Q6 hl i x hx⟩
 |nil=>exact⟨_,.nil,λi x hx=>by obtain ⟨h,_⟩:=hx;simp at h⟩
theorem Ah{P:Program}(Γ:Ty P){o:Oper}{s:SS}(d:Nat){b:Type}{e:b->SV}{l m:List b}{t:TypeId}{ti:TI}{et:TypeId}{sz eb:Nat}{ez:List Value}{x y:Operand}{k:Option Nat}{ks:List Nat}(h:o.op=.call ⟨.builtin .append,#[x,y],#[t,t]⟩)(hd:s.h d=.fresh)(ht:Γ.get t=some ti)(hk:ti.k=.slice et sz eb ez)(ou:ez.length=sz)(hb:BaseT s sz e (ev s x) k l)(hs:SrcT s sz e (ev s y) ks m)(pn:∀j,k=some j->j≠d)(cz:(l.length+m.length)*eb<=140737488355328)(sg:l.length+m.length<=9223372036854775807):Good P o s ⟨.osl d,ks,Uc k d (.row sz e (l++m))⟩:=by
 obtain ⟨f,hb,hf⟩:=hb.base;obtain ⟨g,hs,hg⟩:=hs.src;exact fA Γ h hd ht hk ou hb hs pn cz sg λa w hr=>A0c hr qq (Awv hf hg)
theorem Hv{P:Program}(Γ:Ty P){o:Oper}{s:SS}{src dst:TypeId}{si di ei:TI}{x:Operand}{et:TypeId}{eb:Nat}{ez:List Value}{ks:List Nat}{bs:List UInt8}(h:o.op=.convert src dst x)(hs:Γ.get src=some si)(hsk:si.k=.slice et 1 eb ez)(he:Γ.get et=some ei)(yy:ei.k=.int .u8)(hd:Γ.get dst=some di)(yz:di.k=.string)(hx:SrcT s 1 Al (ev s x) ks bs):Good P o s ⟨Ar ⟨bs.toArray⟩,ks,[]⟩:=by
 obtain ⟨g,hx,hg⟩:=hx.src;exact aV Γ bs h hs hsk he yy hd yz hx E (λi hi=>hg i _ ⟨hi,E⟩)
theorem Aqb{C:Cx}{kk:List KI}{s:SS}(k d:Nat)(r:List Nat){sz:Nat}{c:Type}{e:c->SV}{l:List c}(h:s.h k=.row sz e l)(hd:s.h d=.fresh)(cm:k≠d)(hr:∀i∈r,s.σ i=.osl k)(hg:G C kk ⟨freezeσ s.σ (.osl d) r,upd (upd s.h k .non) d (.row sz e l)⟩):G C kk s:=λm a w hs=>by
 have ck:=hs.obj k;rw[h]at ck;have ay:m d=.new:=by have:=hs.obj d;rwa [hd]at this
 have fin:∀m':Ka,Step (λj=>j=k\/j=d) m w m' w->Inv m' w->(∀v,Rd m w (.osl k) v->Rd m' w (.osl d) v)->ObOK m' w d (.row sz e l)->den C.P C.B kk .normal a w:=by
  intro m' st inv hv ho;refine hg m' a w ⟨hs.defers,hs.size,inv,hs.ctx.step inv st,λj=>?_,λj=>?_⟩
  .refine freezeσ_ok r _ j (Rd.step st _ _ (hs.slot j)) (λhj=>hv _ ?_);have:=hs.slot j;rwa [hr j hj]at this
  .show ObOK _ w j (upd (upd s.h k .non) d (.row sz e l) j);by_cases hj:j=d
   .subst hj;rw[B1];exact ho
   .rw[Cv _ _ hj];by_cases cn:j=k
    .subst cn;rw[B1];trivial
    .rw[Cv _ _ cn];exact ObOK.step st (λe=>e.elim cn hj) _ (hs.obj j)
 rcases ck with ⟨h1,rfl⟩|⟨b,cap,cs,T,fr,e1,e2,e3,e4,e5,e6⟩
 .have st:=Ko (Lx hs.inv (some k)) (by show D8 m k .dead d=.new;rw[Cb _ _ (Ne.symm cm)];exact ay) (e:=.nil) (Grew.refl w) (λb hb=>by cases hb);refine fin _ (((J4 (some k)).weaken (λj hj=>.inl (Option.some.inj hj).symm)).trans (st.1.weaken (λj hj=>.inr hj))) st.2 (λv hv=>?_) (.inl ⟨Az _ _ _,E⟩);simp only[Rd,h1]at hv;simp[Rd,Az,hv]
 .obtain ⟨st,inv⟩:=Q4 (n':=l.length) (w':=w) hs.inv e1 ay rfl rfl rfl rfl (λ_ _=>rfl);refine fin _ st inv (λv hv=>?_) (.inr ⟨b,cap,cs,T,fr,Az _ _ _,e2,e3,e4,e5,λi x hx=>?_⟩)
  .simp only[Rd,e1]at hv;simp[Rd,Az,hv]
  .obtain ⟨q1,u,q2,q3⟩:=e6 i x hx;exact⟨q1,u,RdD.keep st.keeps _ _ q2,q3⟩
mutual
def frz(d:Nat)(x:SV):SV->SV
 | .osl k=>bif Nat.beq k d then x else .osl k
 | .agg l=>.agg (Aaz d x l)
 | .tup l=>.tup (Aaz d x l)
 | .ifc t y=>.ifc t (frz d x y)
 | .clo f g l=>.clo f (Aaz d x g) (Aaz d x l)
 |y=>y
def Aaz(d:Nat)(x:SV):List SV->List SV
 |[]=>[]
 |y::l=>frz d x y::Aaz d x l
end
mutual
theorem Agx{a a':Ka}{w:World}{K:Nat->Prop}{d:Nat}{x:SV}(st:Step K a w a' w)(hx:∀v,Rd a w (.osl d) v->Rd a' w x v):∀(y:SV) (v:Value),Rd a w y v->Rd a' w (frz d x y) v
 | .osl k,v,h=>by
  unfold frz;by_cases hk:k=d
  .subst hk;rw[show Nat.beq k k=true from tK k];exact hx v h
  .rw[show Nat.beq k d=false from by cases hb:Nat.beq k d with|false=>rfl|true=>exact zX (yK hb) hk];exact Rd.step st _ _ h
 | .agg l,v,h=>by
  simp only[Rd]at h;unfold frz;simp only[Rd];obtain ⟨cs,h1,h2,h3⟩:=h;exact⟨cs,h1,h2,K4 st hx l cs h3⟩
 | .tup l,v,h=>by
  simp only[Rd]at h;unfold frz;simp only[Rd];obtain ⟨cs,h1,h3⟩:=h;exact⟨cs,h1,K4 st hx l cs h3⟩
 | .ifc t y,v,h=>by
  simp only[Rd]at h;unfold frz;simp only[Rd];obtain ⟨u,h1,h3⟩:=h;exact⟨u,h1,Agx st hx y u h3⟩
 | .clo f g l,v,h=>by
  simp only[Rd]at h;unfold frz;simp only[Rd];obtain ⟨fs,cs,h1,h2,h3⟩:=h;exact⟨fs,cs,h1,K4 st hx g fs h2,K4 st hx l cs h3⟩
 | .top,v,h=>by unfold frz;exact Rd.step st _ _ h
 | .val u,v,h=>by unfold frz;exact Rd.step st _ _ h
 | .sl sz e l,v,h=>by unfold frz;exact Rd.step st _ _ h
 | .ref sz z o,v,h=>by unfold frz;exact Rd.step st _ _ h
 | .ptr k o,v,h=>by unfold frz;exact Rd.step st _ _ h
 | .rpt k sz i o,v,h=>by unfold frz;exact Rd.step st _ _ h
theorem K4{k k':Ka}{w:World}{K:Nat->Prop}{d:Nat}{x:SV}(st:Step K k w k' w)(hx:∀v,Rd k w (.osl d) v->Rd k' w x v):∀(l:List SV) (vs:List Value),RdL k w l vs->RdL k' w (Aaz d x l) vs
 |[],vs,h=>by
  unfold Aaz;simpa [RdL] using h
 |y::l,vs,h=>by
  simp only[RdL]at h;unfold Aaz;simp only[RdL];obtain ⟨v,r,h1,h2,h3⟩:=h;exact⟨v,r,h1,Agx st hx y v h2,K4 st hx l r h3⟩
end
def Aun(d:Nat)(x:SV):Ob->Ob
 | .box l=>.box (Aaz d x l)
 | .rown sz e l i cl=>.rown sz e l i (Aaz d x cl)
 | .tbox T l=>.tbox T (Aaz d x l)
 |o=>o
def Aj{C:Cx}{k:List KI}{s:SS}(d:Nat){sz:Nat}{c:Type}{e:c->SV}{l:List c}(h:s.h d=.row sz e l)(hg:G C k ⟨λi=>frz d (.sl sz e l) (s.σ i),λj=>bif Nat.beq j d then .non else Aun d (.sl sz e l) (s.h j)⟩):G C k s:=λr a w hs=>by
 have ck:=hs.obj d;rw[h]at ck;have st:=J4 (κ:=r) (w:=w) (some d);have inv:=Lx hs.inv (some d);have hx:∀v,Rd r w (.osl d) v->Rd (D8 r d .dead) w (.sl sz e l) v:=λv hv=>by
  rcases ck with ⟨h1,rfl⟩|h1
  .simp only[Rd,h1]at hv;simp only[Rd,RdD];exact .inl ⟨by simp,none,0,hv⟩
  .refine h1.freeze hv st.keeps.out (λb hb=>⟨hs.inv.bnd d b hb,?_⟩);rintro (⟨q,hq⟩|hq)
   .by_cases r9:q=d
    .subst r9;rw[Az]at hq;cases hq
    .rw[Cb _ _ r9]at hq;exact r9 (hs.inv.inj q d b hq hb)
   .exact hs.inv.apart d b hb hq
 refine hg (D8 r d .dead) a w ⟨hs.defers,hs.size,inv,hs.ctx.step inv st,λj=>Agx st hx _ _ (hs.slot j),λj=>?_⟩;show ObOK _ w j (bif Nat.beq j d then .non else Aun d (.sl sz e l) (s.h j));by_cases hj:j=d
 .subst hj;rw[show Nat.beq j j=true from tK j];trivial
 .rw[show Nat.beq j d=false from by cases hb:Nat.beq j d with|false=>rfl|true=>exact zX (yK hb) hj];have hb:=ObOK.step st (λe=>hj (Option.some.inj e).symm) _ (hs.obj j);have h0:=hs.obj j;show ObOK _ w j (Aun d (.sl sz e l) (s.h j));cases hh:s.h j with
  |box m=>
   rw[hh]at h0 hb;obtain ⟨b,cs,T,fr,e1,e2,e3,e4,e5⟩:=h0;exact⟨b,cs,T,fr,by show D8 r d .dead j=_;rw[Cb _ _ hj];exact e1,e2,e3,e4,K4 st hx m cs e5⟩
  |tbox T m=>
   rw[hh]at h0 hb;obtain ⟨b,cs,fr,e1,e2,e3,e4,e5⟩:=h0;exact⟨b,cs,fr,by show D8 r d .dead j=_;rw[Cb _ _ hj];exact e1,e2,e3,e4,K4 st hx m cs e5⟩
  |fresh=>rw[hh]at hb;exact hb
  |non=>rw[hh]at hb;exact hb
  |row d8 e' l'=>rw[hh]at hb;exact hb
  |lit d8 svs=>rw[hh]at hb;exact hb
  |glob d8 x' g'=>rw[hh]at hb;exact hb
  |pin b' n' d5 d8 e' l'=>rw[hh]at hb;exact hb
  |dat v' d8 e' l'=>rw[hh]at hb;exact hb
  |trow T' m'=>rw[hh]at hb;exact hb
  |rown d8 e' l' i' yc=>
   rw[hh]at h0;obtain ⟨b2,sq,w4,T2,ya,f1,f2,f3,f4,f5,f6,f7,zf,v1,v2,v3,v4⟩:=h0;refine⟨b2,sq,w4,T2,ya,by show D8 r d .dead j=_;rw[Cb _ _ hj];exact f1,f2,f3,f4,f5,λm y hm hy=>?_,f7,zf,v1,v2,K4 st hx yc zf v3,v4⟩;obtain ⟨g0,u,g1,g2⟩:=f6 m y hm hy;exact⟨g0,u,RdD.keep st.keeps _ _ g1,g2⟩
def Afj(C:Cx)(n:Nat)(I:Nat->Prop)(L:Nat->List (Nat×SV))(O:Nat->Obs)(i:Nat)(a:Act)(w:World):Prop :=
 ∃x':{j:Nat // j<=n/\I j},∃k,n-x'.1<n-i/\St C.F C.n (mkS (L x'.1) (O x'.1)) k a w
def A7{C:Cx}{k:List KI}{s:SS}{body:Code}(n:Nat)(I:Nat->Prop)(L:Nat->List (Nat×SV))(O:Nat->Obs)(a:List (Nat×Nat))(h0:I 0)(a6:Sub C s a (L 0) (O 0))(h:∀i,i<=n->I i->G C (.code body::.inv (Afj C n I L O i)::k) (mkS (L i) (O i))):G C (.code (.loop body)::k) s :=
 Wj (α:={j:Nat // j<=n/\I j}) (λx=>L x.1) (λx=>O x.1) (λx=>n-x.1) ⟨0,xX _,h0⟩ a a6 (λx=>h x.1 x.2.1 x.2.2)
def A6{C:Cx}{k:List KI}{s:SS}{n:Nat}{I:Nat->Prop}{L:Nat->List (Nat×SV)}{O:Nat->Obs}{i:Nat}(a:List (Nat×Nat))(h0:I i)(hi:i+1<=n)(h1:I (i+1))(a6:Sub C s a (L (i+1)) (O (i+1))):G C (.inv (Afj C n I L O i)::k) s :=
 Ye (α:={j:Nat // j<=n/\I j}) (L:=λx=>L x.1) (O:=λx=>O x.1) (μ:=λx=>n-x.1) (x:=⟨i,by omega,h0⟩) ⟨i+1,hi,h1⟩ a (by simp only;omega) a6
end Go.Sy
