/- Parts of a proof. -/
import Derived.Test.YtodbnbfjhjcanaaGreatDoorXB11
set_option maxHeartbeats 4000000
set_option linter.all false
namespace Go.Sy.Zaa
open Go.Proofs Go.ChangeShapes Go.WideShapes Go.ChangeAt Go.RowKit
set_option maxRecDepth 100000
section
variable {H:Type} {enc:TypeId×Value->H} {W:World}
theorem A0m{P:Program}{t:TypeId}(ht:P.underlying t=some (.int .u8)):OpN enc P W t Al (λ_=>True) 1:=λn cs y h=>by
 obtain ⟨z,h1,h2,h3,h4⟩:=A4n ht n cs y h;have hz:0<=z/\z<256:=by
  simp only[Lit.wf,zG,zJ]at h1;have a:=h1.1;have b:=h1.2;simp only[IntKind.min,IntKind.max,IntKind.signed,IntKind.bits]at a b;constructor<;>simp at a b<;>omega
 refine⟨UInt8.ofNat z.toNat,Y,h2,h3,?_⟩;have e:Al (UInt8.ofNat z.toNat)=.val (.int .u8 z):=by
  rw[Al,UInt8.toNat_ofNat_of_lt' (by show _<256;omega),yR hz.1]
 rw[e];exact h4
theorem Ab1:Op1 enc Tryz.prog W 22 (λl:List UInt8=>.sl 1 Al l) (λl=>(∀x∈l,True)/\l.length<=maxLen) :=
 Wd Tryz.underlying22 (by kernel_rfl:Tryz.prog.cellsOf 5=1) j_ (λ_=>rfl) (λ_=>rfl) (A0m Tryz.underlying5)
theorem A0k:Op1 enc Tryz.prog W 62 (λl:List Bool=>.sl 1 Ab l) (λl=>(∀x∈l,True)/\l.length<=maxLen) :=
 Wd Tryz.underlying62 (by kernel_rfl:Tryz.prog.cellsOf 4=1) j_ (λ_=>rfl) (λ_=>rfl) (A0n Tryz.underlying4)
def StepM.In(x:StepM):Prop:=wI .i64 x.kind/\wI .i64 x.port/\wI .i64 x.domain/\wI .i64 x.at_/\((∀y∈x.bytes,True)/\x.bytes.length<=maxLen)/\((∀y∈x.up,True)/\x.up.length<=maxLen)
theorem Awc:OpN enc Tryz.prog W 64 Bp StepM.In 6:=λn cs y h=>by
 obtain ⟨xs,m,_,_,hlen,hx,hg⟩:=DataW.trod_struct Tryz.underlying64 h;have hlen:cs.length=6:=hlen.trans (by kernel_rfl:Tryz.prog.cellsOf 64=6);have hx:xs.length=6:=hx
 match cs,hlen with
 |[c0,c1,c2,c3,c4,c5],_=>
  have g0:DataW.trod enc Tryz.prog W 0 (λ_=>true) true m 3 (([c0,c1,c2,c3,c4,c5].drop 0).take (Tryz.prog.cellsOf 3))=xs[0]?:=hg 0 _ rfl;rw[(by kernel_rfl:Tryz.prog.cellsOf 3=1),zR q_]at g0;obtain ⟨z0,p0,r0,o0⟩:=Zz Tryz.underlying3 _ _ _ g0;have g1:DataW.trod enc Tryz.prog W 0 (λ_=>true) true m 3 (([c0,c1,c2,c3,c4,c5].drop 1).take (Tryz.prog.cellsOf 3))=xs[1]?:=hg 1 _ rfl;rw[(by kernel_rfl:Tryz.prog.cellsOf 3=1),zR q_]at g1;obtain ⟨z1,p1,r1,o1⟩:=Zz Tryz.underlying3 _ _ _ g1;have g2:DataW.trod enc Tryz.prog W 0 (λ_=>true) true m 3 (([c0,c1,c2,c3,c4,c5].drop 2).take (Tryz.prog.cellsOf 3))=xs[2]?:=hg 2 _ rfl;rw[(by kernel_rfl:Tryz.prog.cellsOf 3=1),zR q_]at g2;obtain ⟨z2,p2,r2,o2⟩:=Zz Tryz.underlying3 _ _ _ g2;have g3:DataW.trod enc Tryz.prog W 0 (λ_=>true) true m 3 (([c0,c1,c2,c3,c4,c5].drop 3).take (Tryz.prog.cellsOf 3))=xs[3]?:=hg 3 _ rfl;rw[(by kernel_rfl:Tryz.prog.cellsOf 3=1),zR q_]at g3;obtain ⟨z3,p3,r3,o3⟩:=Zz Tryz.underlying3 _ _ _ g3;have g4:DataW.trod enc Tryz.prog W 0 (λ_=>true) true m 22 (([c0,c1,c2,c3,c4,c5].drop 4).take (Tryz.prog.cellsOf 22))=xs[4]?:=hg 4 _ rfl;rw[(by kernel_rfl:Tryz.prog.cellsOf 22=1),zR q_]at g4;obtain ⟨z4,p4,r4,o4⟩:=Ab1 _ _ _ g4;have g5:DataW.trod enc Tryz.prog W 0 (λ_=>true) true m 62 (([c0,c1,c2,c3,c4,c5].drop 5).take (Tryz.prog.cellsOf 62))=xs[5]?:=hg 5 _ rfl;rw[(by kernel_rfl:Tryz.prog.cellsOf 62=1),zR q_]at g5;obtain ⟨z5,p5,r5,o5⟩:=A0k _ _ _ g5;refine⟨⟨z0,z1,z2,z3,z4,z5⟩,⟨p0,p1,p2,p3,p4,p5⟩,E,λc hc=>?_,?_⟩
  .simp only[yI,xH,vJ]at hc;rcases hc with rfl|rfl|rfl|rfl|rfl|rfl<;>assumption
  .simp only[Bp,cellsOf,RdL];exact⟨_,_,E,r0,_,_,E,r1,_,_,E,r2,_,_,E,r3,_,_,E,r4,_,_,E,r5,E⟩
theorem A0j:Op1 enc Tryz.prog W 24 (λl:List StepM=>.sl 6 Bp l) (λl=>(∀x∈l,StepM.In x)/\l.length<=maxLen) :=
 Wd Tryz.underlying24 (by kernel_rfl:Tryz.prog.cellsOf 64=6) j_ (λ_=>rfl) (λ_=>rfl) Awc
theorem op_mac:Op1 enc Tryz.prog W 68 (λm:Nat=>Bl m) (λm=>m<18446744073709551616):=λn c y h=>by
 obtain ⟨z,h1,h2,h3⟩:=Zz (k:=.u64) Tryz.underlying68 n c y h;have hz:0<=z/\z<18446744073709551616:=by
  simp only[Lit.wf,zG,zJ]at h1;have a:=h1.1;have b:=h1.2;simp only[IntKind.min,IntKind.max,IntKind.signed,IntKind.bits]at a b;constructor<;>simp at a b<;>omega
 refine⟨z.toNat,by omega,?_,h3⟩;show Rd k0 W (.val (.int .u64 ((z.toNat:Nat):Int))) c;rw[show ((z.toNat:Nat):Int)=z by omega];exact h2
theorem Aqp{t et:TypeId}{k:Type}{e:k->SV}{p:k->Prop}{sz:Nat}(ht:Tryz.prog.underlying t=some (.slice et))(hO:Op1 enc Tryz.prog W t (λl:List k=>.sl sz e l) (λl=>(∀x∈l,p x)/\l.length<=maxLen)):OpN enc Tryz.prog W t (λl:List k=>.sl sz e l) (λl=>(∀x∈l,p x)/\l.length<=maxLen) 1:=λn cs y h=>by
 have h1:∃c,cs=[c]:=by
  rcases DataW.trod_slice ht h with ⟨kt,_⟩|⟨a,len,cap,elems,rest,m,_,kt,_⟩
  .exact⟨_,kt⟩
  .exact⟨_,kt⟩
 obtain ⟨c,rfl⟩:=h1;obtain ⟨x,h2,h3,h4⟩:=hO n c y h;refine⟨x,h2,E,λc' hc=>by simp only[zX]at hc;subst hc;exact h4,?_⟩;simp only[cellsOf,RdL];exact⟨_,_,E,h3,E⟩
def EntryM.In(x:EntryM):Prop:=x.mac<18446744073709551616/\wI .i64 x.where_/\wI .i64 x.seen
theorem Aqq:OpN enc Tryz.prog W 230 A9 EntryM.In 3:=λn cs y h=>by
 obtain ⟨xs,m,_,_,hlen,hx,hg⟩:=DataW.trod_struct Tryz.underlying230 h;have hlen:cs.length=3:=hlen.trans (by kernel_rfl:Tryz.prog.cellsOf 230=3);have hx:xs.length=3:=hx
 match cs,hlen with
 |[c0,c1,c2],_=>
  have g0:DataW.trod enc Tryz.prog W 0 (λ_=>true) true m 68 (([c0,c1,c2].drop 0).take (Tryz.prog.cellsOf 68))=xs[0]?:=hg 0 _ rfl;rw[(by kernel_rfl:Tryz.prog.cellsOf 68=1),zR q_]at g0;obtain ⟨z0,p0,r0,o0⟩:=op_mac _ _ _ g0;have g1:DataW.trod enc Tryz.prog W 0 (λ_=>true) true m 3 (([c0,c1,c2].drop 1).take (Tryz.prog.cellsOf 3))=xs[1]?:=hg 1 _ rfl;rw[(by kernel_rfl:Tryz.prog.cellsOf 3=1),zR q_]at g1;obtain ⟨z1,p1,r1,o1⟩:=Zz Tryz.underlying3 _ _ _ g1;have g2:DataW.trod enc Tryz.prog W 0 (λ_=>true) true m 3 (([c0,c1,c2].drop 2).take (Tryz.prog.cellsOf 3))=xs[2]?:=hg 2 _ rfl;rw[(by kernel_rfl:Tryz.prog.cellsOf 3=1),zR q_]at g2;obtain ⟨z2,p2,r2,o2⟩:=Zz Tryz.underlying3 _ _ _ g2;refine⟨⟨z0,z1,z2⟩,⟨p0,p1,p2⟩,E,λc hc=>?_,?_⟩
  .simp only[yI,xH,vJ]at hc;rcases hc with rfl|rfl|rfl<;>assumption
  .simp only[A9,cellsOf,RdL];exact⟨_,_,E,r0,_,_,E,r1,_,_,E,r2,E⟩
theorem Awb:Op1 enc Tryz.prog W 23 (λl:List (List EntryM)=>.sl 1 (λt=>.sl 3 A9 t) l) (λl=>(∀x∈l,(∀e∈x,EntryM.In e)/\x.length<=maxLen)/\l.length<=maxLen) :=
 Wd Tryz.underlying23 (by kernel_rfl:Tryz.prog.cellsOf 76=1) j_ (λ_=>rfl) (λ_=>rfl) (Aqp Tryz.underlying76 (Wd Tryz.underlying76 (by kernel_rfl:Tryz.prog.cellsOf 230=3) j_ (λ_=>rfl) (λ_=>rfl) Aqq))
end
open Go.Proofs Go.Proofs.Tryz
attribute [local irreducible]G DR
structure Bx(Q:Prop):Prop where out:Q
def sE{k:Sort _}{a b:k}{K:Prop}(e:a=b)(h:K):a=b/\K:=⟨e,h⟩
def xE{k:Sort _}{a b:k}{K:a=b->Prop}(e:a=b)(h:K e):∃e:a=b,K e:=⟨e,h⟩
def sL{a b:Int}{K:Prop}(e:a<=b)(h:K):a<=b/\K:=⟨e,h⟩
def xL{a b:Int}{K:a<=b->Prop}(e:a<=b)(h:K e):∃e:a<=b,K e:=⟨e,h⟩
def sM{a b:Nat}{K:Prop}(e:a<=b)(h:K):a<=b/\K:=⟨e,h⟩
def sT{a b:Nat}{K:Prop}(e:a<b)(h:K):a<b/\K:=⟨e,h⟩
def xT{a b:Nat}{K:a<b->Prop}(e:a<b)(h:K e):∃e:a<b,K e:=⟨e,h⟩
def sN{a b:Int}{K:Prop}(e:a≠b)(h:K):a≠b/\K:=⟨e,h⟩
def sI{a:Int}{K:Prop}(e:I64 a)(h:K):I64 a/\K:=⟨e,h⟩
def ct{p q:Prop}{b:Bool}(h:q)(e:b=true->False:=by
 intro _h
 first | exact yA _h j_ | exact tS (Eq.trans (Eq.symm (by with_reducible assumption)) _h) | (simp at _h;done) | (simp at _h;omega)):(b=true->p)/\(b=false->q):=⟨λ x=>(e x).elim,λ _=>h⟩
def cf{p q:Prop}{b:Bool}(h:p)(e:b=false->False:=by
 intro _h
 first | exact yA _h j_ | exact tS (Eq.trans (Eq.symm _h) (by with_reducible assumption)) | (simp at _h;done) | (simp at _h;omega)):(b=true->p)/\(b=false->q):=⟨λ _=>h,λ x=>(e x).elim⟩
def S{P Q:Prop}(h:Q)(e:Bx Q->P:=by
 intro hb
 first|refine rg ?_|refine rd z_ ?_|skip
 conv=>whnf
 repeat (first
  |((first|refine aF ?_|refine aT ?_|refine ct ?_|refine cf ?_);(first|refine rg ?_|refine rd z_ ?_);(conv=>whnf))
  | ((first | refine⟨(by kernel_rfl:Ajc _ _=true),?_⟩ | refine sI (by unfold I64;omega) ?_);(conv=>whnf)))
 exact hb.out):P:=e ⟨h⟩
def T{P Q:Prop}(h:Q)(e:Bx Q->P:=by
 intro hb;refine S ?_
 repeat ((first|refine sE (by exact rfl) ?_|refine sL (by first|omega|decide) ?_|refine xL (by first|omega|decide) ?_|refine sT (by first|omega|decide) ?_|refine xT (by first|omega|decide) ?_|refine sM (by first|omega|decide) ?_|refine sN (by first|omega|decide) ?_|refine xE (by exact rfl) ?_);refine S ?_)
 exact hb.out):P:=e ⟨h⟩
def D{P:Prop}(h:P:=by
 apply Ar
 .exact E
 ·(repeat (first|exact ResVs.nil|(apply ResVs.cons;(first|exact .tmp|exact .cell rfl rfl rfl rfl))))
 .exact E
 .exact E):P:=h
def U{P:Prop}(h:P:=by
 refine⟨?_,?_,E,E⟩
 .repeat (first|exact trivial|exact rfl|refine⟨rfl,rfl,?_⟩)
 .repeat (first | exact trivial | refine⟨.inl rfl,rfl,?_⟩ | refine⟨.inr rfl,rfl,?_⟩)):P:=h
def Uo{P:Prop}(h:P:=by
 repeat (first | exact trivial | refine⟨.inl rfl,rfl,?_⟩ | refine⟨.inr rfl,rfl,?_⟩)):P:=h
def doneE{P:Program}{fn:Func}{F:Fr}{R:SV}{H':Obs}{Γ:Go.Sy.Ty P}{n:Nat}{bn:List Nat}{hbn:∀k,F.k0 k≠.new->k∈bn}{k:List KI}{s:SS}{rs:List ResultVar}(hf:fn.results=rs.toArray){xs:List SV}(hx:ResVs Γ.get s rs xs)(hR:R.ren (Bk [])=Afb xs)(ou:R.inn (Obs.keys H')=true)(ar:Sub ⟨P,Γ,F,n,Yp P fn F R H',bn,hbn⟩ s [] [] H'):G ⟨P,Γ,F,n,Yp P fn F R H',bn,hbn⟩ (.code .ret::k) s:=done hf hx [] H' (λ_ h=>h) hR ou ar
def doneF{P:Program}{fn:Func}{F:Fr}{R:SV}{H':Obs}{Γ:Go.Sy.Ty P}{n:Nat}{bn:List Nat}{hbn:∀k,F.k0 k≠.new->k∈bn}{s:SS}{rs:List ResultVar}(hf:fn.results=rs.toArray){xs:List SV}(hx:ResVs Γ.get s rs xs)(hR:R.ren (Bk [])=Afb xs)(ou:R.inn (Obs.keys H')=true)(ar:Sub ⟨P,Γ,F,n,Yp P fn F R H',bn,hbn⟩ s [] [] H'):G ⟨P,Γ,F,n,Yp P fn F R H',bn,hbn⟩ [] s:=A6 hf hx [] H' (λ_ h=>h) hR ou ar
def E0{P:Prop}(h:P:=by
 first|apply doneE|apply doneF
 .exact E
 ·(repeat (first|exact ResVs.nil|(apply ResVs.cons;(first|exact .tmp|exact .cell rfl rfl rfl rfl))))
 .exact E
 .exact E
 .exact U):P:=h
def W{P:Prop}(h:P:=by
 repeat (first | exact trivial | exact rfl | refine⟨rfl,?_⟩)):P:=h
def V{P:Prop}(h:P:=by
 repeat (first | exact trivial | refine⟨.inl rfl,?_⟩ | refine⟨.inr rfl,?_⟩)):P:=h
def C{P:Program}{f:FuncId}{fn:Func}{c:Code}{A:List SV}{R:SV}{Z Q:Prop}(hs:Sy.Spec P f A [] R [])(hf:Fun P f fn c)(h:Q)(e:Sy.Spec P f A [] R []->Fun P f fn c->Bx Q->Z:=by
 intro hs hf hb
 first|refine M4 hs hf rfl rfl rfl rfl rfl ?_|refine A23 hs hf rfl rfl rfl z_ rfl ?_
 refine T ?_;exact hb.out):Z:=e hs hf ⟨h⟩
def X{C:Cx}{k:List KI}{s:SS}{all:Array Oper}{o:Oper}{rest:List Oper}{V:Up}{Q:Prop}(hg:Good C.P o s V)(h:Q)(hd:W5 C.n o=true:=by exact rfl)(hw:E3 C.n all o s=some true:=by exact rfl)(e:Bx Q->G C (.ops all rest::k) (s.upd o.dst V):=by
 intro hb;refine T ?_;exact hb.out):G C (.ops all (o::rest)::k) s:=Aj hg hd hw (e ⟨h⟩)
def Xd{C:Cx}{k:List KI}{s:SS}{all:Array Oper}{done:List Stp}{o:Oper}{rest:List Oper}{V:Up}{Q:Prop}(hg:Good C.P o s V)(h:Q)(hi:all[done.length]? = some o:=by kernel_rfl)(hw:E3 C.n all o s=some true:=by exact rfl)(hn:(Km o || Tf o)=false:=by exact rfl)(e:Bx Q->DR C k all (done++[⟨done.length,o,V,true⟩]) rest (s.upd o.dst V):=by
 intro hb;refine T ?_;exact hb.out):DR C k all done (o::rest) s:=Ce hg hi hw (e ⟨h⟩) hn
def Xe{C:Cx}{k:List KI}{s:SS}{all:Array Oper}{done:List Stp}{o:Oper}{rest:List Oper}{V:Up}{Q:Prop}(hg:Good C.P o s V)(h:Q)(hk:KeepL s V.objs:=by exact W)(hi:all[done.length]? = some o:=by kernel_rfl)(hw:E3 C.n all o s=some true:=by exact rfl)(hn:(Km o || Tf o)=false:=by exact rfl)(e:Bx Q->DR C k all (done++[⟨done.length,o,⟨V.v,V.rd++V.ws,[]⟩,true⟩]) rest (s.upd o.dst ⟨V.v,V.rd++V.ws,[]⟩):=by
 intro hb;refine T ?_;exact hb.out):DR C k all done (o::rest) s:=stepD2 hg hk hi hw (e ⟨h⟩) hn
def gA{P:Prop}(e:P:=by refine T ?_;exact D):P:=e
def gB{S0 F0 S1 F1 P Q:Prop}(s0:S0)(t0:F0)(s1:S1)(t1:F1)(h:Q)(e:S0->F0->S1->F1->Bx Q->P:=by intro s0 t0 s1 t1 b;refine T ?_;refine C s0 t0 ?_;refine C s1 t1 ?_;exact b.out):P:=e s0 t0 s1 t1 ⟨h⟩
def gC{S0 F0 P Q:Prop}(s0:S0)(t0:F0)(h:Q)(e:S0->F0->Bx Q->P:=by intro s0 t0 b;refine T ?_;refine C s0 t0 ?_;exact b.out):P:=e s0 t0 ⟨h⟩
def gK{S0 F0 S1 F1 P Q:Prop}(s0:S0)(t0:F0)(s1:S1)(t1:F1)(h:Q)(e:S0->F0->S1->F1->Bx Q->P:=by intro s0 t0 s1 t1 b;refine C s0 t0 ?_;refine C s1 t1 ?_;exact b.out):P:=e s0 t0 s1 t1 ⟨h⟩
def gN{P Q R:Prop}(h:Q)(k:R)(e:Bx (Q/\R)->P:=by intro b;refine T ?_;exact b.out):P:=e ⟨⟨h,k⟩⟩
end Go.Sy.Zaa
namespace Go.Sy
section
open Go.ChangeShapes Go.WideShapes Go.ChangeAt Go.RowKit
variable {H:Type} {enc:TypeId×Value->H} {P:Program}
end
def Cg{P:Program}(Γ:Ty P){o:Oper}{s:SS}{t:TypeId}{ti:TI}{et:TypeId}{len:Nat}{x y:Operand}{ik:IntKind}{n:Int}{l:List SV}{z:SV}{k:EK}(h:o.op=.index t x y)(ht:Γ.get t=some ti)(hk:ti.k=.array et len 1)(he:P.underlying et=some (EK.desc k))(hx:ev s x=.agg l)(hy:ev s y=.val (.int ik n))(h0:0<=n)(hn:n.toNat<len)(hz:Iu l n.toNat=some z):Good P o s ⟨z,[],[]⟩ :=
 Good.pure λb a w _ hr _=>by
  have h1:=hr x (by simp[h,Op.operands]);have h2:=hr y (by simp[h,Op.operands]);rw[hx]at h1;rw[hy]at h2;simp only[Rd]at h1;obtain ⟨cs,e1,_,e2⟩:=h1;obtain ⟨v,e3,e4⟩:=e2.getT hz;obtain ⟨hu,i,q1,q2⟩:=dZ Γ ht hk;have hp:=Abb (P:=P) w he cs.toArray e3;have ab:n<len:=by omega
  refine⟨v,?_,e4⟩;simp[execOp,h,e1,h2.val,Instr.index,run_underlying hu,asIntOf,h0,ab,sizeOf,typeInfo,q1,q2,hp]
def Ak{C:Cx}{k:List KI}{s:SS}(d:Nat)(l':List SV){l:List SV}(h:s.h d=.box l)(hv:VwL s [] l l')(hg:G C k ⟨s.σ,upd s.h d (.box l')⟩):G C k s:=λr a w hs=>
 hg r a w ⟨hs.defers,hs.size,hs.inv,hs.ctx,hs.slot,λ i=>by
  show ObOK r w i (upd s.h d (.box l') i);by_cases hi:i=d
  .subst hi;rw[B1];have:=hs.obj i;rw[h]at this;obtain ⟨b,cs,T,fr,e1,e2,e3,e4,e5⟩:=this;exact⟨b,cs,T,fr,e1,e2,e3,e4,VwL.rd hs.inv (λ_ hn=>by cases hn) hv e5⟩
  .rw[Cz _ _ hi];exact hs.obj i⟩
def Aoj{C:Cx}{kk:List KI}{s:SS}(q:Nat)(r:List Nat){sz:Nat}{m:Type}{e:m->SV}{l:List m}(h:s.h q=.row sz e l)(hl:l≠[])(hr:∀i∈r,s.σ i=.osl q)(hg:∀b cap,l.length<=cap->G C kk ⟨freezeσ s.σ (.val (.slice (some ⟨b,0,none⟩) l.length cap)) r,upd s.h q (.pin b l.length cap sz e l)⟩):G C kk s:=λk a w hs=>by
 have cq:=hs.obj q;rw[h]at cq;rcases cq with ⟨_,h1⟩|gx
 .exact yA h1 hl
 obtain ⟨b,cap,cs,T,fr,e1,e2,e3,e4,e5,e6⟩:=gx;refine hg b cap e5 k a w ⟨hs.defers,hs.size,hs.inv,hs.ctx,λi=>?_,λj=>?_⟩
 .refine freezeσ_ok r _ i (hs.slot i) (λhi=>?_);have:=hs.slot i;rw[hr i hi]at this;simp only[Rd,e1]at this;simp only[Rd];exact this
 .show ObOK k w j (upd s.h q _ j);by_cases hj:j=q
  .subst hj;rw[B1];exact⟨e1,b,cap,cs,T,fr,e1,e2,e3,e4,e5,e6⟩
  .rw[Cz _ _ hj];exact hs.obj j
def eF{C:Cx}{kk:List KI}{s:SS}(q d:Nat)(r:List Nat)(m:Nat){b n cap sz:Nat}{c:Type}{e:c->SV}{l:List c}(h:s.h q=.pin b n cap sz e l)(hd:s.h d=.fresh)(hm:m<=l.length)(hr:∀i∈r,s.σ i=.val (.slice (some ⟨b,0,none⟩) m cap))(hg:G C kk ⟨freezeσ s.σ (.osl d) r,upd (upd s.h q .non) d (.row sz e (l.take m))⟩):G C kk s:=λk a w hs=>by
 have cq:=hs.obj q;rw[h]at cq;have az:k d=.new:=by have:=hs.obj d;rwa [hd]at this
 obtain ⟨e0,b',d6,cs,T,fr,e1,e2,e3,e4,e5,e6⟩:=cq;rw[e0]at e1;cases e1;have uj:l.length<=n:=by
  by_cases h0:l.length=0
  .omega
  .have:=(e6 (l.length-1) _ ⟨by omega,rfl⟩).1;omega
 obtain ⟨st,inv⟩:=Sw (n':=m) (w':=w) hs.inv e0 az rfl rfl rfl rfl (λ_ _=>rfl);have ab:(l.take m).length=m:=by rw[zY];omega
 refine hg _ a w ⟨hs.defers,hs.size,inv,hs.ctx.step inv st,λj=>?_,λj=>?_⟩
 .refine freezeσ_ok r _ j (Rd.step st _ _ (hs.slot j)) (λhj=>?_);have:=hs.slot j;rw[hr j hj]at this;simp only[Rd]at this;simp[Rd,Ay,this]
 .show ObOK _ w j (upd (upd s.h q .non) d _ j);by_cases hj:j=d
  .subst hj;rw[B1];refine .inr ⟨b,cap,cs,T,fr,by rw[Ay,ab],e2,e3,e4,by omega,λi x hx=>?_⟩;obtain ⟨hi,rfl⟩:=hx;obtain ⟨_,u,q2,q3⟩:=e6 i (e l[i]) ⟨by omega,rfl⟩;refine⟨hi,u,?_,q3⟩;rw[wD];exact RdD.keep st.keeps _ _ q2
  .rw[Cz _ _ hj];by_cases cn:j=q
   .subst cn;rw[B1];trivial
   .rw[Cz _ _ cn];exact ObOK.step st (λe=>e.elim cn hj) _ (hs.obj j)
def Ds{P:Program}(Γ:Ty P){o:Oper}{s:SS}{t:TypeId}{ti:TI}{et:TypeId}{sz eb b n cap lo hi:Nat}{ez:List Value}{x:Operand}{lx hx:Option Operand}(h:o.op=.slice t x lx hx none)(ht:Γ.get t=some ti)(hk:ti.k=.slice et sz eb ez)(kv:ev s x=.val (.slice (some ⟨b,0,none⟩) n cap))(j4:BoundIs s lx 0 lo)(kw:BoundIs s hx n hi)(h1:lo<=hi)(h2:hi<=cap):Good P o s ⟨.val (.slice (some (if cap=lo then ⟨b,0,none⟩ else ⟨b,lo*sz,none⟩)) (hi-lo) (cap-lo)),[],[]⟩ :=
 Good.pure λr a w _ hr _=>by
  have r1:=hr x (by simp[h,Op.operands]);rw[kv]at r1;obtain ⟨hu,i,zv,q1,q2,q3,q4,q5⟩:=Cu Γ ht hk;have b1:=j4.val (a:=a) (λy hy=>hr y (by simp[h,Op.operands,hy]));have b2:=kw.val (a:=a) (λy hy=>hr y (by simp[h,Op.operands,hy]));have hb:=Ie (P:=P) w (len:=n) (cap:=cap) b1 b2 h1 h2;refine⟨.slice (some (if cap=lo then ⟨b,0,none⟩ else ⟨b,lo*sz,none⟩)) (hi-lo) (cap-lo),?_,by simp only[Rd]⟩;by_cases hc:cap=lo
  .subst hc;simp[execOp,h,r1.val,Instr.sliceAt,Instr.slice,run_underlying hu,hb,sizeOf,typeInfo,q1]
  .simp[execOp,h,r1.val,Instr.sliceAt,Instr.slice,run_underlying hu,hb,sizeOf,typeInfo,q1,q2,hc,Addr.add_lit]
def Ae4{P:Program}(Γ:Ty P){o:Oper}{s:SS}{t:TypeId}{ti:TI}{et:TypeId}{sz eb b n cap lo hi mm:Nat}{ez:List Value}{x:Operand}{lx hx mx:Operand}{k1 k2 k3:IntKind}(h:o.op=.slice t x (some lx) (some hx) (some mx))(ht:Γ.get t=some ti)(hk:ti.k=.slice et sz eb ez)(kv:ev s x=.val (.slice (some ⟨b,0,none⟩) n cap))(j4:ev s lx=.val (.int k1 lo))(kw:ev s hx=.val (.int k2 hi))(xv:ev s mx=.val (.int k3 mm))(h1:lo<=hi)(h2:hi<=mm)(h3:mm<=cap):Good P o s ⟨.top,[],[]⟩ :=
 Good.pure λr a w _ hr _=>by
  have r1:=hr x (by simp[h,Op.operands]);have r2:=hr lx (by simp[h,Op.operands]);have r3:=hr hx (by simp[h,Op.operands]);have r4:=hr mx (by simp[h,Op.operands]);rw[kv]at r1;rw[j4]at r2;rw[kw]at r3;rw[xv]at r4;obtain ⟨hu,i,zv,q1,q2,q3,q4,q5⟩:=Cu Γ ht hk;have hb:(Instr.sliceBounds true n cap (some (a.eval lx)) (some (a.eval hx)) (some (a.eval mx))).run P w=.ok (lo,hi,mm) w:=by
   rw[r2.val,r3.val,r4.val];simp[Instr.sliceBounds,Instr.sliceBound,asIntOf,h1,h2,h3]
  refine⟨.slice (some (if mm=lo then ⟨b,0,none⟩ else ⟨b,lo*sz,none⟩)) (hi-lo) (mm-lo),?_,by simp only[Rd]⟩;by_cases hc:mm=lo
  .subst hc;simp[execOp,h,r1.val,Instr.sliceAt,Instr.slice,run_underlying hu,hb,sizeOf,typeInfo,q1]
  .simp[execOp,h,r1.val,Instr.sliceAt,Instr.slice,run_underlying hu,hb,sizeOf,typeInfo,q1,q2,hc,Addr.add_lit]
def Vp{a:Ka}{w w':World}{k b n cap:Nat}(hi:Inv a w)(hk:a k=.row b n cap)(yj:w'.os=w.os)(ht:w'.tape=w.tape)(ho:w'.output=w.output)(hs:w'.heap.size=w.heap.size)(hb:∀i,i≠b->w'.heap[i]? = w.heap[i]?):Step (λj=>j=k) a w a w'/\Inv a w':=by
 have kh:(a k).block? = some b:=by rw[hk];rfl
 refine⟨⟨by omega,yj,ht,ho,E,λ c hm=>hb c (λ e=>hi.apart k b kh (e ▸ hm)),λ c _ hn=>hb c (λ e=>hn (.inl ⟨k,e ▸ kh⟩)),λ j c hj hjc=>hb c (λ e=>hj ?_),λ _ _=>rfl,λ _ _=>.inr (.inl E),λ _ h=>.inl h⟩,
  ⟨hi.inj,λ j c h=>by rw[hs];exact hi.bnd j c h,hi.apart,λ c h=>by rw[hs];exact hi.mbnd c h⟩⟩
 subst e;exact hi.inj j k _ hjc kh
def Akv{cs:List Value}{sz n:Nat}(h:∀i,i<n->∃u:Value,u.cells.size=sz/\Ones u.cells.toList/\∀j,j<sz->cs[i*sz+j]? = u.cells[j]?){p:Nat}(hp:p<n*sz){v:Value}(hv:cs[p]? = some v):v.oneCell'=true:=by
 have h0:0<sz:=by
  rcases uQ sz with rfl|h
  .simp at hp
  .exact h
 obtain ⟨u,h1,h2,h3⟩:=h (p/sz) (Nat.div_lt_of_lt_mul (by rw[vK];exact hp));have h4:=h3 (p%sz) (Nat.mod_lt _ h0);rw[vK,uM,hv]at h4;obtain ⟨hl,he⟩:=vC.1 h4.symm;refine h2 v ?_;rw[<-he];exact Array.getElem_mem_toList hl
def oY{P:Program}(Γ:Ty P){o:Oper}{s:SS}(q:Nat){t:TypeId}{ti:TI}{et:TypeId}{sz eb b n cap i j:Nat}{ez:List Value}{x y:Operand}{m:Type}{e:m->SV}{l:List m}{B:Option Addr}{c:Nat}(h:o.op=.call ⟨.builtin .append,#[x,y],#[t,t]⟩)(ht:Γ.get t=some ti)(hk:ti.k=.slice et sz eb ez)(hx:ev s x=.val (.slice (some ⟨b,0,none⟩) i cap))(hy:ev s y=.val (.slice B (n-j) c))(hB:B=some (if cap=j then ⟨b,0,none⟩ else ⟨b,j*sz,none⟩))(cq:s.h q=.pin b n cap sz e l)(hl:l.length=n)(bu:i<=j)(hj:j<=n):Good P o s ⟨.val (.slice (some ⟨b,0,none⟩) (i+(n-j)) cap),[],[(q,.pin b n cap sz e (l.take i++l.drop j))]⟩:=by
 intro r a w hinv hr ho N Q hN;have r1:=hr x (by simp[h,Op.operands,Call.operands]);have r2:=hr y (by simp[h,Op.operands,Call.operands]);rw[hx]at r1;rw[hy]at r2;subst hB;have hq:=ho q (.inr (by simp[Up.ws]));rw[cq]at hq;obtain ⟨e0,b',d6,cs,T,fr,e1,e2,e3,e4,e5,e6⟩:=hq;rw[e0]at e1;cases e1;obtain ⟨hu,ii,zv,q1,q2,q3,q4,q5⟩:=Cu Γ ht hk;have dp:∀i,i<n->∃u:Value,u.cells.size=sz/\Ones u.cells.toList/\∀j,j<sz->cs[i*sz+j]? = u.cells[j]?:=λi hi=>by
  obtain ⟨_,u,_,u2⟩:=e6 i (e l[i]) ⟨by omega,rfl⟩;exact⟨u,u2⟩
 obtain ⟨news,fg⟩:∃news,news=(cs.drop (j*sz)).take ((n-j)*sz):=⟨_,rfl⟩
 have hmul:(n-j)*sz+j*sz=n*sz:=by rw[<-xK];congr 1;omega
 have pw:n*sz<=cap*sz:=xB sz e5;have hijs:i*sz<=j*sz:=xB sz bu;have mc:news.length=(n-j)*sz:=by rw[fg,zY,yP];omega
 have bc:∀p,p<(n-j)*sz->news[p]? = cs[j*sz+p]?:=λp hp=>by
  rw[fg,uD,zE hp,List.getElem?_drop]
 have ky:Ones news:=λv hv=>by
  obtain ⟨p,hp,he⟩:=wN hv;have h1:news[p]? = some v:=by rw[zR hp,he]
  rw[mc]at hp;rw[bc p hp]at h1;exact Akv dp q_ h1
 obtain ⟨w',f1,f2,f3,f4,f5,f6,f7⟩:=Dr P b (i*sz) T fr news 0 cs w e2 e3 q_ ky;obtain ⟨st,inv⟩:=Vp hinv e0 f3 f4 f5 f6 f7;have a7:i+(n-j)<=cap:=by omega
 have gq:∀p v,cs[p]? = some v->w.cell? ⟨b,p,none⟩=some v:=λp v hp=>by
  simp[World.cell?,e2,hp]
 have hc:(Builtin.firstCells sz (n-j) (.slice (some (if cap=j then ⟨b,0,none⟩ else ⟨b,j*sz,none⟩)) (n-j) c)).run P w=.ok news.toArray w:=by
  by_cases mf:cap=j
  .have h0:n-j=0:=by omega
   rw[zE mf,h0];have h1:news=[]:=by rw[h0]at mc;simpa using mc
   rw[h1];exact run_firstCells_some (P:=P) w sz 0 ⟨b,0,none⟩ 0 c [] y_ (λj v hj=>by simp at hj)
  .rw[zD mf];refine run_firstCells_some (P:=P) w sz (n-j) ⟨b,j*sz,none⟩ (n-j) c news mc (λp v hp=>?_);rw[Addr.add_lit];have ab:p<(n-j)*sz:=by
    rw[<-mc];exact(List.getElem?_eq_some_iff.1 hp).1
   rw[bc p ab]at hp;exact gq _ _ hp
 have au:(execOp a.eval o).run P w=.ok (.value (.slice (some ⟨b,0,none⟩) (i+(n-j)) cap)) w':=by
  simp[execOp,h,resolve,invoke,builtin,Builtin.append_,r1.val,r2.val,run_underlying hu,sizeOf,typeInfo,q1,q2,Builtin.lenOf,a7,hc,Addr.add_lit,f1]
 simp only[Oper.wp,au,Oper.upon];refine hN _ r w' (st.weaken (λk hk=>by subst hk;simp[Up.ws])) inv (by simp only[Rd]) (λp hp=>?_);simp only[zX]at hp;subst hp;refine⟨e0,b,cap,_,T,fr,e0,f2,by rw[Cm];exact e3,by rw[Cm];exact e4,e5,?_⟩;rintro k z ⟨bd,rfl⟩;have bh:=Oq cs news (i*sz+0);have hlen:(l.take i++l.drop j).length=i+(n-j):=by rw[zQ,zY,yP];omega
 rw[hlen]at bd;by_cases pz:k<i
 .obtain ⟨_,u,u1,u2,u3,u4⟩:=e6 k (e l[k]) ⟨by omega,rfl⟩;have:(k+1)*sz<=i*sz:=xB sz q_;rw[xK,wO]at this;refine⟨by omega,u,?_,u2,u3,λp hp=>?_⟩
  .rw[yZ (by rw[zY];omega),wD];exact RdD.keep st.keeps _ _ u1
  .rw[bh _ q_,zD q_,u4 p hp]
 .obtain ⟨_,u,u1,u2,u3,u4⟩:=e6 (j+(k-i)) (e l[j+(k-i)]) ⟨by omega,rfl⟩;have hks:k*sz=i*sz+(k-i)*sz:=by rw[<-xK];congr 1;omega
  have hjs:(j+(k-i))*sz=j*sz+(k-i)*sz:=by rw[<-xK]
  have:(k-i+1)*sz<=(n-j)*sz:=xB sz q_;rw[xK,wO]at this;refine⟨by omega,u,?_,u2,u3,λp hp=>?_⟩
  .rw[xQ (by rw[zY];omega),vW];have s9:j+(k-(l.take i).length)=j+(k-i):=by rw[zY];omega
   simp only[s9];exact RdD.keep st.keeps _ _ u1
  .rw[bh _ q_,zE q_,<-u4 p hp,hjs];rw[show k*sz+p-(i*sz+0)=(k-i)*sz+p by omega,bc _ q_];congr 1;omega
def Qf{P:Program}(Γ:Ty P){o:Oper}{s:SS}(q:Nat){t:TypeId}{ti:TI}{et:TypeId}{sz eb b n cap k m c:Nat}{ez:List Value}{x:Operand}{d:Type}{e:d->SV}{l:List d}{B:Option Addr}(h:o.op=.call ⟨.builtin .clear,#[x],#[t]⟩)(ht:Γ.get t=some ti)(hk:ti.k=.slice et sz eb ez)(p6:ez.length=sz)(hz1:∀v∈ez,v.oneCell'=true)(hx:ev s x=.val (.slice B m c))(hB:B=some (if cap=k then ⟨b,0,none⟩ else ⟨b,k*sz,none⟩))(cq:s.h q=.pin b n cap sz e l)(p7:k<=l.length)(hm:k+m<=cap):Good P o s ⟨.tup [],[],[(q,.pin b n cap sz e (l.take k))]⟩:=by
 intro r a w hinv hr ho N Q hN;have r1:=hr x (by simp[h,Op.operands,Call.operands]);rw[hx]at r1;subst hB;have hq:=ho q (.inr (by simp[Up.ws]));rw[cq]at hq;obtain ⟨e0,b',d6,cs,T,fr,e1,e2,e3,e4,e5,e6⟩:=hq;rw[e0]at e1;cases e1;obtain ⟨hu,ii,zv,q1,q2,q3,q4,q5⟩:=Cu Γ ht hk;have s7:zv.cells.size=sz:=by rw[<-p6,<-q5];simp
 have ab:(l.take k).length=k:=by rw[zY];omega
 by_cases ax:m=0
 .subst ax;have au:(execOp a.eval o).run P w=.ok (.value (.tuple #[])) w:=by
   simp[execOp,h,resolve,invoke,builtin,Builtin.clear_,r1.val,run_underlying hu]
  simp only[Oper.wp,au,Oper.upon];refine hN _ r w (Step.refl _ r w) hinv (by simp[Rd,RdL]) (λp hp=>?_);simp only[zX]at hp;subst hp;refine⟨e0,b,cap,cs,T,fr,e0,e2,e3,e4,e5,?_⟩;rintro p z ⟨eo,rfl⟩;rw[wD];exact e6 p (e l[p]) ⟨by omega,E⟩
 obtain ⟨m,rfl⟩:∃p,m=p+1:=⟨m-1,by omega⟩
 rw[zD q_]at r1;obtain ⟨news,fg⟩:∃news,news=(Builtin.zeroCells zv.cells (m+1)).toList:=⟨_,rfl⟩
 have mc:news.length=(m+1)*sz:=by rw[fg,wY,Y4,s7]
 have ky:Ones news:=λv hv=>by
  rw[fg,Array.mem_toList_iff]at hv;refine hz1 v ?_;rw[<-q5];simp only[Builtin.zeroCells,Array.mem_map,Array.mem_range]at hv;obtain ⟨p,hp,rfl⟩:=hv;have h0:0<zv.cells.size:=by
   rcases uQ zv.cells.size with h|h
   .rw[h]at hp;simp at hp
   .exact h
  have de:p%zv.cells.size<zv.cells.size:=Nat.mod_lt _ h0;rw[getElem!_pos zv.cells _ de];exact Array.getElem_mem_toList de
 have hmul:k*sz+(m+1)*sz<=cap*sz:=by rw[<-xK];exact xB sz hm
 obtain ⟨w',f1,f2,f3,f4,f5,f6,f7⟩:=Dr P b (k*sz) T fr news 0 cs w e2 e3 q_ ky;obtain ⟨st,inv⟩:=Vp hinv e0 f3 f4 f5 f6 f7;have au:(execOp a.eval o).run P w=.ok (.value (.tuple #[])) w':=by
  simp[execOp,h,resolve,invoke,builtin,Builtin.clear_,r1.val,run_underlying hu,zeroValue,typeInfo,q1,q4,<-fg,f1]
 simp only[Oper.wp,au,Oper.upon];refine hN _ r w' (st.weaken (λk hk=>by subst hk;simp[Up.ws])) inv (by simp[Rd,RdL]) (λp hp=>?_);simp only[zX]at hp;subst hp;refine⟨e0,b,cap,_,T,fr,e0,f2,by rw[Cm];exact e3,by rw[Cm];exact e4,e5,?_⟩;rintro p z ⟨eo,rfl⟩;have bh:=Oq cs news (k*sz+0);obtain ⟨h0,u,u1,u2,u3,u4⟩:=e6 p (e l[p]) ⟨by omega,rfl⟩;have:(p+1)*sz<=k*sz:=xB sz q_;rw[xK,wO]at this;refine⟨h0,u,?_,u2,u3,λj hj=>?_⟩
 .rw[wD];exact RdD.keep st.keeps _ _ u1
 .have ie:k*sz<=cs.length:=by omega
  rw[bh _ q_,zD q_,u4 j hj]
def A6c{C:Cx}{kk:List KI}{s:SS}(i q:Nat){sz:Nat}{r:Type}{e:r->SV}{l:List r}(h:s.σ i=.sl sz e l)(hl:l≠[])(hg:∀b off cap,l.length<=cap->G C kk ⟨upd s.σ i (.val (.slice (some ⟨b,off,none⟩) l.length cap)),upd s.h q (.dat (.slice (some ⟨b,off,none⟩) l.length cap) sz e l)⟩):G C kk s:=λk a w hs=>by
 have h1:=hs.slot i;rw[h]at h1;have h1':=h1;simp only[Rd,RdD]at h1;rcases h1 with ⟨h2,_⟩|⟨b,off,cap,h2,h3,_⟩
 .exact yA h2 hl
 .refine hg b off cap h3 k a w ⟨hs.defers,hs.size,hs.inv,hs.ctx,λj=>?_,λj=>?_⟩
  .show Rd k w (upd s.σ i (.val (.slice (some ⟨b,off,none⟩) l.length cap)) j) _;by_cases hj:j=i
   .subst hj;rw[B1];simp only[Rd];exact h2
   .rw[Cz _ _ hj];exact hs.slot j
  .show ObOK k w j (upd s.h q (.dat (.slice (some ⟨b,off,none⟩) l.length cap) sz e l) j);by_cases hj:j=q
   .subst hj;rw[B1];rw[h2]at h1';exact h1'
   .rw[Cz _ _ hj];exact hs.obj j
def Y8{P:Program}(Γ:Ty P){o:Oper}{s:SS}{t:TypeId}{ti:TI}{et:TypeId}{sz eb b off n cap hi:Nat}{ez:List Value}{x hx mx:Operand}{k2 k3:IntKind}(h:o.op=.slice t x none (some hx) (some mx))(ht:Γ.get t=some ti)(hk:ti.k=.slice et sz eb ez)(kv:ev s x=.val (.slice (some ⟨b,off,none⟩) n cap))(kw:ev s hx=.val (.int k2 hi))(xv:ev s mx=.val (.int k3 hi))(h3:hi<=cap):Good P o s ⟨.val (.slice (some ⟨b,off,none⟩) hi hi),[],[]⟩ :=
 Good.pure λr a w _ hr _=>by
  have r1:=hr x (by simp[h,Op.operands]);have r3:=hr hx (by simp[h,Op.operands]);have r4:=hr mx (by simp[h,Op.operands]);rw[kv]at r1;rw[kw]at r3;rw[xv]at r4;obtain ⟨hu,i,zv,q1,q2,q3,q4,q5⟩:=Cu Γ ht hk;have hb:(Instr.sliceBounds true n cap none (some (a.eval hx)) (some (a.eval mx))).run P w=.ok (0,hi,hi) w:=by
   rw[r3.val,r4.val];simp[Instr.sliceBounds,Instr.sliceBound,asIntOf,h3]
  refine⟨.slice (some ⟨b,off,none⟩) hi hi,?_,by simp only[Rd]⟩;by_cases hc:hi=0
  .subst hc;simp[execOp,h,r1.val,Instr.sliceAt,Instr.slice,run_underlying hu,hb,sizeOf,typeInfo,q1]
  .simp[execOp,h,r1.val,Instr.sliceAt,Instr.slice,run_underlying hu,hb,sizeOf,typeInfo,q1,q2,hc,Addr.add_lit]
def Ai1{P:Program}(Γ:Ty P){o:Oper}{s:SS}(q:Nat){t:TypeId}{ti:TI}{et:TypeId}{sz eb lo hi:Nat}{ez:List Value}{x:Operand}{lx hx:Option Operand}{r:Type}{e:r->SV}{l:List r}{v:Value}(h:o.op=.slice t x lx hx none)(ht:Γ.get t=some ti)(hk:ti.k=.slice et sz eb ez)(kv:ev s x=.val v)(hq:s.h q=.dat v sz e l)(j4:BoundIs s lx 0 lo)(kw:BoundIs s hx l.length hi)(h1:lo<=hi)(h2:hi<=l.length):Good P o s ⟨.sl sz e ((l.take hi).drop lo),[q],[]⟩ :=
 Good.pure λb a w _ hr ho=>by
  have r1:=hr x (by simp[h,Op.operands]);rw[kv]at r1;have r1:=r1.val;have kz:=ho q y_;rw[hq]at kz;have kz:Rd b w (.sl sz e l) v:=kz;obtain ⟨ad,cap,hv,iv⟩:=A20 kz;subst hv;obtain ⟨hu,i,zv,q1,q2,q3,q4,q5⟩:=Cu Γ ht hk;have b1:=j4.val (a:=a) (λy hy=>hr y (by simp[h,Op.operands,hy]));have b2:=kw.val (a:=a) (λy hy=>hr y (by simp[h,Op.operands,hy]));have hb:=Ie (P:=P) w (len:=l.length) (cap:=cap) b1 b2 h1 q_;have hp:=Akn (cap:=cap) kz h1 h2;refine⟨_,?_,hp⟩;simp[execOp,h,r1,Instr.sliceAt,Instr.slice,run_underlying hu,hb,sizeOf,typeInfo,q1,q2]
def Zc{P:Program}(Γ:Ty P){o:Oper}{s:SS}(q:Nat){t:TypeId}{ti:TI}{et:TypeId}{sz eb b off n cap:Nat}{ez:List Value}{x y:Operand}{d:Type}{e:d->SV}{l l':List d}(h:o.op=.call ⟨.builtin .append,#[x,y],#[t,t]⟩)(ht:Γ.get t=some ti)(hk:ti.k=.slice et sz eb ez)(p6:ez.length=sz)(hx:ev s x=.val (.slice (some ⟨b,off,none⟩) n n))(hq:s.h q=.dat (.slice (some ⟨b,off,none⟩) l.length cap) sz e l)(hn:n<=l.length)(hy:ev s y=.sl sz e l')(da:(n+l'.length)*eb<=140737488355328)(s8:n+l'.length<=9223372036854775807):Good P o s ⟨.sl sz e (l.take n++l'),[q],[]⟩:=by
 intro r a w hinv hr ho N Q hN;have r1:=hr x (by simp[h,Op.operands,Call.operands]);have r2:=hr y (by simp[h,Op.operands,Call.operands]);rw[hx]at r1;rw[hy]at r2;have kz:=ho q (.inl y_);rw[hq]at kz;have kz:Rd r w (.sl sz e l) (.slice (some ⟨b,off,none⟩) l.length cap):=kz;obtain ⟨hu,ii,zv,q1,q2,q3,q4,q5⟩:=Cu Γ ht hk;have s7:zv.cells.size=sz:=by rw[<-p6,<-q5];simp
 have sh:(l.take n).length=n:=by rw[zY];omega
 have cm:Rd r w (.sl sz e (l.take n)) (.slice (some ⟨b,off,none⟩) n n):=by
  simp only[Rd,RdD]at kz|-;rcases kz with ⟨h0,_⟩|⟨b2,off2,ta,h2,h3,h4,h5,h6⟩
  .have d9:n=0:=by rw[h0]at hn;simpa using hn
   subst d9;exact .inl ⟨by simp,_,_,E⟩
  .cases h2;refine .inr ⟨b,off,n,by rw[sh],by rw[sh];exact yE _,h4,h5,λi hi=>?_⟩;obtain ⟨u,h7,h8⟩:=h6 i q_;exact⟨u,by rw[wD];exact h7,h8⟩
 have hrb:=cm.src;have hru:=r2.src;rw[sh]at hrb;obtain ⟨m,hm⟩:=kE l'.length;rw[hm]at hru da s8;generalize tc:a.eval y=u at *;obtain ⟨ad,c,news,td,mc,xq,pw,xr⟩:∃(a:Option Addr) (c:Nat) (news:List Value),u=.slice a m c/\news.length=m*sz/\Ones news/\(∀W:World,(∀p:Addr,p.block<w.heap.size->W.cell? p=w.cell? p)->(Builtin.firstCells sz m u).run P W=.ok news.toArray W) /\
   (∀j x,rowF e l' j x->j<m/\∃q:Value,RdD (Own r) w x q/\q.cells.size=sz/\Ones q.cells.toList/\∀l,l<sz->news[j*sz+l]? = q.cells[l]?):=by
  rcases hru with ⟨rfl,cw,a,c,rfl⟩|⟨b,o,c,news,rfl,h1,h2,h3,h4⟩
  .refine⟨a,c,[],E,by simp,by simp[Ones],λW _=>?_,λj x h=>yA h (cw j x)⟩;cases a<;>simp[Builtin.firstCells,loadCells,loadCellsFrom]
  .refine⟨some ⟨b,o,none⟩,c,news,E,h1,h2,λ W hW=>?_,λ j x hx=>h4 j x hx⟩;exact run_firstCells_some (P:=P) W sz m ⟨b,o,none⟩ m c news h1 (λ j q hj=>by
    rw[Addr.add_lit];have h5:=h3 j q hj;rw[hW _ (by exact World.block_lt_of_cell? w _ h5),h5])
 subst td;by_cases ax:m=0
 .subst ax;have uk:l'=[]:=yC hm;subst uk;have hc:=pw w (λ_ _=>rfl);have hnn:news=[]:=kS mc;subst hnn;have au:(execOp a.eval o).run P w=.ok (.value (.slice (some ⟨b,off,none⟩) n n)) w:=by
   simp[execOp,h,resolve,invoke,builtin,Builtin.append_,r1.val,tc,run_underlying hu,sizeOf,typeInfo,q1,q2,Builtin.lenOf,hc,storeCells]
  simp only[Oper.wp,au,Oper.upon];refine hN _ r w (Step.refl _ r w) hinv ?_ (λp hp=>by cases hp);rw[xD];exact cm
 obtain ⟨db,lq,hof,q9⟩:∃db:List Value,db.length=n*sz/\(∀j x,rowF e (l.take n) j x->j<n->∃q:Value,RdD (Own r) w x q/\q.cells.size=sz/\Ones q.cells.toList/\∀l,l<sz->db[j*sz+l]? = q.cells[l]?) /\
   (Builtin.firstCells sz n (.slice (some ⟨b,off,none⟩) n n)).run P w.drew=.ok db.toArray w.drew:=by
  rcases hrb with ⟨rfl,cw,_⟩|⟨b2,o2,c2,db,he,g1,g2,g3,g4⟩
  .exact⟨[],by simp,λj x _ hj=>yA hj q_,run_firstCells_some (P:=P) w.drew sz 0 ⟨b,off,none⟩ 0 0 [] y_ (λj v hj=>by simp at hj)⟩
  .cases he;exact⟨db,g1,λ j x hx _=>(g4 j x hx).2,run_firstCells_some (P:=P) w.drew sz n ⟨b,off,none⟩ n n db g1 (λ j v hj=>by
    have:=g3 j v hj;rw[Addr.add_lit];simpa using this)⟩
 have iv:n+m<=grownCap w (n+m) n et:=grownCap_ge w (n+m) n et;have py:¬(281474976710656<Builtin.nextslicecap (n+m) n*ii.bytes):=by
  have:=growslice_fits (need:=n+m) (old:=n) (bytes:=ii.bytes) q_ (by rw[q3];exact da);omega
 have jz:¬(9223372036854775807<(n:Int)+(m:Int)):=by omega
 have a7:¬n+m<=n:=by omega
 have hc:=pw w.drew (λ_ _=>rfl);obtain ⟨w',um⟩:∃w',w.drew.alloc (.cells (db.toArray++news.toArray++Builtin.zeroCells zv.cells (grownCap w (n+m) n et-(n+m))) et)=w':=⟨_,rfl⟩
 have au:(execOp a.eval o).run P w=.ok (.value (.slice (some ⟨w.heap.size,0,none⟩) (n+m) (grownCap w (n+m) n et))) w':=by
  rw[<-um];simp[execOp,h,resolve,invoke,builtin,Builtin.append_,r1.val,tc,run_underlying hu,sizeOf,typeInfo,zeroValue,q4,q1,q2,Builtin.lenOf,jz,py,Question.forced,q9,hc,newRow,grownCap];rw[zD a7];have ea:∀Z:Array Value,db.toArray++(news.toArray++Z)=(db++news).toArray++Z:=λZ=>by apply Array.ext';simp
  rw[ea]
 have g0:Grew w w':=by rw[<-um];exact(Grew.drew w).trans (Grew.alloc _ _)
 obtain ⟨st,inv⟩:=eS hinv g0;have yq:w'.heap[w.heap.size]? = some (.cells (db++news++(Builtin.zeroCells zv.cells (grownCap w (n+m) n et-(n+m))).toList).toArray et):=by
  rw[<-um];have:(w.drew.alloc (.cells (db.toArray++news.toArray++Builtin.zeroCells zv.cells (grownCap w (n+m) n et-(n+m))) et)).heap[w.heap.size]? = some (.cells (db.toArray++news.toArray++Builtin.zeroCells zv.cells (grownCap w (n+m) n et-(n+m))) et):=heap_alloc_new w.drew _;rw[this];congr 2;apply Array.ext';simp
 have bg:w.heap.size<w'.heap.size:=by rw[<-um];simp
 simp only[Oper.wp,au,Oper.upon];refine hN _ r w' (st.weaken (λ_ h=>h.elim)) inv ?_ (λp hp=>by cases hp);simp only[Rd,RdD];have hlen:(l.take n++l').length=n+m:=by rw[zQ,sh,hm]
 refine .inr ⟨w.heap.size,0,grownCap w (n+m) n et,by rw[hlen],by rw[hlen];exact iv,?_,bg,λj hj=>?_⟩
 .rintro (⟨k,hk⟩|hk)
  .exact Nat.lt_irrefl _ (hinv.bnd k _ hk)
  .exact Nat.lt_irrefl _ (hinv.mbnd _ hk)
 .rw[hlen]at hj;by_cases rf:j<n
  .obtain ⟨qv,g1,g2,g3,g4⟩:=hof j (e (l.take n)[j]) ⟨by omega,rfl⟩ rf;refine⟨qv,by rw[yZ q_];exact RdD.keep st.keeps _ _ g1,g2,g3,λp hp=>?_⟩;have:(j+1)*sz<=n*sz:=xB sz q_;rw[xK,wO]at this;rw[cell_of_row w' _ _ _ et (0,0) yq,uZ,xF,xW q_,wF];exact g4 p hp
  .obtain ⟨_,qv,g1,g2,g3,g4⟩:=xr (j-n) (e (l'[j-n]'q_)) ⟨by omega,rfl⟩;refine⟨qv,?_,g2,g3,λp hp=>?_⟩
   .rw[xQ q_];simp only[sh];exact RdD.keep st.keeps _ _ g1
   .have e1:j*sz=n*sz+(j-n)*sz:=by rw[<-xK];congr 1;omega
    have:(j-n+1)*sz<=m*sz:=xB sz q_;rw[xK,wO]at this;rw[cell_of_row w' _ _ _ et (0,0) yq,uZ,xF,wH q_,xW q_,<-g4 p hp];congr 1;omega
def nO{P:Program}{o:Oper}{s:SS}(q:Nat){sz:Nat}{b:Type}{e:b->SV}{l:List b}{v:Value}{x:Operand}(h:o.op=.move x\/o.op=.assign x)(hx:ev s x=.val v)(hq:s.h q=.dat v sz e l):Good P o s ⟨.sl sz e l,[q],[]⟩ :=
 Good.pure λk a w _ hr ho=>by
  have kz:=ho q y_;rw[hq]at kz;have jh:=hr x (by rcases h with h|h<;>simp[h,Op.operands]);rw[hx]at jh;refine⟨a.eval x,?_,?_⟩
  .rcases h with h|h<;>simp[execOp,h]
  .rw[jh.val];exact kz
def Ada{f g:Nat->Option (Nat×Nat)}:∀(ps:List (Nat×Value)) (cs:Array Value),(∀p∈ps,f p.1=g p.1)->Instr.fill f cs ps=Instr.fill g cs ps
 |[],cs,_=>rfl
 |(i,v)::ps,cs,h=>by
  have h1:=h (i,v) y_;simp only[Instr.fill];dsimp only at h1;rw[h1];cases g i with
  |none=>rfl
  |some os=>
   dsimp only;split
   .rfl
   .exact Ada ps _ (λp hp=>h p (by simp[hp]))
def Wt{P:Program}(Γ:Ty P){o:Oper}{s:SS}{t et:TypeId}{ti:TI}{len esz:Nat}{ps:List (Nat×Operand)}{out:List SV}(h:o.op=.build t ps.toArray)(ht:Γ.get t=some ti)(hk:ti.k=.array et len esz)(h1:nC ti.zero=true)(ov:(ps.all λp=>Nat.blt p.1 len)=true)(hf:Adb ((List.range len).map λi=>(i*esz,esz)) (ti.zero.map .val) (ps.map λp=>(p.1,ev s p.2))=some out):Good P o s ⟨.agg out,[],[]⟩ :=
 Good.pure λb a w _ hr _=>by
  obtain ⟨d,info,z,k1,k2,k3,k4,k5,k6⟩:=Γ.ok t ti ht;obtain ⟨hu,i,q1,q2⟩:=dZ Γ ht hk;have hops:∀ p∈ps,Rd b w (ev s p.2) (a.eval p.2):=λ p hp=>hr p.2 (by
   simp only[h,Op.operands];simp only[List.mem_toArray,yS];exact⟨p,hp,E⟩)
  obtain ⟨r,r1,r2,r3⟩:=Ai9 (κ:=b) (w:=w) (a:=a) ps _ out z.cells (by rw[k6];exact eD _) (by rw[k6];exact We h1) hops hf;refine⟨.agg r,?_,?_⟩
  .have hcg:=Ada (f:=λ i=>some (i * esz,esz)) (g:=λ i=>((List.range len).map λ i=>(i * esz,esz))[i]?) (ps.map λ p=>(p.1,a.eval p.2)) z.cells (λ p hp=>by
    obtain ⟨x,hx,rfl⟩:=yS.1 hp;have ab:x.1<len:=wC (yT.1 ov x hx);dsimp only;rw[vU,uK ab];rfl)
   simp only[execOp,h,Sem.run_bind,Instr.build,zeroValue,typeInfo,run_program,Result.andThen_ok,k3,k5,Sem.run_pure,run_underlying hu,sizeOf,q1,q2,List.map_toArray];rw[hcg,r1];simp
  .simp only[Rd];exact⟨r.toList,by simp,r3,r2⟩
mutual
def rnb(k d:Nat):SV->SV
 | .ptr j o=>bif Nat.beq j k then .ptr d o else .ptr j o
 | .agg l=>.agg (Abh k d l)
 | .tup l=>.tup (Abh k d l)
 | .ifc t y=>.ifc t (rnb k d y)
 | .clo f g l=>.clo f (Abh k d g) (Abh k d l)
 |y=>y
def Abh(k d:Nat):List SV->List SV
 |[]=>[]
 |y::l=>rnb k d y::Abh k d l
end
mutual
theorem Apz{a a':Ka}{w:World}{K:Nat->Prop}{k d:Nat}(st:Step K a w a' w)(hx:∀o v,Rd a w (.ptr k o) v->Rd a' w (.ptr d o) v):∀(y:SV) (v:Value),Rd a w y v->Rd a' w (rnb k d y) v
 | .ptr j o,v,h=>by
  unfold rnb;by_cases hk:j=k
  .subst hk;rw[show Nat.beq j j=true from tT j];exact hx o v h
  .rw[show Nat.beq j k=false from by cases hb:Nat.beq j k with|false=>rfl|true=>exact yA (yK hb) hk];exact Rd.step st _ _ h
 | .agg l,v,h=>by
  simp only[Rd]at h;unfold rnb;simp only[Rd];obtain ⟨cs,h1,h2,h3⟩:=h;exact⟨cs,h1,h2,T6 st hx l cs h3⟩
 | .tup l,v,h=>by
  simp only[Rd]at h;unfold rnb;simp only[Rd];obtain ⟨cs,h1,h3⟩:=h;exact⟨cs,h1,T6 st hx l cs h3⟩
 | .ifc t y,v,h=>by
  simp only[Rd]at h;unfold rnb;simp only[Rd];obtain ⟨u,h1,h3⟩:=h;exact⟨u,h1,Apz st hx y u h3⟩
 | .clo f g l,v,h=>by
  simp only[Rd]at h;unfold rnb;simp only[Rd];obtain ⟨fs,cs,h1,h2,h3⟩:=h;exact⟨fs,cs,h1,T6 st hx g fs h2,T6 st hx l cs h3⟩
 | .top,v,h=>by unfold rnb;exact Rd.step st _ _ h
 | .val u,v,h=>by unfold rnb;exact Rd.step st _ _ h
 | .sl sz e l,v,h=>by unfold rnb;exact Rd.step st _ _ h
 | .ref sz z o,v,h=>by unfold rnb;exact Rd.step st _ _ h
 | .rpt k sz i o,v,h=>by unfold rnb;exact Rd.step st _ _ h
 | .osl k,v,h=>by unfold rnb;exact Rd.step st _ _ h
theorem T6{a a':Ka}{w:World}{K:Nat->Prop}{k d:Nat}(st:Step K a w a' w)(hx:∀o v,Rd a w (.ptr k o) v->Rd a' w (.ptr d o) v):∀(l:List SV) (vs:List Value),RdL a w l vs->RdL a' w (Abh k d l) vs
 |[],vs,h=>by
  unfold Abh;simpa [RdL] using h
 |y::l,vs,h=>by
  simp only[RdL]at h;unfold Abh;simp only[RdL];obtain ⟨v,r,h1,h2,h3⟩:=h;exact⟨v,r,h1,Apz st hx y v h2,T6 st hx l r h3⟩
end
def rnbO(k d:Nat):Ob->Ob
 | .box l=>.box (Abh k d l)
 |o=>o
def Apj{a:Ka}{w:World}{k d b:Nat}(hi:Inv a w)(hk:a k=.blk b)(hd:a d=.new):Step (λj=>j=k\/j=d) a w (Em (Em a k .dead) d (.blk b)) w/\Inv (Em (Em a k .dead) d (.blk b)) w:=by
 have ck:k≠d:=λe=>by subst e;rw[hk]at hd;cases hd
 have kh:(a k).block? = some b:=by rw[hk];rfl
 have key:∀j c,((Em (Em a k .dead) d (.blk b)) j).block? = some c->(j=d/\c=b)\/(j≠d/\j≠k/\(a j).block? = some c):=by
  intro j c h;by_cases hj:j=d
  .subst hj;rw[Ay]at h;exact .inl ⟨rfl,by simpa [Ent.block?] using h.symm⟩
  .rw[Cc _ _ hj]at h;by_cases cn:j=k
   .subst cn;rw[Ay]at h;cases h
   .rw[Cc _ _ cn]at h;exact .inr ⟨hj,cn,h⟩
 refine⟨⟨yE _,E,E,E,E,λ_ _=>rfl,λ_ _ _=>rfl,λ_ _ _ _=>rfl,λj hj=>?_,?_,?_⟩,⟨?_,?_,?_,λc h=>hi.mbnd c h⟩⟩
 .rw[Cc _ _ (λe=>hj (.inr e)),Cc _ _ (λe=>hj (.inl e))]
 .rintro j (rfl|rfl)
  .exact .inr (.inr (by rw[Cc _ _ ck,Ay]))
  .exact .inl hd
 .rintro c (⟨j,hj⟩|hj)
  .rcases key j c hj with ⟨_,rfl⟩|⟨_,_,h⟩
   .exact .inl (.inl ⟨k,kh⟩)
   .exact .inl (.inl ⟨j,h⟩)
  .exact .inl (.inr hj)
 .intro i j c h1 h2;rcases key i c h1 with ⟨a1,a2⟩|⟨a1,a2,a3⟩<;>rcases key j c h2 with ⟨b1,b2⟩|⟨b1,b2,b3⟩
  .exact a1.trans b1.symm
  .subst a2;exact yA (hi.inj j k _ b3 kh) b2
  .subst b2;exact yA (hi.inj i k _ a3 kh) a2
  .exact hi.inj i j c a3 b3
 .intro j c h;rcases key j c h with ⟨_,rfl⟩|⟨_,_,h⟩
  .exact hi.bnd k _ kh
  .exact hi.bnd j c h
 .intro j c h;rcases key j c h with ⟨_,rfl⟩|⟨_,_,h⟩
  .exact hi.apart k _ kh
  .exact hi.apart j c h
def L2{C:Cx}{kk:List KI}{s:SS}(k d:Nat){l:List SV}(h:s.h k=.box l)(hd:s.h d=.fresh)(ck:k≠d)(hg:G C kk ⟨λi=>rnb k d (s.σ i),upd (λj=>bif Nat.beq j k then .non else rnbO k d (s.h j)) d (.box (Abh k d l))⟩):G C kk s:=λr a w hs=>by
 have cq:=hs.obj k;rw[h]at cq;have az:r d=.new:=by have:=hs.obj d;rwa [hd]at this
 obtain ⟨b,cs,T,fr,e1,e2,e3,e4,e5⟩:=cq;obtain ⟨st,inv⟩:=Apj hs.inv e1 az;have af:∀j,j≠k->j≠d->(Em (Em r k .dead) d (.blk b)) j=r j:=λj h1 h2=>by rw[Cc _ _ h2,Cc _ _ h1]
 have hv:∀o v,Rd r w (.ptr k o) v->Rd (Em (Em r k .dead) d (.blk b)) w (.ptr d o) v:=λo v hv=>by
  simp only[Rd,e1]at hv;simp only[Rd,Ay];exact hv
 refine hg _ a w ⟨hs.defers,hs.size,inv,hs.ctx.step inv st,λj=>Apz st hv _ _ (hs.slot j),λj=>?_⟩;show ObOK _ w j (upd (λj=>bif Nat.beq j k then .non else rnbO k d (s.h j)) d (.box (Abh k d l)) j);by_cases hj:j=d
 .subst hj;rw[B1];exact⟨b,cs,T,fr,Ay _ _ _,e2,e3,e4,T6 st hv l cs e5⟩
 .rw[Cz _ _ hj];by_cases cn:j=k
  .subst cn;rw[show Nat.beq j j=true from tT j];trivial
  .rw[show Nat.beq j k=false from by cases hb:Nat.beq j k with|false=>rfl|true=>exact yA (yK hb) cn];have hb:=ObOK.step st (λe=>e.elim cn hj) _ (hs.obj j);have h0:=hs.obj j;show ObOK _ w j (rnbO k d (s.h j));cases hh:s.h j with
   |box m=>
    rw[hh]at h0 hb;obtain ⟨b2,xw,T2,yr,f1,f2,f3,f4,f5⟩:=h0;exact⟨b2,xw,T2,yr,(af j cn hj).trans f1,f2,f3,f4,T6 st hv m xw f5⟩
   |fresh=>rw[hh]at hb;exact hb
   |non=>rw[hh]at hb;exact hb
   |row d7 e' l'=>rw[hh]at hb;exact hb
   |lit d7 svs=>rw[hh]at hb;exact hb
   |glob d7 x' g'=>rw[hh]at hb;exact hb
   |pin b' n' d6 d7 e' l'=>rw[hh]at hb;exact hb
   |dat v' d7 e' l'=>rw[hh]at hb;exact hb
   |trow T' m'=>rw[hh]at hb;exact hb
   |rown d7 e' l' i' yu=>rw[hh]at hb;exact hb
   |tbox T' m'=>rw[hh]at hb;exact hb
theorem VwL.get{s:SS}{V:List Nat}:∀{l m:List SV} (_:VwL s V l m) {i:Nat} {y:SV},Iu m i=some y->∃x,Iu l i=some x/\Vw s V x y
 |_,_,.nil,i,y,h=>by cases i<;>simp[Iu]at h
 |_,_,.cons (x:=x) h0 hs,0,y,h=>by
  simp only[Iu,Option.some.injEq]at h;subst h;exact⟨x,E,h0⟩
 |_,_,.cons h0 hs,i+1,y,h=>VwL.get hs (i:=i) h
theorem VwL.len{s:SS}{V:List Nat}:∀{l m:List SV} (_:VwL s V l m),m.length=l.length
 |_,_,.nil=>rfl
 |_,_,.cons _ hs=>by simp[VwL.len hs]
def Ag3:∀{l:List SV} {i:Nat} {x:SV},Tm l=true->Iu l i=some x->x.data=true
 |[],i,x,_,h=>by cases i<;>simp[Iu]at h
 |y::l,0,x,hd,h=>by
  simp only[Iu,Option.some.injEq]at h;subst h;simp only[Tm,zG]at hd;exact hd.1
 |y::l,i+1,x,hd,h=>by
  simp only[Tm,zG]at hd;exact Ag3 hd.2 (i:=i) h
def lH{C:Cx}{k:List KI}{s:SS}(d:Nat){sz:Nat}{svs:List SV}(te:List SV)(h:s.h d=.lit sz svs)(hv:VwL s [] svs te)(hd:Tm te=true)(hg:G C k ⟨s.σ,upd s.h d (.lit sz te)⟩):G C k s:=λr a w hs=>by
 refine hg r a w ⟨hs.defers,hs.size,hs.inv,hs.ctx,hs.slot,λj=>?_⟩;show ObOK r w j (upd s.h d (.lit sz te) j);by_cases hj:j=d
 .subst hj;rw[B1];have cq:=hs.obj j;rw[h]at cq;have hlen:=hv.len;obtain ⟨b,cap,cs,T,fr,e1,e2,e3,e4,e5,e6⟩:=cq;refine⟨b,cap,cs,T,fr,by rw[hlen];exact e1,e2,e3,e4,by omega,λi x hx=>?_⟩;obtain ⟨y,hy,hvw⟩:=hv.get hx;obtain ⟨f1,u,f2,f3⟩:=e6 i y hy;exact⟨by omega,u,Rd.data _ _ (Ag3 hd hx) (hvw.rd hs.inv (λn hn=>by cases hn) f2.toRd),f3⟩
 .rw[Cz _ _ hj];exact hs.obj j
theorem RdL.setI{k:Ka}{w:World}{x:SV}{v:Value}(hx:Rd k w x v):∀{l:List SV} {cs:List Value} (i:Nat),RdL k w l cs->RdL k w (l.set i x) (cs.set i v)
 |[],cs,i,h=>by simp only[RdL]at h;subst h;simp[RdL]
 |y::l,cs,0,h=>by
  simp only[RdL]at h;obtain ⟨u,r,rfl,h1,h2⟩:=h;simp only[uY,RdL];exact⟨v,r,E,hx,h2⟩
 |y::l,cs,i+1,h=>by
  simp only[RdL]at h;obtain ⟨u,r,rfl,h1,h2⟩:=h;simp only[List.set_cons_succ,RdL];exact⟨u,_,E,h1,h2.setI hx i⟩
def Ea{a:Ka}{w:World}{k:Nat}{l:List SV}(hi:Inv a w)(h:ObOK a w k (.box l)){off:Nat}{x:SV}{v:Value}(_hx:x.plain=true)(hv:∀a w,Rd a w x v)(h1:v.oneCell'=true):∃b,a k=.blk b/\(∀j y,Iu l j=some y->∃u,w.cell? ⟨b,j,none⟩=some u/\Rd a w y u)/\(∀j,j<l.length->w.frozen? ⟨b,j,none⟩=false) /\
   Step (·=k) a w a (w.setCell ⟨b,off,none⟩ v)/\Inv a (w.setCell ⟨b,off,none⟩ v)/\ObOK a (w.setCell ⟨b,off,none⟩ v) k (.box (l.set off x)):=by
 obtain ⟨b,cs,T,fr,e1,e2,e3,e4,e5⟩:=h;have gr:(w.setCell ⟨b,off,none⟩ v).heap[b]? = some (.cells (cs.set off v).toArray T fr):=by
  simp[World.setCell,Array.getElem?_modify,e2]
 have hoth:∀j,j≠b->(w.setCell ⟨b,off,none⟩ v).heap[j]? = w.heap[j]?:=λj hj=>heap_setCell_other w ⟨b,off,none⟩ j v hj
 obtain ⟨st,inv⟩:=Tx (w':=w.setCell ⟨b,off,none⟩ v) hi (k:=k) (b:=b) (by rw[e1];rfl) rfl rfl rfl y_ hoth;have hlen:=e5.length;refine⟨b,e1,λj y hy=>?_,λj hj=>?_,st,inv,b,_,T,fr,e1,gr,by rw[yQ];exact e3,?_,(RdL.step st _ _ e5).setI (hv _ _) off⟩
 .obtain ⟨u,hu,hr⟩:=e5.get hy;exact⟨u,by rw[cell_of_row w b j cs.toArray T fr e2,uZ];exact hu,hr⟩
 .obtain ⟨lo,hi'⟩:=fr;simp only[World.frozen?,e2];rcases e3 with h|h
  .simp only at h;subst h;simp
  .simp only at h;simp;omega
 .intro c hc;rcases tB hc with h|h
  .exact e4 c h
  .rw[h];exact h1
def Za{P:Program}{o:Oper}{s:SS}{f:FuncId}{ik:IntKind}{ts:Array TypeId}{x:Operand}{k off:Nat}{l:List SV}{v:Int}(hf:∀(a:Addr) (x:Int) (w:World),w.cell? a=some (.int ik x)->(callFunc f #[.pointer (some a)]).run P w=.ok (.value (.int ik x)) w)(h:o.op=.call ⟨.value (.func f),#[x],ts⟩)(hx:ev s x=.ptr k off)(hk:s.h k=.box l)(hy:Iu l off=some (.val (.int ik v))):Good P o s ⟨.val (.int ik v),[k],[]⟩ :=
 Good.pure λr a w hi hr ho=>by
  have h1:=hr x (by simp[h,Op.operands,Call.operands]);rw[hx]at h1;have h2:=ho k y_;rw[hk]at h2;obtain ⟨b,cs,T,fr,e1,e2,e3,e4,e5⟩:=h2;simp only[Rd,e1]at h1;obtain ⟨u,hu,nj⟩:=e5.get hy;have hc:w.cell? ⟨b,off,none⟩=some (.int ik v):=by rw[cell_of_row w b off cs.toArray T fr e2,uZ,hu,nj.val]
  have au:=hf ⟨b,off,none⟩ v w hc;refine⟨.int ik v,?_,by simp only[Rd]⟩;have th:a.eval (.func f)=.func (.func f) #[] #[]:=rfl;simp[execOp,h,resolve,th,Deferred.ofValue,invoke,h1,au]
def Ai3{P:Program}{o:Oper}{s:SS}{f:FuncId}{ts:Array TypeId}{x y:Operand}{k off:Nat}{l:List SV}{v d:Int}(hf:∀(a:Addr) (x y:Int) (w:World),w.cell? a=some (.int .i64 x)->w.frozen? a=false->(callFunc f #[.pointer (some a),.int .i64 y]).run P w=.ok (.value (.int .i64 (IntKind.i64.wrap (x+y)))) (w.setCell a (.int .i64 (IntKind.i64.wrap (x+y)))))(h:o.op=.call ⟨.value (.func f),#[x,y],ts⟩)(hx:ev s x=.ptr k off)(hy:ev s y=.val (.int .i64 d))(hk:s.h k=.box l)(hl:Iu l off=some (.val (.int .i64 v)))(hv:IntKind.i64.wrap (v+d)=v+d):Good P o s ⟨.val (.int .i64 (v+d)),[],[(k,.box (l.set off (.val (.int .i64 (v+d)))))]⟩:=by
 intro r a w hi hr ho N Q hN;have h1:=hr x (by simp[h,Op.operands,Call.operands]);have h2:=hr y (by simp[h,Op.operands,Call.operands]);rw[hx]at h1;rw[hy]at h2;have h3:=ho k (.inr (by simp[Up.ws]));rw[hk]at h3;obtain ⟨b,e1,c1,c2,st,inv,ob⟩:=Ea (off:=off) (x:=.val (.int .i64 (v+d))) (v:=.int .i64 (v+d)) hi h3 rfl (λ_ _=>by simp only[Rd]) rfl;simp only[Rd,e1]at h1;obtain ⟨u,hu,nj⟩:=c1 off _ hl;rw[nj.val]at hu;have au:=hf ⟨b,off,none⟩ v d w hu (c2 off (Aaj hl));rw[hv]at au;have yv:(execOp a.eval o).run P w=.ok (.value (.int .i64 (v+d))) (w.setCell ⟨b,off,none⟩ (.int .i64 (v+d))):=by
  have th:a.eval (.func f)=.func (.func f) #[] #[]:=rfl;simp[execOp,h,resolve,th,Deferred.ofValue,invoke,h1,h2.val,au]
 simp only[Oper.wp,yv,Oper.upon];refine hN _ r _ (st.weaken (by simp[Up.ws])) inv (by simp only[Rd]) (λp hp=>?_);simp only[zX]at hp;subst hp;exact ob
def Zb{P:Program}(Γ:Ty P){o:Oper}{s:SS}(q:Nat){t:TypeId}{ti:TI}{et:TypeId}{eb b n cap lo k c1 c2:Nat}{ez:List Value}{x y:Operand}{m:Type}{e:m->SV}{l:List m}{B B2:Option Addr}(h:o.op=.call ⟨.builtin .copy,#[x,y],#[t,t]⟩)(ht:Γ.get t=some ti)(hk:ti.k=.slice et 1 eb ez)(hx:ev s x=.val (.slice B (n-lo) c1))(hB:B=some ⟨b,lo,none⟩)(hy:ev s y=.val (.slice B2 k c2))(hB2:B2=some ⟨b,0,none⟩)(hq:s.h q=.pin b n cap 1 e l)(hl:l.length=n)(cx:k<=n)(ee:0<min k (n-lo)):Good P o s ⟨.val (.int .i64 (min k (n-lo):Nat)),[],[(q,.pin b n cap 1 e (l.take lo++l.take (min k (n-lo))++l.drop (lo+min k (n-lo))))]⟩:=by
 intro r a w hinv hr ho N Q hN;have r1:=hr x (by simp[h,Op.operands,Call.operands]);have r2:=hr y (by simp[h,Op.operands,Call.operands]);rw[hx]at r1;rw[hy]at r2;subst hB;subst hB2;have cq:=ho q (.inr (by simp[Up.ws]));rw[hq]at cq;obtain ⟨e0,b',d6,cs,T,fr,e1,e2,e3,e4,e5,e6⟩:=cq;rw[e0]at e1;cases e1;obtain ⟨hu,ii,zv,q1,q2,q3,q4,q5⟩:=Cu Γ ht hk;obtain ⟨mn,yw⟩:=kE (min k (n-lo));rw[yw]at ee hN;have pw:n<=cs.length:=by omega
 have dp:∀i,i<n->∃u:Value,u.cells.size=1/\Ones u.cells.toList/\∀j,j<1->cs[i*1+j]? = u.cells[j]?:=λi hi=>by
  obtain ⟨_,u,_,u2⟩:=e6 i (e l[i]) ⟨by omega,rfl⟩;exact⟨u,u2⟩
 obtain ⟨news,fg⟩:∃news,news=cs.take mn:=⟨_,rfl⟩
 have mc:news.length=mn:=by rw[fg,zY];omega
 have bc:∀p,p<mn->news[p]? = cs[p]?:=λp hp=>by rw[fg,uD,zE hp]
 have ky:Ones news:=λv hv=>by
  obtain ⟨p,hp,he⟩:=wN hv;have h1:news[p]? = some v:=by rw[zR hp,he]
  rw[mc]at hp;rw[bc p hp]at h1;exact Akv (n:=n) dp q_ h1
 obtain ⟨w',f1,f2,f3,f4,f5,f6,f7⟩:=Dr P b lo T fr news 0 cs w e2 e3 q_ ky;obtain ⟨st,inv⟩:=Vp hinv e0 f3 f4 f5 f6 f7;have gq:∀p v,cs[p]? = some v->w.cell? ⟨b,p,none⟩=some v:=λp v hp=>by simp[World.cell?,e2,hp]
 have hc:=Ag7 (P:=P) w w' t t o.type et ⟨b,lo,none⟩ ⟨b,0,none⟩ (n-lo) c1 k c2 news hu q1 q2 (by rw[mc,yw]) (λ j v hv=>by
  rw[Addr.add_lit];have ab:j<mn:=by rw[<-mc];exact(List.getElem?_eq_some_iff.1 hv).1
  rw[bc j ab]at hv;rw[wF];exact gq _ _ hv) f1
 rw[mc]at hc;have au:(execOp a.eval o).run P w=.ok (.value (.int .i64 (mn:Nat))) w':=by
  simp[execOp,h,resolve,invoke,builtin,r1.val,r2.val,hc]
 simp only[Oper.wp,au,Oper.upon];refine hN _ r w' (st.weaken (λk hk=>by subst hk;simp[Up.ws])) inv (by simp only[Rd]) (λp hp=>?_);simp only[zX]at hp;subst hp;refine⟨e0,b,cap,_,T,fr,e0,f2,by rw[Cm];exact e3,by rw[Cm];exact e4,e5,?_⟩;rintro i z ⟨dt,rfl⟩;have bh:=Oq cs news (lo+0);have hlen:(l.take lo++l.take mn++l.drop (lo+mn)).length=n:=by
  simp only[zQ,zY,yP];omega
 rw[hlen]at dt;have src:∀j (hj:j<l.length),∃u:Value,RdD (Own r) w (e l[j]) u/\u.cells.size=1/\Ones u.cells.toList/\∀p,p<1->cs[j*1+p]? = u.cells[p]?:=λj hj=>(e6 j (e l[j]) ⟨hj,rfl⟩).2
 by_cases tj:i<lo
 .obtain ⟨u,u1,u2,u3,u4⟩:=src i q_;refine⟨dt,u,?_,u2,u3,λp hp=>?_⟩
  .have:(l.take lo++l.take mn++l.drop (lo+mn))[i]'(by rw[hlen];exact dt)=l[i]'q_:=by
    rw[yZ (by simp only[zQ,zY];omega),yZ (by simp only[zY];omega),wD]
   rw[this];exact RdD.keep st.keeps _ _ u1
  .rw[bh _ q_,zD q_,u4 p hp]
 .by_cases j5:i<lo+mn
  .obtain ⟨u,u1,u2,u3,u4⟩:=src (i-lo) q_;refine⟨dt,u,?_,u2,u3,λp hp=>?_⟩
   .have:(l.take lo++l.take mn++l.drop (lo+mn))[i]'(by rw[hlen];exact dt)=l[i-lo]'q_:=by
     rw[yZ (by simp only[zQ,zY];omega),xQ (by simp only[zY];omega),wD];congr 1;simp only[zY];omega
    rw[this];exact RdD.keep st.keeps _ _ u1
   .rw[bh _ q_,zE q_,bc _ q_,<-u4 p hp];congr 1;omega
  .obtain ⟨u,u1,u2,u3,u4⟩:=src i q_;refine⟨dt,u,?_,u2,u3,λp hp=>?_⟩
   .have:(l.take lo++l.take mn++l.drop (lo+mn))[i]'(by rw[hlen];exact dt)=l[i]'q_:=by
     rw[xQ (by simp only[zQ,zY];omega),vW];congr 1;simp only[zQ,zY];omega
    rw[this];exact RdD.keep st.keeps _ _ u1
   .rw[bh _ q_,zD q_,u4 p hp]
theorem Ctx.onward{F:Fr}{a a2:Ka}{w w2:World}{ds:List Deferred}(c:Ctx F a w)(c2:Ctx ⟨w,a,ds⟩ a2 w2):Ctx F a2 w2 where
 size:=wT c.size c2.size
 os:=c2.os.trans c.os
 tape:=c2.tape.trans c.tape
 output:=c2.output.trans c.output
 M:=c2.M.trans c.M
 old b hb h:=by
  refine(c2.old b (xA hb c.size) (λk hk=>?_)).trans (c.old b hb h);rcases c.own k b hk with h1|⟨j,h1⟩
  .exact yA hb (Nat.not_lt.2 h1)
  .exact h j h1
 own k b hk:=by
  rcases c2.own k b hk with h|⟨j,h⟩
  .exact .inl (wT c.size h)
  .exact c.own j b h
 nam k hk:=by
  have hn:∀x,a k=x->x≠.new->a2 k=x\/a2 k=.dead:=λx hx af=>by
   have h:a2 k=a k\/a2 k=.dead:=c2.nam k (by show a k≠.new;rw[hx];exact af);rw[hx]at h;exact h
  rcases c.nam k hk with h|h
  .exact hn _ h hk
  .rcases hn _ h (by intro e;cases e) with h2|h2
   .exact .inr h2
   .exact .inr h2
def Aug(P:Program)(fn:Func)(F:Fr)(R:SV)(H':Obs):Exit->Act->World->Prop :=
 bodyPostD P fn λe w'=>∃v k',e=.returned v/\Ctx F k' w'/\Inv k' w'/\Rd k' w' R v/\H'.ok k' w'
def Apm{P:Program}(Γ:Ty P){f:FuncId}{fn:Func}{c:Code}{A:List SV}{H:Obs}{R:SV}{H':Obs}(hf:P.funcs[f]? = some fn)(hb:fn.body=some c){n:Nat}(mg:fn.ntmps=n)(hn:A.length<=n)(h:∀(F:Fr) (hF:∀k,F.k0 k≠.new->k∈H.keys),F.ds=[]->G ⟨P,Γ,F,n,Aug P fn F R H',H.keys,hF⟩ [.code c] ⟨argσ A,mkh H⟩):Spec P f A H R H':=by
 subst mg;intro a w vs hi az hA hH;refine calls_of_wp_defers hf hb ?_;have hlen:=hA.length;refine h ⟨w,a,[]⟩ az E a _ w ⟨E,?_,hi,Ctx.refl a w,?_,?_⟩
 .simp;omega
 .intro i;have:=hA.getD (fn.ntmps-vs.length) i;have he:(vs.toArray++Array.replicate (fn.ntmps-vs.length) undef)=(vs++List.replicate (fn.ntmps-vs.length) undef).toArray:=by simp
  show Rd a w _ ((vs.toArray++Array.replicate (fn.ntmps-vs.toArray.size) undef).getD i undef);rw[tD,he];simpa using this
 .intro k;exact Aqu hH (λhk=>Classical.byContradiction λaf=>hk (az k af))
def Axz{P:Program}(Γ:TyE P)(hm:P.follows .mixedOrders=true)(N:Nat){f:FuncId}{fn:Func}{c:Code}{A:List SV}{H:Obs}{R:SV}{H':Obs}(hF:Fun P f fn c){n:Nat}(mg:fn.ntmps=n)(hn:Amf A n=true)(h:∀(F:Fr) (hF:∀k,F.k0 k≠.new->k∈H.keys),F.ds=[]->Qt ⟨P,Γ.toTy,F,n,Aug P fn F R H',H.keys,hF⟩ Γ N [.code c] ⟨argσ A,mkh H⟩):Sy.Spec P f A H R H' :=
 Apm Γ.toTy hF.1 hF.2 mg (Ace hn) λF hF h0=>run Γ hm N (h F hF h0)
def A5x{C:Cx}{k:List KI}{s:SS}{all:Array Oper}{o:Oper}{rest:List Oper}{x:Operand}{ts:Array TypeId}{g:FuncId}{cap:List SV}(h:o.op=.defer ⟨.value x,#[],ts⟩)(hx:ev s x=.clo (.func g) [] cap)(hd:o.dst=none)(hw:E3 C.n all o s=some true)(h0:C.F.ds=[])(bn:List Nat)(hbn:∀j,j∉bn->s.h j=.fresh)(hg:∀(F:Fr) (hF:∀j,F.k0 j≠.new->j∈bn) (cv:List Value),F.ds=[⟨.fn (.func g) cv.toArray,#[]⟩]->RdL F.k0 F.w0 cap cv->(∀b w,Ctx F b w->Ctx C.F b w)->G ⟨C.P,C.Γ,F,C.n,C.B,bn,hF⟩ (.ops all rest::k) s):G C (.ops all (o::rest)::k) s:=by
 intro b a w hs;refine wpList_step λK hK=>?_
 rw[zE (Xm hs (E4 hw).2 (E4 hw).1)];have hr:=hs.ev x;rw[hx]at hr;simp only[Rd]at hr;obtain ⟨fs,cs,hv,tl,kt⟩:=hr;simp only[RdL]at tl;subst tl;have hF:∀ j,b j≠.new->j∈bn:=λ j hj=>Classical.byContradiction λ hn=>hj (by
  have:=hs.obj j;rw[hbn j hn]at this;exact this)
 have au:(execOp a.eval o).run C.P w=.ok (.defer ⟨.fn (.func g) cs.toArray,#[]⟩) w:=by
  simp[execOp,h,resolve,Deferred.ofValue,hv]
 show o.upon C.P a K _ ((execOp a.eval o).run C.P w);rw[au,Oper.upon_defer,hd];refine hK _ _ (hg ⟨w,b,[⟨.fn (.func g) cs.toArray,#[]⟩]⟩ hF cs rfl kt (λb2 w2 c2=>hs.ctx.onward c2) b {a with defers:=_::a.defers} w ⟨?_,hs.size,hs.inv,?_,hs.slot,hs.obj⟩)
 .show _::a.defers=_;rw[hs.defers,h0]
 .have:=Ctx.refl b w;exact⟨this.size,this.os,this.tape,this.output,this.M,this.old,this.own,this.nam⟩
end Go.Sy
namespace Go.Sy.Zaa
open Go.Proofs Go.Proofs.Tryz
attribute [local irreducible]G DR
set_option maxRecDepth 100000
def Xp{a:Ka}{w:World}{k sz:Nat}{r:Type}{e:r->SV}{l:List r}(af:l≠[])(h:ObOK a w k (.row sz e l)):∃b n c,a k=.row b n c:=by
 rcases h with ⟨_,h⟩|⟨b,cap,_,_,_,h,_⟩
 .exact yA h af
 .exact⟨b,_,cap,h⟩
theorem iJ{A0:Type}(v0:A0->SV)(z0:Nat){f0 m0:Nat}{g0:Func}(F0:fT f0 g0)(n0:g0.ntmps=m0)(h:let A0:Type:=A0;let v0:A0->SV:=v0;let z0:=z0;fT f0 g0->g0.ntmps=m0->∀ (l:List A0) (hl:l.length<2147483648),Sp f0 [.sl z0 v0 l] (.sl z0 v0 l):=by
 intro A0 v0 z0 F0 n0 l hl
 refine cT F0 n0 λF hF=>?_
 conv=>whnf
 refine Hk E (.inl E) E E E .sl E E ?_;intro b hb;cases b
 .refine oF ?_;exact Aj (Ah Γ.toTy 7 E E E E E (.lit (e:=v0) (l:=[]) E E) .sl y_ kO kO) E E (Ai 7 E gI)
 .have h0:l=[]:=yC (hb rfl);subst h0;refine oT ?_;exact Ao 2 z0 v0 E dN):∀ (l:List A0) (hl:l.length<2147483648),Sp f0 [.sl z0 v0 l] (.sl z0 v0 l):=h F0 n0
def Ku:=iJ Aa 1 F170 ntmps170
def Ag8:=iJ Be 1 F171 ntmps171
def Adu:=iJ Ab 1 F46 ntmps46
theorem iE{A0:Type}(v0:A0->SV)(z0:Nat){f0 m0:Nat}{g0:Func}(F0:fT f0 g0)(n0:g0.ntmps=m0)(h:let A0:Type:=A0;let v0:A0->SV:=v0;let z0:=z0;fT f0 g0->g0.ntmps=m0->∀ (l:List A0) (hl:l.length<2147483648),Sq f0 [.sl z0 v0 l] [] (.osl 0) [(0,.row z0 v0 l)]:=by
 intro A0 v0 z0 F0 n0 l hl
 refine cT F0 n0 λF hF=>?_
 conv=>whnf
 refine Hk E (.inl E) E E E .sl E E ?_;intro b hb;cases b
 .refine oF ?_;refine Aj (Ah Γ.toTy 7 E E E E E (.lit (e:=v0) (l:=[]) E E) .sl y_ kO kO) E E (oO ?_);exact done E Aq [(0,7)] [(0,.row z0 v0 l)] (λ_ h=>h) E E kU
 .have h0:l=[]:=yC (hb rfl);subst h0;refine oT ?_;refine Ca 2 1000 z0 v0 E E ?_;exact done E Aq [(0,1000)] [(0,.row z0 v0 [])] (λ _ h=>h) E E kU):∀ (l:List A0) (hl:l.length<2147483648),Sq f0 [.sl z0 v0 l] [] (.osl 0) [(0,.row z0 v0 l)]:=h F0 n0
def Asi:=iE Bb 7 F163 ntmps163
def Ajo:=iE At 6 F165 ntmps165
def Anw:=iE Bn 4 F167 ntmps167
def Ax1:=iE Ct 5 F168 ntmps168
end Go.Sy.Zaa
namespace Go.Sy
structure Meth(P:Program)(t:TypeId)(name:String)(f:FuncId)(pr:Bool)(e:TypeId):Prop where
 row:∃i m,P.info? t=some i/\i.methods.find? (·.name==name)=some m/\m.path=#[]/\m.func=some (f,pr)
 under:P.underlying t=some (.pointer e)
def Abd{P:Program}{t:TypeId}{name:String}{f:FuncId}{e:TypeId}(hm:Meth P t name f true e)(w:World)(v:Value):(Go.method (P.types.size+Made.depth) t v name).run P w=.ok (f,v) w:=by
 obtain ⟨⟨i,m,h1,h2,h3,h4⟩,hu⟩:=hm;show (Go.method (P.types.size+99+1) t v name).run P w=_;rw[Go.method];simp only[Sem.run_bind,run_typeInfo w h1,Result.andThen_ok,h2,h3,Go.follow,Sem.run_pure,h4,Go.receiverAt,run_underlying hu,Go.Place.get]
def Abc{P:Program}{t:TypeId}{name:String}{f:FuncId}{e:TypeId}(hm:Meth P t name f false e)(w:World)(a:Addr){v:Value}(hv:(loadVar e a).run P w=.ok v w):(Go.method (P.types.size+Made.depth) t (.pointer (some a)) name).run P w=.ok (f,v) w:=by
 obtain ⟨⟨i,m,h1,h2,h3,h4⟩,hu⟩:=hm;show (Go.method (P.types.size+99+1) t (.pointer (some a)) name).run P w=_;rw[Go.method];have he:(#[]:Array FieldStep).isEmpty=true:=rfl;simp only[Sem.run_bind,run_typeInfo w h1,Result.andThen_ok,h2,h3,Go.follow,Sem.run_pure,h4,Go.receiverAt,run_underlying hu,Go.Place.get,he,if_true];have hs : ∀n : String, (Builtin.ssaWrapNilChk_ #[t] t #[.pointer (some a), strVal "", strVal n]).run P w = .ok (.pointer (some a)) w := λn=> rfl
 simp only[hs,Result.andThen_ok,asAddr,Sem.run_pure,hv]
def Zg{P:Program}{o:Oper}{s:SS}{rd:List Nat}{f:FuncId}{fn:Func}{c:Code}{t e:TypeId}{name:String}{x:Operand}{xs:List Operand}{ts:Array TypeId}{y:SV}(hm:Meth P t name f true e)(hf:Fun P f fn c)(h:o.op=.call ⟨.invoke x name,xs.toArray,ts⟩)(hx:ev s x=.ifc t y):U7 P o s rd f (y::xs.map (ev s)) :=
 λk a w hr _=>by
  have h1:=hr x (by simp[h,Op.operands,Call.operands]);rw[hx]at h1;simp only[Rd]at h1;obtain ⟨u,e1,e2⟩:=h1;refine⟨u::xs.map a.eval,?_,?_⟩
  .have eh:=M9 hf (u::xs.map a.eval).toArray w;have rh:=Abd hm w u;simp only[execOp,h,resolve,invoke,e1,Sem.run_bind,Sem.run_pure,Result.andThen_ok]at eh|-;simp only[callMethod];rw[<-eh];have ig:(xs.map a.eval).take xs.length=xs.map a.eval:=xI y_;simp[rh,Sem.run_bind,ig]
  .simp only[RdL];exact⟨_,_,E,e2,Sa xs (λy hy=>hr y (by simp[h,Op.operands,Call.operands,hy]))⟩
def B0{P:Program}(Γ:Ty P){o:Oper}{s:SS}{f:FuncId}{fn:Func}{c:Code}{t e:TypeId}{ti:TI}{name:String}{x:Operand}{xs:List Operand}{ts:Array TypeId}{k off:Nat}{l:List SV}{z:SV}(hm:Meth P t name f false e)(hf:Fun P f fn c)(h:o.op=.call ⟨.invoke x name,xs.toArray,ts⟩)(hx:ev s x=.ifc t (.ptr k off))(hk:s.h k=.box l)(ht:Γ.get e=some ti)(hz:O9 ti l off=some z):U7 P o s [k] f (z::xs.map (ev s)) :=
 λr a w hr ho=>by
  have h1:=hr x (by simp[h,Op.operands,Call.operands]);rw[hx]at h1;simp only[Rd]at h1;obtain ⟨u,e1,e2⟩:=h1;have cq:=ho k y_;rw[hk]at cq;obtain ⟨b,f1,f2⟩:=cq.cellsAt;rw[f1]at e2;simp only at e2;subst e2;obtain ⟨v,g1,g2⟩:=Ou (P:=P) Γ ht f2 hz;rw[wF]at g1;refine⟨v::xs.map a.eval,?_,?_⟩
  .have eh:=M9 hf (v::xs.map a.eval).toArray w;have rh:=Abc hm w ⟨b,off,none⟩ g1;simp only[execOp,h,resolve,invoke,e1,Sem.run_bind,Sem.run_pure,Result.andThen_ok]at eh|-;simp only[callMethod];rw[<-eh];have ig:(xs.map a.eval).take xs.length=xs.map a.eval:=xI y_;simp[rh,Sem.run_bind,ig]
  .simp only[RdL];exact⟨_,_,E,g2,Sa xs (λy hy=>hr y (by simp[h,Op.operands,Call.operands,hy]))⟩
def nR{P:Program}(Γ:Ty P){o:Oper}{s:SS}{x:Operand}{xt t:TypeId}{ti:TI}{y:SV}{ok:Bool}(h:o.op=.typeAssert x xt t ok)(hx:ev s x=.ifc t y)(ht:Γ.get t=some ti)(hk:ti.k matches .bool| .int _| .string| .slice .. | .struct _| .ptr| .func):Good P o s ⟨if ok then .tup [y,Ab true] else y,[],[]⟩ :=
 Good.pure λb a w _ hr _=>by
  have h1:=hr x (by simp[h,Op.operands]);rw[hx]at h1;simp only[Rd]at h1;obtain ⟨u,e1,e2⟩:=h1;obtain ⟨d,info,z,k1,k2,_⟩:=Γ.ok t ti ht;have hni:∀ms,d≠.interface ms:=by
   obtain ⟨k,n,zz⟩:=ti;intro ms hd;subst hd;cases k<;>simp_all[TK.ok]
  have au:(Instr.typeAssert (.iface t u) xt t ok).run P w=.ok (if ok then .tuple #[u,.bool true] else u) w:=by
   cases d<;>first
    |exact yA rfl (hni _)
    |(cases ok<;>simp[Instr.typeAssert,run_underlying k1])
  refine⟨if ok then .tuple #[u,.bool true] else u,by simp[execOp,h,e1,au],?_⟩;cases ok
  .exact e2
  .simp only[if_true,Rd,RdL];exact⟨[u,.bool true],E,_,_,E,e2,_,_,E,by simp[Ab,Rd],E⟩
def A56(P:Program)(t:TypeId)(name:String)(f:FuncId)(pr:Bool):Bool :=
 match P.info? t with
 | some i=>(match i.methods.find? (·.name == name) with
  |some m=>m.path.isEmpty&&(match m.func with|some (g,b)=>Nat.beq g f&&(b==pr)|none=>false)
  | none=>false)
 |none=>false
theorem Meth.of{P:Program}{t:TypeId}{name:String}{f:FuncId}{pr:Bool}{e:TypeId}(h:A56 P t name f pr=true)(hu:P.underlying t=some (.pointer e)):Meth P t name f pr e:=by
 refine⟨?_,hu⟩;unfold A56 at h;split at h
 .rename_i i hi;split at h
  .rename_i m hm;simp only[zG]at h;obtain ⟨h1,h2⟩:=h;split at h2
   .rename_i g b hf;simp only[zG,yJ]at h2;obtain ⟨h3,rfl⟩:=h2;have h3:=yK h3;subst h3;exact⟨i,m,hi,hm,kS h1,hf⟩
   .cases h2
  .cases h
 .cases h
end Go.Sy
namespace Go.Sy.Zaa
open Go.Proofs Go.Proofs.Tryz
attribute [local irreducible]G DR
set_option maxRecDepth 100000
def any_at3{k:Type}{p:k->Bool}{l:List k}{j:Nat}(hj:j<l.length)(h:p l[j]=true):l.any p=true:=xY.2 ⟨_,zI hj,h⟩
def Ahg{k:Type}{p:k->Bool}{l:List k}{j:Nat}(hI:El (λ_ x=>!(p x)) l j)(hj:l.length<=j):l.any p=false:=by
 rw[wE];intro x hx;obtain ⟨i,hi,rfl⟩:=wN hx;have:=hI i hi q_;simpa using this
def Mk(x:StepM):Bool:=decide (2000<x.bytes.length)||decide (60<x.up.length)
def great33B(l:List StepM):Bool:=decide (60<l.length)||l.any Mk
def A18(l:List StepM):Sp 22 [.sl 6 Bp l] (Ab (great33B l)):=cT F22 ntmps22 λF hF=>by
 have aa:=great33B.eq_1 l;generalize great33B l=res at *
 conv=>whnf
 constructor<;>intro h
 .rw[zL (qA h),vN]at aa;subst aa;exact gI
 have hl:l.length<=60:=qB h;rw[zK q_,vQ]at aa;refine oO ?_;refine Ba l.length (λj=>El (λ_ x=>!(Mk x)) l j) (λj=>[(0,.sl 6 Bp l),(3,Aa j)]) (λ_=>[]) [] (Bi _ _) kU ?_;intro j hj hI;refine gH ?_ ?_<;>intro h
 .have ab:j<l.length:=qA h;have ai:(j:Int).toNat<l.length:=kS ab;have gy:=λh=>@any_at3 _ Mk l j ab h
  have ej:=λh=>Bd (p:=λ_ x=>!(Mk x)) hI ab h
  obtain ⟨x,hx⟩:=kE (l[(j:Int).toNat]'ai);have vr:l[j]=x:=hx;rw[vr]at gy ej;refine oO ?_;refine⟨E,by omega,ai,?_⟩;rw[hx]
  conv=>whnf
  constructor<;>intro h
  .rw[gy (by rw[Mk,zL (qA h),vN])]at aa;subst aa;refine oT ?_;exact dN
  have h1:=zT h;refine oO ?_;refine⟨E,by omega,ai,?_⟩;rw[hx]
  conv=>whnf
  constructor<;>intro h
  .rw[gy (by rw[Mk,zL (by have:=zO h;omega:60<x.up.length),tH])]at aa;subst aa;exact gI
  have h2:=zT h;refine gF ?_;exact A8 [] hI q_ (ej (by rw[Mk,zK q_,zK q_];rfl)) kU
 .have cu:j=l.length:=qB h;subst cu;rw[Ahg hI (yE _)]at aa;subst aa;exact gI
def Ae3{l:List StepM}(h:great33B l=false):l.length<=60/\∀x∈l,x.bytes.length<=2000/\x.up.length<=60:=by
 simp only[great33B,Mk,xX,yB,wE,yO,zJ]at h;refine⟨by omega,λx hx=>?_⟩;have:=h.2 x hx;omega
end Go.Sy.Zaa
