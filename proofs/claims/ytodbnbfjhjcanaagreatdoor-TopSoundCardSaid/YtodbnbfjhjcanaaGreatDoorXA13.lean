/- Parts of a proof. -/
import Derived.Test.YtodbnbfjhjcanaaGreatDoorXA12
set_option maxHeartbeats 4000000
set_option linter.all false
namespace Go.Sy.Zaa
open Go.Proofs Go.ChangeShapes Go.WideShapes Go.ChangeAt Go.RowKit
set_option maxRecDepth 100000
section
variable {H:Type} {enc:TypeId×Value->H} {W:World}
theorem Axr{P:Program}{t:TypeId}(ht:P.underlying t=some (.int .u8)):OpN enc P W t Al (λ_=>True) 1:=λn cs y h=>by
 obtain ⟨z,h1,h2,h3,h4⟩:=A1p ht n cs y h;have hz:0<=z/\z<256:=by
  simp only[Lit.wf,zG,zJ]at h1;have a:=h1.1;have b:=h1.2;simp only[IntKind.min,IntKind.max,IntKind.signed,IntKind.bits]at a b;constructor<;>simp at a b<;>omega
 refine⟨UInt8.ofNat z.toNat,q_,h2,h3,?_⟩;have e:Al (UInt8.ofNat z.toNat)=.val (.int .u8 z):=by
  rw[Al,UInt8.toNat_ofNat_of_lt' (by show _<256;omega),yR hz.1]
 rw[e];exact h4
theorem oU:Op1 enc Tryz.prog W 22 (λl:List UInt8=>.sl 1 Al l) (λl=>(∀x∈l,True)/\l.length<=maxLen) :=
 Vi Tryz.underlying22 (by kernel_rfl:Tryz.prog.cellsOf 5=1) y_ (λ_=>rfl) (λ_=>rfl) (Axr Tryz.underlying5)
theorem Axp:Op1 enc Tryz.prog W 62 (λl:List Bool=>.sl 1 Ab l) (λl=>(∀x∈l,True)/\l.length<=maxLen) :=
 Vi Tryz.underlying62 (by kernel_rfl:Tryz.prog.cellsOf 4=1) y_ (λ_=>rfl) (λ_=>rfl) (Axs Tryz.underlying4)
def StepM.In(x:StepM):Prop:=wI .i64 x.kind/\wI .i64 x.port/\wI .i64 x.domain/\wI .i64 x.at_/\((∀y∈x.bytes,True)/\x.bytes.length<=maxLen)/\((∀y∈x.up,True)/\x.up.length<=maxLen)
theorem Atg:OpN enc Tryz.prog W 64 Ca StepM.In 6:=λn cs y h=>by
 obtain ⟨xs,m,_,_,hlen,hx,hg⟩:=DataW.trod_struct Tryz.underlying64 h;have hlen:cs.length=6:=hlen.trans (by kernel_rfl:Tryz.prog.cellsOf 64=6);have hx:xs.length=6:=hx
 match cs,hlen with
 |[c0,c1,c2,c3,c4,c5],_=>
  have g0:DataW.trod enc Tryz.prog W 0 (λ_=>true) true m 3 (([c0,c1,c2,c3,c4,c5].drop 0).take (Tryz.prog.cellsOf 3))=xs[0]?:=hg 0 _ rfl;rw[(by kernel_rfl:Tryz.prog.cellsOf 3=1),zR z_]at g0;obtain ⟨z0,p0,r0,o0⟩:=Yp Tryz.underlying3 _ _ _ g0;have g1:DataW.trod enc Tryz.prog W 0 (λ_=>true) true m 3 (([c0,c1,c2,c3,c4,c5].drop 1).take (Tryz.prog.cellsOf 3))=xs[1]?:=hg 1 _ rfl;rw[(by kernel_rfl:Tryz.prog.cellsOf 3=1),zR z_]at g1;obtain ⟨z1,p1,r1,o1⟩:=Yp Tryz.underlying3 _ _ _ g1;have g2:DataW.trod enc Tryz.prog W 0 (λ_=>true) true m 3 (([c0,c1,c2,c3,c4,c5].drop 2).take (Tryz.prog.cellsOf 3))=xs[2]?:=hg 2 _ rfl;rw[(by kernel_rfl:Tryz.prog.cellsOf 3=1),zR z_]at g2;obtain ⟨z2,p2,r2,o2⟩:=Yp Tryz.underlying3 _ _ _ g2;have g3:DataW.trod enc Tryz.prog W 0 (λ_=>true) true m 3 (([c0,c1,c2,c3,c4,c5].drop 3).take (Tryz.prog.cellsOf 3))=xs[3]?:=hg 3 _ rfl;rw[(by kernel_rfl:Tryz.prog.cellsOf 3=1),zR z_]at g3;obtain ⟨z3,p3,r3,o3⟩:=Yp Tryz.underlying3 _ _ _ g3;have g4:DataW.trod enc Tryz.prog W 0 (λ_=>true) true m 22 (([c0,c1,c2,c3,c4,c5].drop 4).take (Tryz.prog.cellsOf 22))=xs[4]?:=hg 4 _ rfl;rw[(by kernel_rfl:Tryz.prog.cellsOf 22=1),zR z_]at g4;obtain ⟨z4,p4,r4,o4⟩:=oU _ _ _ g4;have g5:DataW.trod enc Tryz.prog W 0 (λ_=>true) true m 62 (([c0,c1,c2,c3,c4,c5].drop 5).take (Tryz.prog.cellsOf 62))=xs[5]?:=hg 5 _ rfl;rw[(by kernel_rfl:Tryz.prog.cellsOf 62=1),zR z_]at g5;obtain ⟨z5,p5,r5,o5⟩:=Axp _ _ _ g5;refine⟨⟨z0,z1,z2,z3,z4,z5⟩,⟨p0,p1,p2,p3,p4,p5⟩,E,λc hc=>?_,?_⟩
  .simp only[yH,xP,vQ]at hc;rcases hc with rfl|rfl|rfl|rfl|rfl|rfl<;>assumption
  .simp only[Ca,cellsOf,RdL];exact⟨_,_,E,r0,_,_,E,r1,_,_,E,r2,_,_,E,r3,_,_,E,r4,_,_,E,r5,E⟩
theorem Axo:Op1 enc Tryz.prog W 24 (λl:List StepM=>.sl 6 Ca l) (λl=>(∀x∈l,StepM.In x)/\l.length<=maxLen) :=
 Vi Tryz.underlying24 (by kernel_rfl:Tryz.prog.cellsOf 64=6) y_ (λ_=>rfl) (λ_=>rfl) Atg
def SeenM.In(x:SeenM):Prop:=wI .i64 x.port/\wI .i64 x.origin/\((∀y∈x.bytes,True)/\x.bytes.length<=maxLen)
theorem op_mac:Op1 enc Tryz.prog W 68 (λm:Nat=>Bi m) (λm=>m<18446744073709551616):=λn c y h=>by
 obtain ⟨z,h1,h2,h3⟩:=Yp (k:=.u64) Tryz.underlying68 n c y h;have hz:0<=z/\z<18446744073709551616:=by
  simp only[Lit.wf,zG,zJ]at h1;have a:=h1.1;have b:=h1.2;simp only[IntKind.min,IntKind.max,IntKind.signed,IntKind.bits]at a b;constructor<;>simp at a b<;>omega
 refine⟨z.toNat,by omega,?_,h3⟩;show Rd k0 W (.val (.int .u64 ((z.toNat:Nat):Int))) c;rw[show ((z.toNat:Nat):Int)=z by omega];exact h2
theorem An8{t et:TypeId}{k:Type}{e:k->SV}{p:k->Prop}{sz:Nat}(ht:Tryz.prog.underlying t=some (.slice et))(hO:Op1 enc Tryz.prog W t (λl:List k=>.sl sz e l) (λl=>(∀x∈l,p x)/\l.length<=maxLen)):OpN enc Tryz.prog W t (λl:List k=>.sl sz e l) (λl=>(∀x∈l,p x)/\l.length<=maxLen) 1:=λn cs y h=>by
 have h1:∃c,cs=[c]:=by
  rcases DataW.trod_slice ht h with ⟨kc,_⟩|⟨a,len,cap,elems,rest,m,_,kc,_⟩
  .exact⟨_,kc⟩
  .exact⟨_,kc⟩
 obtain ⟨c,rfl⟩:=h1;obtain ⟨x,h2,h3,h4⟩:=hO n c y h;refine⟨x,h2,E,λc' hc=>by simp only[zZ]at hc;subst hc;exact h4,?_⟩;simp only[cellsOf,RdL];exact⟨_,_,E,h3,E⟩
def EntryM.In(x:EntryM):Prop:=x.mac<18446744073709551616/\wI .i64 x.where_/\wI .i64 x.seen
theorem An9:OpN enc Tryz.prog W 230 A5 EntryM.In 3:=λn cs y h=>by
 obtain ⟨xs,m,_,_,hlen,hx,hg⟩:=DataW.trod_struct Tryz.underlying230 h;have hlen:cs.length=3:=hlen.trans (by kernel_rfl:Tryz.prog.cellsOf 230=3);have hx:xs.length=3:=hx
 match cs,hlen with
 |[c0,c1,c2],_=>
  have g0:DataW.trod enc Tryz.prog W 0 (λ_=>true) true m 68 (([c0,c1,c2].drop 0).take (Tryz.prog.cellsOf 68))=xs[0]?:=hg 0 _ rfl;rw[(by kernel_rfl:Tryz.prog.cellsOf 68=1),zR z_]at g0;obtain ⟨z0,p0,r0,o0⟩:=op_mac _ _ _ g0;have g1:DataW.trod enc Tryz.prog W 0 (λ_=>true) true m 3 (([c0,c1,c2].drop 1).take (Tryz.prog.cellsOf 3))=xs[1]?:=hg 1 _ rfl;rw[(by kernel_rfl:Tryz.prog.cellsOf 3=1),zR z_]at g1;obtain ⟨z1,p1,r1,o1⟩:=Yp Tryz.underlying3 _ _ _ g1;have g2:DataW.trod enc Tryz.prog W 0 (λ_=>true) true m 3 (([c0,c1,c2].drop 2).take (Tryz.prog.cellsOf 3))=xs[2]?:=hg 2 _ rfl;rw[(by kernel_rfl:Tryz.prog.cellsOf 3=1),zR z_]at g2;obtain ⟨z2,p2,r2,o2⟩:=Yp Tryz.underlying3 _ _ _ g2;refine⟨⟨z0,z1,z2⟩,⟨p0,p1,p2⟩,E,λc hc=>?_,?_⟩
  .simp only[yH,xP,vQ]at hc;rcases hc with rfl|rfl|rfl<;>assumption
  .simp only[A5,cellsOf,RdL];exact⟨_,_,E,r0,_,_,E,r1,_,_,E,r2,E⟩
theorem Atf:Op1 enc Tryz.prog W 23 (λl:List (List EntryM)=>.sl 1 (λt=>.sl 3 A5 t) l) (λl=>(∀x∈l,(∀e∈x,EntryM.In e)/\x.length<=maxLen)/\l.length<=maxLen) :=
 Vi Tryz.underlying23 (by kernel_rfl:Tryz.prog.cellsOf 76=1) y_ (λ_=>rfl) (λ_=>rfl) (An8 Tryz.underlying76 (Vi Tryz.underlying76 (by kernel_rfl:Tryz.prog.cellsOf 230=3) y_ (λ_=>rfl) (λ_=>rfl) An9))
end
open Go.Proofs Go.Proofs.Tryz
attribute [local irreducible]G DR
def Wo{a:Ka}{w:World}{k sz:Nat}{r:Type}{e:r->SV}{l:List r}(ag:l≠[])(h:ObOK a w k (.row sz e l)):∃b n c,a k=.row b n c:=by
 rcases h with ⟨_,h⟩|⟨b,cap,_,_,_,h,_⟩
 .exact zX h ag
 .exact⟨b,_,cap,h⟩
theorem iJ{A0:Type}(v0:A0->SV)(z0:Nat){f0 m0:Nat}{g0:Func}(F0:fT f0 g0)(n0:g0.ntmps=m0)(h:let A0:Type:=A0;let v0:A0->SV:=v0;let z0:=z0;fT f0 g0->g0.ntmps=m0->∀ (l:List A0) (hl:l.length<2147483648),Sp f0 [.sl z0 v0 l] (.sl z0 v0 l):=by
 intro A0 v0 z0 F0 n0 l hl
 refine cT F0 n0 λF hF=>?_
 conv=>whnf
 refine E7 E (.inl E) E E E .sl E E ?_;intro b hb;cases b
 .refine oF ?_;exact Ai (Ah Γ.toTy 7 E E E E E (.lit (e:=v0) (l:=[]) E E) .sl qq kO kO) E E (Aj 7 E gJ)
 .have h0:l=[]:=yB (hb rfl);subst h0;refine oT ?_;exact Ao 2 z0 v0 E dN):∀ (l:List A0) (hl:l.length<2147483648),Sp f0 [.sl z0 v0 l] (.sl z0 v0 l):=h F0 n0
def Kk:=iJ Aa 1 F170 ntmps170
def Ae7:=iJ A9 1 F171 ntmps171
def Abj:=iJ Ab 1 F46 ntmps46
theorem iE{A0:Type}(v0:A0->SV)(z0:Nat){f0 m0:Nat}{g0:Func}(F0:fT f0 g0)(n0:g0.ntmps=m0)(h:let A0:Type:=A0;let v0:A0->SV:=v0;let z0:=z0;fT f0 g0->g0.ntmps=m0->∀ (l:List A0) (hl:l.length<2147483648),Sq f0 [.sl z0 v0 l] [] (.osl 0) [(0,.row z0 v0 l)]:=by
 intro A0 v0 z0 F0 n0 l hl
 refine cT F0 n0 λF hF=>?_
 conv=>whnf
 refine E7 E (.inl E) E E E .sl E E ?_;intro b hb;cases b
 .refine oF ?_;refine Ai (Ah Γ.toTy 7 E E E E E (.lit (e:=v0) (l:=[]) E E) .sl qq kO kO) E E (oO ?_);exact done E Ap [(0,7)] [(0,.row z0 v0 l)] (λ_ h=>h) E E kU
 .have h0:l=[]:=yB (hb rfl);subst h0;refine oT ?_;refine B6 2 1000 z0 v0 E E ?_;exact done E Ap [(0,1000)] [(0,.row z0 v0 [])] (λ _ h=>h) E E kU):∀ (l:List A0) (hl:l.length<2147483648),Sq f0 [.sl z0 v0 l] [] (.osl 0) [(0,.row z0 v0 l)]:=h F0 n0
def Apw:=iE Bd 7 F163 ntmps163
def Ahi:=iE At 6 F165 ntmps165
def Ali:=iE Bm 4 F167 ntmps167
def Au2:=iE Cu 5 F168 ntmps168
structure Bx(Q:Prop):Prop where out:Q
def sE{k:Sort _}{a b:k}{K:Prop}(e:a=b)(h:K):a=b/\K:=⟨e,h⟩
def xE{k:Sort _}{a b:k}{K:a=b->Prop}(e:a=b)(h:K e):∃e:a=b,K e:=⟨e,h⟩
def sL{a b:Int}{K:Prop}(e:a<=b)(h:K):a<=b/\K:=⟨e,h⟩
def xL{a b:Int}{K:a<=b->Prop}(e:a<=b)(h:K e):∃e:a<=b,K e:=⟨e,h⟩
def sM{a b:Nat}{K:Prop}(e:a<=b)(h:K):a<=b/\K:=⟨e,h⟩
def sT{a b:Nat}{K:Prop}(e:a<b)(h:K):a<b/\K:=⟨e,h⟩
def xT{a b:Nat}{K:a<b->Prop}(e:a<b)(h:K e):∃e:a<b,K e:=⟨e,h⟩
def sN{a b:Int}{K:Prop}(e:a≠b)(h:K):a≠b/\K:=⟨e,h⟩
def sI{a:Int}{K:Prop}(e:I64 a)(h:K):I64 a/\K:=⟨e,h⟩
def ct{p q:Prop}{b:Bool}(h:q)(e:b=true->False:=by
 intro _h
 first | exact zX _h y_ | exact tJ (Eq.trans (Eq.symm (by with_reducible assumption)) _h) | (simp at _h;done) | (simp at _h;omega)):(b=true->p)/\(b=false->q):=⟨λ x=>(e x).elim,λ _=>h⟩
def cf{p q:Prop}{b:Bool}(h:p)(e:b=false->False:=by
 intro _h
 first | exact zX _h y_ | exact tJ (Eq.trans (Eq.symm _h) (by with_reducible assumption)) | (simp at _h;done) | (simp at _h;omega)):(b=true->p)/\(b=false->q):=⟨λ _=>h,λ x=>(e x).elim⟩
def S{P Q:Prop}(h:Q)(e:Bx Q->P:=by
 intro hb
 first|refine rg ?_|refine rd j_ ?_|skip
 conv=>whnf
 repeat (first
  |((first|refine aF ?_|refine aT ?_|refine ct ?_|refine cf ?_);(first|refine rg ?_|refine rd j_ ?_);(conv=>whnf))
  | ((first | refine⟨(by kernel_rfl:Ag6 _ _=true),?_⟩ | refine sI (by unfold I64;omega) ?_);(conv=>whnf)))
 exact hb.out):P:=e ⟨h⟩
def T{P Q:Prop}(h:Q)(e:Bx Q->P:=by
 intro hb;refine S ?_
 repeat ((first|refine sE (by exact rfl) ?_|refine sL (by first|omega|decide) ?_|refine xL (by first|omega|decide) ?_|refine sT (by first|omega|decide) ?_|refine xT (by first|omega|decide) ?_|refine sM (by first|omega|decide) ?_|refine sN (by first|omega|decide) ?_|refine xE (by exact rfl) ?_);refine S ?_)
 exact hb.out):P:=e ⟨h⟩
def D{P:Prop}(h:P:=by
 apply Aq
 .exact E
 ·(repeat (first|exact ResVs.nil|(apply ResVs.cons;(first|exact .tmp|exact .cell rfl rfl rfl rfl))))
 .exact E
 .exact E):P:=h
def U{P:Prop}(h:P:=by
 refine⟨?_,?_,E,E⟩
 .repeat (first|exact trivial|exact rfl|refine⟨rfl,rfl,?_⟩)
 .repeat (first | exact trivial | refine⟨.inl rfl,rfl,?_⟩ | refine⟨.inr rfl,rfl,?_⟩)):P:=h
def Uo{P:Prop}(h:P:=by
 repeat (first | exact trivial | refine⟨.inl rfl,rfl,?_⟩ | refine⟨.inr rfl,rfl,?_⟩)):P:=h
def doneE{P:Program}{fn:Func}{F:Fr}{R:SV}{H':Obs}{Γ:Go.Sy.Ty P}{n:Nat}{bn:List Nat}{hbn:∀k,F.k0 k≠.new->k∈bn}{k:List KI}{s:SS}{rs:List ResultVar}(hf:fn.results=rs.toArray){xs:List SV}(hx:ResVs Γ.get s rs xs)(hR:R.ren (Bf [])=Ac6 xs)(nj:R.inn (Obs.keys H')=true)(a6:Sub ⟨P,Γ,F,n,Xl P fn F R H',bn,hbn⟩ s [] [] H'):G ⟨P,Γ,F,n,Xl P fn F R H',bn,hbn⟩ (.code .ret::k) s:=done hf hx [] H' (λ_ h=>h) hR nj a6
def doneF{P:Program}{fn:Func}{F:Fr}{R:SV}{H':Obs}{Γ:Go.Sy.Ty P}{n:Nat}{bn:List Nat}{hbn:∀k,F.k0 k≠.new->k∈bn}{s:SS}{rs:List ResultVar}(hf:fn.results=rs.toArray){xs:List SV}(hx:ResVs Γ.get s rs xs)(hR:R.ren (Bf [])=Ac6 xs)(nj:R.inn (Obs.keys H')=true)(a6:Sub ⟨P,Γ,F,n,Xl P fn F R H',bn,hbn⟩ s [] [] H'):G ⟨P,Γ,F,n,Xl P fn F R H',bn,hbn⟩ [] s:=A2 hf hx [] H' (λ_ h=>h) hR nj a6
def E0{P:Prop}(h:P:=by
 first|apply doneE|apply doneF
 .exact E
 ·(repeat (first|exact ResVs.nil|(apply ResVs.cons;(first|exact .tmp|exact .cell rfl rfl rfl rfl))))
 .exact E
 .exact E
 .exact U):P:=h
def W{P:Prop}(h:P:=by
 repeat (first | exact trivial | exact rfl | refine⟨rfl,?_⟩)):P:=h
def V{P:Prop}(h:P:=by
 repeat (first | exact trivial | refine⟨.inl rfl,?_⟩ | refine⟨.inr rfl,?_⟩)):P:=h
def C{P:Program}{f:FuncId}{fn:Func}{c:Code}{A:List SV}{R:SV}{Z Q:Prop}(hs:Sy.Spec P f A [] R [])(hf:Fun P f fn c)(h:Q)(e:Sy.Spec P f A [] R []->Fun P f fn c->Bx Q->Z:=by
 intro hs hf hb
 first|refine Mh hs hf rfl rfl rfl rfl rfl ?_|refine Az4 hs hf rfl rfl rfl j_ rfl ?_
 refine T ?_;exact hb.out):Z:=e hs hf ⟨h⟩
def X{C:Cx}{k:List KI}{s:SS}{all:Array Oper}{o:Oper}{rest:List Oper}{V:Up}{Q:Prop}(hg:Good C.P o s V)(h:Q)(hd:V6 C.n o=true:=by exact rfl)(hw:En C.n all o s=some true:=by exact rfl)(e:Bx Q->G C (.ops all rest::k) (s.upd o.dst V):=by
 intro hb;refine T ?_;exact hb.out):G C (.ops all (o::rest)::k) s:=Ai hg hd hw (e ⟨h⟩)
def Xd{C:Cx}{k:List KI}{s:SS}{all:Array Oper}{done:List Stp}{o:Oper}{rest:List Oper}{V:Up}{Q:Prop}(hg:Good C.P o s V)(h:Q)(hi:all[done.length]? = some o:=by kernel_rfl)(hw:En C.n all o s=some true:=by exact rfl)(hn:(Kc o || Qw o)=false:=by exact rfl)(e:Bx Q->DR C k all (done++[⟨done.length,o,V,true⟩]) rest (s.upd o.dst V):=by
 intro hb;refine T ?_;exact hb.out):DR C k all done (o::rest) s:=Cc hg hi hw (e ⟨h⟩) hn
def Xe{C:Cx}{k:List KI}{s:SS}{all:Array Oper}{done:List Stp}{o:Oper}{rest:List Oper}{V:Up}{Q:Prop}(hg:Good C.P o s V)(h:Q)(hk:KeepL s V.objs:=by exact W)(hi:all[done.length]? = some o:=by kernel_rfl)(hw:En C.n all o s=some true:=by exact rfl)(hn:(Kc o || Qw o)=false:=by exact rfl)(e:Bx Q->DR C k all (done++[⟨done.length,o,⟨V.v,V.rd++V.ws,[]⟩,true⟩]) rest (s.upd o.dst ⟨V.v,V.rd++V.ws,[]⟩):=by
 intro hb;refine T ?_;exact hb.out):DR C k all done (o::rest) s:=stepD2 hg hk hi hw (e ⟨h⟩) hn
def gA{P:Prop}(e:P:=by refine T ?_;exact D):P:=e
def gB{S0 F0 S1 F1 P Q:Prop}(s0:S0)(t0:F0)(s1:S1)(t1:F1)(h:Q)(e:S0->F0->S1->F1->Bx Q->P:=by intro s0 t0 s1 t1 b;refine T ?_;refine C s0 t0 ?_;refine C s1 t1 ?_;exact b.out):P:=e s0 t0 s1 t1 ⟨h⟩
def gC{S0 F0 P Q:Prop}(s0:S0)(t0:F0)(h:Q)(e:S0->F0->Bx Q->P:=by intro s0 t0 b;refine T ?_;refine C s0 t0 ?_;exact b.out):P:=e s0 t0 ⟨h⟩
def gI{S0 F0 S1 F1 P Q:Prop}(s0:S0)(t0:F0)(s1:S1)(t1:F1)(h:Q)(e:S0->F0->S1->F1->Bx Q->P:=by intro s0 t0 s1 t1 b;refine C s0 t0 ?_;refine C s1 t1 ?_;exact b.out):P:=e s0 t0 s1 t1 ⟨h⟩
def gL{P Q R:Prop}(h:Q)(k:R)(e:Bx (Q/\R)->P:=by intro b;refine T ?_;exact b.out):P:=e ⟨⟨h,k⟩⟩
end Go.Sy.Zaa
namespace Go.Sy
def Ul{P:Program}(Γ:Ty P){o:Oper}{s:SS}{t:TypeId}{ti:TI}{et:TypeId}{len esz sz g:Nat}{y:Operand}{ik:IntKind}{n:Int}{z:SV}(k:Nat)(h:o.op=.indexAddr t (.global g) y)(ht:Γ.get t=some ti)(hk:ti.k=.array et len esz)(hb:s.h k=.glob sz z g)(hy:ev s y=.val (.int ik n))(h0:0<=n)(hn:n.toNat<len):Good P o s ⟨.ref sz z (n.toNat*esz),[k],[]⟩ :=
 Good.pure λr a w _ hr ho=>by
  have h1:=ho k qq;have h2:=hr y (by simp[h,Op.operands]);rw[hb]at h1;rw[hy]at h2;simp only[ObOK,Rd,RdD]at h1;obtain ⟨b,oo,u,e1,e2,e3,e4,e5⟩:=h1;obtain ⟨hu,i,q1,q2⟩:=Wf Γ ht hk;simp only[Nat.add_zero,Value.pointer.injEq,Option.some.injEq,Addr.mk.injEq,and_true]at e1;obtain ⟨rfl,rfl⟩:=e1;refine⟨.pointer (some ⟨g,0+n.toNat*esz,none⟩),?_,?_⟩
  .have hg:a.eval (.global g)=.pointer (some ⟨g,0,none⟩):=rfl;simp only[execOp,h,hg,h2.val];simp[Td w hu q1 q2 h0 hn]
  .simp only[Rd,RdD];exact⟨g,0,u,E,e2,e3,e4,e5⟩
theorem Ob.shp_glob{x:Ob}{sz g:Nat}{z:SV}(h:x.shp=(Ob.glob sz z g).shp):x=.glob sz z g:=by
 cases x<;>simp_all[Ob.shp]
theorem GoodX.glob{P:Program}(Γ:Ty P){o:Oper}{s:SS}{t:TypeId}{ti:TI}{et:TypeId}{len esz sz g:Nat}{y:Operand}{ik:IntKind}{n:Int}{z:SV}(k:Nat)(h:o.op=.indexAddr t (.global g) y)(ht:Γ.get t=some ti)(hk:ti.k=.array et len esz)(hb:s.h k=.glob sz z g)(hy:ev s y=.val (.int ik n))(h0:0<=n)(hn:n.toNat<len):GoodX P o s ⟨.ref sz z (n.toNat*esz),[k],[]⟩ where
 good:=(Ul Γ k h ht hk hb hy h0 hn).two
 idx _:=⟨rfl,λs' h1 h2=>Ul Γ k h ht hk (Ob.shp_glob ((h2 k qq).trans (zH Ob.shp hb))) ((h1 y (by simp[h,Op.operands])).trans hy) h0 hn⟩
 st hs:=by simp[Qw,h]at hs
section
open Go.ChangeShapes Go.WideShapes Go.ChangeAt Go.RowKit
variable {H:Type} {enc:TypeId×Value->H} {P:Program}
end
def Cg{P:Program}(Γ:Ty P){o:Oper}{s:SS}{t:TypeId}{ti:TI}{et:TypeId}{len:Nat}{x y:Operand}{ik:IntKind}{n:Int}{l:List SV}{z:SV}{k:EK}(h:o.op=.index t x y)(ht:Γ.get t=some ti)(hk:ti.k=.array et len 1)(he:P.underlying et=some (EK.desc k))(hx:ev s x=.agg l)(hy:ev s y=.val (.int ik n))(h0:0<=n)(hn:n.toNat<len)(hz:H6 l n.toNat=some z):Good P o s ⟨z,[],[]⟩ :=
 Good.pure λb a w _ hr _=>by
  have h1:=hr x (by simp[h,Op.operands]);have h2:=hr y (by simp[h,Op.operands]);rw[hx]at h1;rw[hy]at h2;simp only[Rd]at h1;obtain ⟨cs,e1,_,e2⟩:=h1;obtain ⟨v,e3,e4⟩:=e2.getT hz;obtain ⟨hu,i,q1,q2⟩:=Wf Γ ht hk;have hp:=Zt (P:=P) w he cs.toArray e3;have ab:n<len:=by omega
  refine⟨v,?_,e4⟩;simp[execOp,h,e1,h2.val,Instr.index,run_underlying hu,asIntOf,h0,ab,sizeOf,typeInfo,q1,q2,hp]
def Ak{C:Cx}{k:List KI}{s:SS}(d:Nat)(l':List SV){l:List SV}(h:s.h d=.box l)(hv:VwL s [] l l')(hg:G C k ⟨s.σ,upd s.h d (.box l')⟩):G C k s:=λr a w hs=>
 hg r a w ⟨hs.defers,hs.size,hs.inv,hs.ctx,hs.slot,λ i=>by
  show ObOK r w i (upd s.h d (.box l') i);by_cases hi:i=d
  .subst hi;rw[B1];have:=hs.obj i;rw[h]at this;obtain ⟨b,cs,T,fr,e1,e2,e3,e4,e5⟩:=this;exact⟨b,cs,T,fr,e1,e2,e3,e4,VwL.rd hs.inv (λ_ hn=>by cases hn) hv e5⟩
  .rw[Cv _ _ hi];exact hs.obj i⟩
def Al3{C:Cx}{kk:List KI}{s:SS}(q:Nat)(r:List Nat){sz:Nat}{m:Type}{e:m->SV}{l:List m}(h:s.h q=.row sz e l)(hl:l≠[])(hr:∀i∈r,s.σ i=.osl q)(hg:∀b cap,l.length<=cap->G C kk ⟨freezeσ s.σ (.val (.slice (some ⟨b,0,none⟩) l.length cap)) r,upd s.h q (.pin b l.length cap sz e l)⟩):G C kk s:=λk a w hs=>by
 have ck:=hs.obj q;rw[h]at ck;rcases ck with ⟨_,h1⟩|gb
 .exact zX h1 hl
 obtain ⟨b,cap,cs,T,fr,e1,e2,e3,e4,e5,e6⟩:=gb;refine hg b cap e5 k a w ⟨hs.defers,hs.size,hs.inv,hs.ctx,λi=>?_,λj=>?_⟩
 .refine freezeσ_ok r _ i (hs.slot i) (λhi=>?_);have:=hs.slot i;rw[hr i hi]at this;simp only[Rd,e1]at this;simp only[Rd];exact this
 .show ObOK k w j (upd s.h q _ j);by_cases hj:j=q
  .subst hj;rw[B1];exact⟨e1,b,cap,cs,T,fr,e1,e2,e3,e4,e5,e6⟩
  .rw[Cv _ _ hj];exact hs.obj j
def bX{C:Cx}{kk:List KI}{s:SS}(q d:Nat)(r:List Nat)(m:Nat){b n cap sz:Nat}{c:Type}{e:c->SV}{l:List c}(h:s.h q=.pin b n cap sz e l)(hd:s.h d=.fresh)(hm:m<=l.length)(hr:∀i∈r,s.σ i=.val (.slice (some ⟨b,0,none⟩) m cap))(hg:G C kk ⟨freezeσ s.σ (.osl d) r,upd (upd s.h q .non) d (.row sz e (l.take m))⟩):G C kk s:=λk a w hs=>by
 have ck:=hs.obj q;rw[h]at ck;have ay:k d=.new:=by have:=hs.obj d;rwa [hd]at this
 obtain ⟨e0,b',d5,cs,T,fr,e1,e2,e3,e4,e5,e6⟩:=ck;rw[e0]at e1;cases e1;have tp:l.length<=n:=by
  by_cases h0:l.length=0
  .omega
  .have:=(e6 (l.length-1) _ ⟨by omega,rfl⟩).1;omega
 obtain ⟨st,inv⟩:=Q4 (n':=m) (w':=w) hs.inv e0 ay rfl rfl rfl rfl (λ_ _=>rfl);have ab:(l.take m).length=m:=by rw[zW];omega
 refine hg _ a w ⟨hs.defers,hs.size,inv,hs.ctx.step inv st,λj=>?_,λj=>?_⟩
 .refine freezeσ_ok r _ j (Rd.step st _ _ (hs.slot j)) (λhj=>?_);have:=hs.slot j;rw[hr j hj]at this;simp only[Rd]at this;simp[Rd,Az,this]
 .show ObOK _ w j (upd (upd s.h q .non) d _ j);by_cases hj:j=d
  .subst hj;rw[B1];refine .inr ⟨b,cap,cs,T,fr,by rw[Az,ab],e2,e3,e4,by omega,λi x hx=>?_⟩;obtain ⟨hi,rfl⟩:=hx;obtain ⟨_,u,q2,q3⟩:=e6 i (e l[i]) ⟨by omega,rfl⟩;refine⟨hi,u,?_,q3⟩;rw[wH];exact RdD.keep st.keeps _ _ q2
  .rw[Cv _ _ hj];by_cases cn:j=q
   .subst cn;rw[B1];trivial
   .rw[Cv _ _ cn];exact ObOK.step st (λe=>e.elim cn hj) _ (hs.obj j)
def Dm{P:Program}(Γ:Ty P){o:Oper}{s:SS}{t:TypeId}{ti:TI}{et:TypeId}{sz eb b n cap lo hi:Nat}{ez:List Value}{x:Operand}{lx hx:Option Operand}(h:o.op=.slice t x lx hx none)(ht:Γ.get t=some ti)(hk:ti.k=.slice et sz eb ez)(lr:ev s x=.val (.slice (some ⟨b,0,none⟩) n cap))(kh:BoundIs s lx 0 lo)(ls:BoundIs s hx n hi)(h1:lo<=hi)(h2:hi<=cap):Good P o s ⟨.val (.slice (some (if cap=lo then ⟨b,0,none⟩ else ⟨b,lo*sz,none⟩)) (hi-lo) (cap-lo)),[],[]⟩ :=
 Good.pure λr a w _ hr _=>by
  have r1:=hr x (by simp[h,Op.operands]);rw[lr]at r1;obtain ⟨hu,i,zv,q1,q2,q3,q4,q5⟩:=Cs Γ ht hk;have b1:=kh.val (a:=a) (λy hy=>hr y (by simp[h,Op.operands,hy]));have b2:=ls.val (a:=a) (λy hy=>hr y (by simp[h,Op.operands,hy]));have hb:=Ju (P:=P) w (len:=n) (cap:=cap) b1 b2 h1 h2;refine⟨.slice (some (if cap=lo then ⟨b,0,none⟩ else ⟨b,lo*sz,none⟩)) (hi-lo) (cap-lo),?_,by simp only[Rd]⟩;by_cases hc:cap=lo
  .subst hc;simp[execOp,h,r1.val,Instr.sliceAt,Instr.slice,run_underlying hu,hb,sizeOf,typeInfo,q1]
  .simp[execOp,h,r1.val,Instr.sliceAt,Instr.slice,run_underlying hu,hb,sizeOf,typeInfo,q1,q2,hc,Addr.add_lit]
def Acx{P:Program}(Γ:Ty P){o:Oper}{s:SS}{t:TypeId}{ti:TI}{et:TypeId}{sz eb b n cap lo hi mm:Nat}{ez:List Value}{x:Operand}{lx hx mx:Operand}{k1 k2 k3:IntKind}(h:o.op=.slice t x (some lx) (some hx) (some mx))(ht:Γ.get t=some ti)(hk:ti.k=.slice et sz eb ez)(lr:ev s x=.val (.slice (some ⟨b,0,none⟩) n cap))(kh:ev s lx=.val (.int k1 lo))(ls:ev s hx=.val (.int k2 hi))(wz:ev s mx=.val (.int k3 mm))(h1:lo<=hi)(h2:hi<=mm)(h3:mm<=cap):Good P o s ⟨.top,[],[]⟩ :=
 Good.pure λr a w _ hr _=>by
  have r1:=hr x (by simp[h,Op.operands]);have r2:=hr lx (by simp[h,Op.operands]);have r3:=hr hx (by simp[h,Op.operands]);have r4:=hr mx (by simp[h,Op.operands]);rw[lr]at r1;rw[kh]at r2;rw[ls]at r3;rw[wz]at r4;obtain ⟨hu,i,zv,q1,q2,q3,q4,q5⟩:=Cs Γ ht hk;have hb:(Instr.sliceBounds true n cap (some (a.eval lx)) (some (a.eval hx)) (some (a.eval mx))).run P w=.ok (lo,hi,mm) w:=by
   rw[r2.val,r3.val,r4.val];simp[Instr.sliceBounds,Instr.sliceBound,asIntOf,h1,h2,h3]
  refine⟨.slice (some (if mm=lo then ⟨b,0,none⟩ else ⟨b,lo*sz,none⟩)) (hi-lo) (mm-lo),?_,by simp only[Rd]⟩;by_cases hc:mm=lo
  .subst hc;simp[execOp,h,r1.val,Instr.sliceAt,Instr.slice,run_underlying hu,hb,sizeOf,typeInfo,q1]
  .simp[execOp,h,r1.val,Instr.sliceAt,Instr.slice,run_underlying hu,hb,sizeOf,typeInfo,q1,q2,hc,Addr.add_lit]
def Uy{a:Ka}{w w':World}{k b n cap:Nat}(hi:Inv a w)(hk:a k=.row b n cap)(qz:w'.os=w.os)(ht:w'.tape=w.tape)(ho:w'.output=w.output)(hs:w'.heap.size=w.heap.size)(hb:∀i,i≠b->w'.heap[i]? = w.heap[i]?):Step (λj=>j=k) a w a w'/\Inv a w':=by
 have jw:(a k).block? = some b:=by rw[hk];rfl
 refine⟨⟨by omega,qz,ht,ho,E,λ c hm=>hb c (λ e=>hi.apart k b jw (e ▸ hm)),λ c _ hn=>hb c (λ e=>hn (.inl ⟨k,e ▸ jw⟩)),λ j c hj hjc=>hb c (λ e=>hj ?_),λ _ _=>rfl,λ _ _=>.inr (.inl E),λ _ h=>.inl h⟩,
  ⟨hi.inj,λ j c h=>by rw[hs];exact hi.bnd j c h,hi.apart,λ c h=>by rw[hs];exact hi.mbnd c h⟩⟩
 subst e;exact hi.inj j k _ hjc jw
def Aio{cs:List Value}{sz n:Nat}(h:∀i,i<n->∃u:Value,u.cells.size=sz/\Ones u.cells.toList/\∀j,j<sz->cs[i*sz+j]? = u.cells[j]?){p:Nat}(hp:p<n*sz){v:Value}(hv:cs[p]? = some v):v.oneCell'=true:=by
 have h0:0<sz:=by
  rcases uH sz with rfl|h
  .simp at hp
  .exact h
 obtain ⟨u,h1,h2,h3⟩:=h (p/sz) (Nat.div_lt_of_lt_mul (by rw[vE];exact hp));have h4:=h3 (p%sz) (tU _ h0);rw[vE,uD,hv]at h4;obtain ⟨hl,he⟩:=wV.1 h4.symm;refine h2 v ?_;rw[<-he];exact Array.getElem_mem_toList hl
def lF{P:Program}(Γ:Ty P){o:Oper}{s:SS}(q:Nat){t:TypeId}{ti:TI}{et:TypeId}{sz eb b n cap i j:Nat}{ez:List Value}{x y:Operand}{m:Type}{e:m->SV}{l:List m}{B:Option Addr}{c:Nat}(h:o.op=.call ⟨.builtin .append,#[x,y],#[t,t]⟩)(ht:Γ.get t=some ti)(hk:ti.k=.slice et sz eb ez)(hx:ev s x=.val (.slice (some ⟨b,0,none⟩) i cap))(hy:ev s y=.val (.slice B (n-j) c))(hB:B=some (if cap=j then ⟨b,0,none⟩ else ⟨b,j*sz,none⟩))(ck:s.h q=.pin b n cap sz e l)(hl:l.length=n)(cy:i<=j)(hj:j<=n):Good P o s ⟨.val (.slice (some ⟨b,0,none⟩) (i+(n-j)) cap),[],[(q,.pin b n cap sz e (l.take i++l.drop j))]⟩:=by
 intro r a w hinv hr ho N Q hN;have r1:=hr x (by simp[h,Op.operands,Call.operands]);have r2:=hr y (by simp[h,Op.operands,Call.operands]);rw[hx]at r1;rw[hy]at r2;subst hB;have hq:=ho q (.inr (by simp[Up.ws]));rw[ck]at hq;obtain ⟨e0,b',d5,cs,T,fr,e1,e2,e3,e4,e5,e6⟩:=hq;rw[e0]at e1;cases e1;obtain ⟨hu,ii,zv,q1,q2,q3,q4,q5⟩:=Cs Γ ht hk;have dp:∀i,i<n->∃u:Value,u.cells.size=sz/\Ones u.cells.toList/\∀j,j<sz->cs[i*sz+j]? = u.cells[j]?:=λi hi=>by
  obtain ⟨_,u,_,u2⟩:=e6 i (e l[i]) ⟨by omega,rfl⟩;exact⟨u,u2⟩
 obtain ⟨news,er⟩:∃news,news=(cs.drop (j*sz)).take ((n-j)*sz):=⟨_,rfl⟩
 have hmul:(n-j)*sz+j*sz=n*sz:=by rw[<-xI];congr 1;omega
 have oh:n*sz<=cap*sz:=yX sz e5;have hijs:i*sz<=j*sz:=yX sz cy;have ln:news.length=(n-j)*sz:=by rw[er,zW,yP];omega
 have a8:∀p,p<(n-j)*sz->news[p]? = cs[j*sz+p]?:=λp hp=>by
  rw[er,vT,zE hp,List.getElem?_drop]
 have ki:Ones news:=λv hv=>by
  obtain ⟨p,hp,he⟩:=wU hv;have h1:news[p]? = some v:=by rw[zR hp,he]
  rw[ln]at hp;rw[a8 p hp]at h1;exact Aio dp z_ h1
 obtain ⟨w',f1,f2,f3,f4,f5,f6,f7⟩:=Dl P b (i*sz) T fr news 0 cs w e2 e3 z_ ki;obtain ⟨st,inv⟩:=Uy hinv e0 f3 f4 f5 f6 f7;have bz:i+(n-j)<=cap:=by omega
 have ft:∀p v,cs[p]? = some v->w.cell? ⟨b,p,none⟩=some v:=λp v hp=>by
  simp[World.cell?,e2,hp]
 have hc:(Builtin.firstCells sz (n-j) (.slice (some (if cap=j then ⟨b,0,none⟩ else ⟨b,j*sz,none⟩)) (n-j) c)).run P w=.ok news.toArray w:=by
  by_cases lu:cap=j
  .have h0:n-j=0:=by omega
   rw[zE lu,h0];have h1:news=[]:=by rw[h0]at ln;simpa using ln
   rw[h1];exact run_firstCells_some (P:=P) w sz 0 ⟨b,0,none⟩ 0 c [] qq (λj v hj=>by simp at hj)
  .rw[zD lu];refine run_firstCells_some (P:=P) w sz (n-j) ⟨b,j*sz,none⟩ (n-j) c news ln (λp v hp=>?_);rw[Addr.add_lit];have ab:p<(n-j)*sz:=by
    rw[<-ln];exact(List.getElem?_eq_some_iff.1 hp).1
   rw[a8 p ab]at hp;exact ft _ _ hp
 have au:(execOp a.eval o).run P w=.ok (.value (.slice (some ⟨b,0,none⟩) (i+(n-j)) cap)) w':=by
  simp[execOp,h,resolve,invoke,builtin,Builtin.append_,r1.val,r2.val,run_underlying hu,sizeOf,typeInfo,q1,q2,Builtin.lenOf,bz,hc,Addr.add_lit,f1]
 simp only[Oper.wp,au,Oper.upon];refine hN _ r w' (st.weaken (λk hk=>by subst hk;simp[Up.ws])) inv (by simp only[Rd]) (λp hp=>?_);simp only[zZ]at hp;subst hp;refine⟨e0,b,cap,_,T,fr,e0,f2,by rw[Cj];exact e3,by rw[Cj];exact e4,e5,?_⟩;rintro k z ⟨bh,rfl⟩;have bj:=My cs news (i*sz+0);have hlen:(l.take i++l.drop j).length=i+(n-j):=by rw[zU,zW,yP];omega
 rw[hlen]at bh;by_cases rl:k<i
 .obtain ⟨_,u,u1,u2,u3,u4⟩:=e6 k (e l[k]) ⟨by omega,rfl⟩;have:(k+1)*sz<=i*sz:=yX sz z_;rw[xI,wN]at this;refine⟨by omega,u,?_,u2,u3,λp hp=>?_⟩
  .rw[yT (by rw[zW];omega),wH];exact RdD.keep st.keeps _ _ u1
  .rw[bj _ z_,zD z_,u4 p hp]
 .obtain ⟨_,u,u1,u2,u3,u4⟩:=e6 (j+(k-i)) (e l[j+(k-i)]) ⟨by omega,rfl⟩;have hks:k*sz=i*sz+(k-i)*sz:=by rw[<-xI];congr 1;omega
  have hjs:(j+(k-i))*sz=j*sz+(k-i)*sz:=by rw[<-xI]
  have:(k-i+1)*sz<=(n-j)*sz:=yX sz z_;rw[xI,wN]at this;refine⟨by omega,u,?_,u2,u3,λp hp=>?_⟩
  .rw[xR (by rw[zW];omega),vN];have sk:j+(k-(l.take i).length)=j+(k-i):=by rw[zW];omega
   simp only[sk];exact RdD.keep st.keeps _ _ u1
  .rw[bj _ z_,zE z_,<-u4 p hp,hjs];rw[show k*sz+p-(i*sz+0)=(k-i)*sz+p by omega,a8 _ z_];congr 1;omega
def Ol{P:Program}(Γ:Ty P){o:Oper}{s:SS}(q:Nat){t:TypeId}{ti:TI}{et:TypeId}{sz eb b n cap k m c:Nat}{ez:List Value}{x:Operand}{d:Type}{e:d->SV}{l:List d}{B:Option Addr}(h:o.op=.call ⟨.builtin .clear,#[x],#[t]⟩)(ht:Γ.get t=some ti)(hk:ti.k=.slice et sz eb ez)(ou:ez.length=sz)(hz1:∀v∈ez,v.oneCell'=true)(hx:ev s x=.val (.slice B m c))(hB:B=some (if cap=k then ⟨b,0,none⟩ else ⟨b,k*sz,none⟩))(ck:s.h q=.pin b n cap sz e l)(lc:k<=l.length)(hm:k+m<=cap):Good P o s ⟨.tup [],[],[(q,.pin b n cap sz e (l.take k))]⟩:=by
 intro r a w hinv hr ho N Q hN;have r1:=hr x (by simp[h,Op.operands,Call.operands]);rw[hx]at r1;subst hB;have hq:=ho q (.inr (by simp[Up.ws]));rw[ck]at hq;obtain ⟨e0,b',d5,cs,T,fr,e1,e2,e3,e4,e5,e6⟩:=hq;rw[e0]at e1;cases e1;obtain ⟨hu,ii,zv,q1,q2,q3,q4,q5⟩:=Cs Γ ht hk;have sf:zv.cells.size=sz:=by rw[<-ou,<-q5];simp
 have ab:(l.take k).length=k:=by rw[zW];omega
 by_cases ax:m=0
 .subst ax;have au:(execOp a.eval o).run P w=.ok (.value (.tuple #[])) w:=by
   simp[execOp,h,resolve,invoke,builtin,Builtin.clear_,r1.val,run_underlying hu]
  simp only[Oper.wp,au,Oper.upon];refine hN _ r w (Step.refl _ r w) hinv (by simp[Rd,RdL]) (λp hp=>?_);simp only[zZ]at hp;subst hp;refine⟨e0,b,cap,cs,T,fr,e0,e2,e3,e4,e5,?_⟩;rintro p z ⟨fg,rfl⟩;rw[wH];exact e6 p (e l[p]) ⟨by omega,E⟩
 obtain ⟨m,rfl⟩:∃p,m=p+1:=⟨m-1,by omega⟩
 rw[zD z_]at r1;obtain ⟨news,er⟩:∃news,news=(Builtin.zeroCells zv.cells (m+1)).toList:=⟨_,rfl⟩
 have ln:news.length=(m+1)*sz:=by rw[er,wT,X0,sf]
 have ki:Ones news:=λv hv=>by
  rw[er,Array.mem_toList_iff]at hv;refine hz1 v ?_;rw[<-q5];simp only[Builtin.zeroCells,Array.mem_map,Array.mem_range]at hv;obtain ⟨p,hp,rfl⟩:=hv;have h0:0<zv.cells.size:=by
   rcases uH zv.cells.size with h|h
   .rw[h]at hp;simp at hp
   .exact h
  have db:p%zv.cells.size<zv.cells.size:=tU _ h0;rw[getElem!_pos zv.cells _ db];exact Array.getElem_mem_toList db
 have hmul:k*sz+(m+1)*sz<=cap*sz:=by rw[<-xI];exact yX sz hm
 obtain ⟨w',f1,f2,f3,f4,f5,f6,f7⟩:=Dl P b (k*sz) T fr news 0 cs w e2 e3 z_ ki;obtain ⟨st,inv⟩:=Uy hinv e0 f3 f4 f5 f6 f7;have au:(execOp a.eval o).run P w=.ok (.value (.tuple #[])) w':=by
  simp[execOp,h,resolve,invoke,builtin,Builtin.clear_,r1.val,run_underlying hu,zeroValue,typeInfo,q1,q4,<-er,f1]
 simp only[Oper.wp,au,Oper.upon];refine hN _ r w' (st.weaken (λk hk=>by subst hk;simp[Up.ws])) inv (by simp[Rd,RdL]) (λp hp=>?_);simp only[zZ]at hp;subst hp;refine⟨e0,b,cap,_,T,fr,e0,f2,by rw[Cj];exact e3,by rw[Cj];exact e4,e5,?_⟩;rintro p z ⟨fg,rfl⟩;have bj:=My cs news (k*sz+0);obtain ⟨h0,u,u1,u2,u3,u4⟩:=e6 p (e l[p]) ⟨by omega,rfl⟩;have:(p+1)*sz<=k*sz:=yX sz z_;rw[xI,wN]at this;refine⟨h0,u,?_,u2,u3,λj hj=>?_⟩
 .rw[wH];exact RdD.keep st.keeps _ _ u1
 .have gq:k*sz<=cs.length:=by omega
  rw[bj _ z_,zD z_,u4 j hj]
def G_dat{C:Cx}{kk:List KI}{s:SS}(i q:Nat){sz:Nat}{r:Type}{e:r->SV}{l:List r}(h:s.σ i=.sl sz e l)(hl:l≠[])(hg:∀b off cap,l.length<=cap->G C kk ⟨upd s.σ i (.val (.slice (some ⟨b,off,none⟩) l.length cap)),upd s.h q (.dat (.slice (some ⟨b,off,none⟩) l.length cap) sz e l)⟩):G C kk s:=λk a w hs=>by
 have h1:=hs.slot i;rw[h]at h1;have h1':=h1;simp only[Rd,RdD]at h1;rcases h1 with ⟨h2,_⟩|⟨b,off,cap,h2,h3,_⟩
 .exact zX h2 hl
 .refine hg b off cap h3 k a w ⟨hs.defers,hs.size,hs.inv,hs.ctx,λj=>?_,λj=>?_⟩
  .show Rd k w (upd s.σ i (.val (.slice (some ⟨b,off,none⟩) l.length cap)) j) _;by_cases hj:j=i
   .subst hj;rw[B1];simp only[Rd];exact h2
   .rw[Cv _ _ hj];exact hs.slot j
  .show ObOK k w j (upd s.h q (.dat (.slice (some ⟨b,off,none⟩) l.length cap) sz e l) j);by_cases hj:j=q
   .subst hj;rw[B1];rw[h2]at h1';exact h1'
   .rw[Cv _ _ hj];exact hs.obj j
def Acy{P:Program}(Γ:Ty P){o:Oper}{s:SS}{t:TypeId}{ti:TI}{et:TypeId}{sz eb b off n cap hi:Nat}{ez:List Value}{x hx mx:Operand}{k2 k3:IntKind}(h:o.op=.slice t x none (some hx) (some mx))(ht:Γ.get t=some ti)(hk:ti.k=.slice et sz eb ez)(lr:ev s x=.val (.slice (some ⟨b,off,none⟩) n cap))(ls:ev s hx=.val (.int k2 hi))(wz:ev s mx=.val (.int k3 hi))(h3:hi<=cap):Good P o s ⟨.val (.slice (some ⟨b,off,none⟩) hi hi),[],[]⟩ :=
 Good.pure λr a w _ hr _=>by
  have r1:=hr x (by simp[h,Op.operands]);have r3:=hr hx (by simp[h,Op.operands]);have r4:=hr mx (by simp[h,Op.operands]);rw[lr]at r1;rw[ls]at r3;rw[wz]at r4;obtain ⟨hu,i,zv,q1,q2,q3,q4,q5⟩:=Cs Γ ht hk;have hb:(Instr.sliceBounds true n cap none (some (a.eval hx)) (some (a.eval mx))).run P w=.ok (0,hi,hi) w:=by
   rw[r3.val,r4.val];simp[Instr.sliceBounds,Instr.sliceBound,asIntOf,h3]
  refine⟨.slice (some ⟨b,off,none⟩) hi hi,?_,by simp only[Rd]⟩;by_cases hc:hi=0
  .subst hc;simp[execOp,h,r1.val,Instr.sliceAt,Instr.slice,run_underlying hu,hb,sizeOf,typeInfo,q1]
  .simp[execOp,h,r1.val,Instr.sliceAt,Instr.slice,run_underlying hu,hb,sizeOf,typeInfo,q1,q2,hc,Addr.add_lit]
def Ac2{P:Program}(Γ:Ty P){o:Oper}{s:SS}(q:Nat){t:TypeId}{ti:TI}{et:TypeId}{sz eb b off n cap:Nat}{ez:List Value}{x y:Operand}{d:Type}{e:d->SV}{l l':List d}(h:o.op=.call ⟨.builtin .append,#[x,y],#[t,t]⟩)(ht:Γ.get t=some ti)(hk:ti.k=.slice et sz eb ez)(ou:ez.length=sz)(hx:ev s x=.val (.slice (some ⟨b,off,none⟩) n n))(hq:s.h q=.dat (.slice (some ⟨b,off,none⟩) l.length cap) sz e l)(hn:n<=l.length)(hy:ev s y=.sl sz e l')(cz:(n+l'.length)*eb<=140737488355328)(sg:n+l'.length<=9223372036854775807):Good P o s ⟨.sl sz e (l.take n++l'),[q],[]⟩:=by
 intro r a w hinv hr ho N Q hN;have r1:=hr x (by simp[h,Op.operands,Call.operands]);have r2:=hr y (by simp[h,Op.operands,Call.operands]);rw[hx]at r1;rw[hy]at r2;have tq:=ho q (.inl qq);rw[hq]at tq;have tq:Rd r w (.sl sz e l) (.slice (some ⟨b,off,none⟩) l.length cap):=tq;obtain ⟨hu,ii,zv,q1,q2,q3,q4,q5⟩:=Cs Γ ht hk;have sf:zv.cells.size=sz:=by rw[<-ou,<-q5];simp
 have so:(l.take n).length=n:=by rw[zW];omega
 have cd:Rd r w (.sl sz e (l.take n)) (.slice (some ⟨b,off,none⟩) n n):=by
  simp only[Rd,RdD]at tq|-;rcases tq with ⟨h0,_⟩|⟨b2,off2,sq,h2,h3,h4,h5,h6⟩
  .have dy:n=0:=by rw[h0]at hn;simpa using hn
   subst dy;exact .inl ⟨by simp,_,_,E⟩
  .cases h2;refine .inr ⟨b,off,n,by rw[so],by rw[so];exact yG _,h4,h5,λi hi=>?_⟩;obtain ⟨u,h7,h8⟩:=h6 i z_;exact⟨u,by rw[wH];exact h7,h8⟩
 have hrb:=cd.src;have hru:=r2.src;rw[so]at hrb;obtain ⟨m,hm⟩:=kE l'.length;rw[hm]at hru cz sg;generalize sr:a.eval y=u at *;obtain ⟨ad,c,news,ss,ln,wo,oh,wq⟩:∃(a:Option Addr) (c:Nat) (news:List Value),u=.slice a m c/\news.length=m*sz/\Ones news/\(∀W:World,(∀p:Addr,p.block<w.heap.size->W.cell? p=w.cell? p)->(Builtin.firstCells sz m u).run P W=.ok news.toArray W) /\
   (∀j x,rowF e l' j x->j<m/\∃q:Value,RdD (Own r) w x q/\q.cells.size=sz/\Ones q.cells.toList/\∀l,l<sz->news[j*sz+l]? = q.cells[l]?):=by
  rcases hru with ⟨rfl,cu,a,c,rfl⟩|⟨b,o,c,news,rfl,h1,h2,h3,h4⟩
  .refine⟨a,c,[],E,by simp,by simp[Ones],λW _=>?_,λj x h=>zX h (cu j x)⟩;cases a<;>simp[Builtin.firstCells,loadCells,loadCellsFrom]
  .refine⟨some ⟨b,o,none⟩,c,news,E,h1,h2,λ W hW=>?_,λ j x hx=>h4 j x hx⟩;exact run_firstCells_some (P:=P) W sz m ⟨b,o,none⟩ m c news h1 (λ j q hj=>by
    rw[Addr.add_lit];have h5:=h3 j q hj;rw[hW _ (by exact World.block_lt_of_cell? w _ h5),h5])
 subst ss;by_cases ax:m=0
 .subst ax;have tr:l'=[]:=yB hm;subst tr;have hc:=oh w (λ_ _=>rfl);have hnn:news=[]:=kS ln;subst hnn;have au:(execOp a.eval o).run P w=.ok (.value (.slice (some ⟨b,off,none⟩) n n)) w:=by
   simp[execOp,h,resolve,invoke,builtin,Builtin.append_,r1.val,sr,run_underlying hu,sizeOf,typeInfo,q1,q2,Builtin.lenOf,hc,storeCells]
  simp only[Oper.wp,au,Oper.upon];refine hN _ r w (Step.refl _ r w) hinv ?_ (λp hp=>by cases hp);rw[xG];exact cd
 obtain ⟨da,kx,hof,o7⟩:∃da:List Value,da.length=n*sz/\(∀j x,rowF e (l.take n) j x->j<n->∃q:Value,RdD (Own r) w x q/\q.cells.size=sz/\Ones q.cells.toList/\∀l,l<sz->da[j*sz+l]? = q.cells[l]?) /\
   (Builtin.firstCells sz n (.slice (some ⟨b,off,none⟩) n n)).run P w.drew=.ok da.toArray w.drew:=by
  rcases hrb with ⟨rfl,cu,_⟩|⟨b2,o2,c2,da,he,g1,g2,g3,g4⟩
  .exact⟨[],by simp,λj x _ hj=>zX hj z_,run_firstCells_some (P:=P) w.drew sz 0 ⟨b,off,none⟩ 0 0 [] qq (λj v hj=>by simp at hj)⟩
  .cases he;exact⟨da,g1,λ j x hx _=>(g4 j x hx).2,run_firstCells_some (P:=P) w.drew sz n ⟨b,off,none⟩ n n da g1 (λ j v hj=>by
    have:=g3 j v hj;rw[Addr.add_lit];simpa using this)⟩
 have ji:n+m<=grownCap w (n+m) n et:=grownCap_ge w (n+m) n et;have om:¬(281474976710656<Builtin.nextslicecap (n+m) n*ii.bytes):=by
  have:=growslice_fits (need:=n+m) (old:=n) (bytes:=ii.bytes) z_ (by rw[q3];exact cz);omega
 have jk:¬(9223372036854775807<(n:Int)+(m:Int)):=by omega
 have bz:¬n+m<=n:=by omega
 have hc:=oh w.drew (λ_ _=>rfl);obtain ⟨w',rn⟩:∃w',w.drew.alloc (.cells (da.toArray++news.toArray++Builtin.zeroCells zv.cells (grownCap w (n+m) n et-(n+m))) et)=w':=⟨_,rfl⟩
 have au:(execOp a.eval o).run P w=.ok (.value (.slice (some ⟨w.heap.size,0,none⟩) (n+m) (grownCap w (n+m) n et))) w':=by
  rw[<-rn];simp[execOp,h,resolve,invoke,builtin,Builtin.append_,r1.val,sr,run_underlying hu,sizeOf,typeInfo,zeroValue,q4,q1,q2,Builtin.lenOf,jk,om,Question.forced,o7,hc,newRow,grownCap];rw[zD bz];have ea:∀Z:Array Value,da.toArray++(news.toArray++Z)=(da++news).toArray++Z:=λZ=>by apply Array.ext';simp
  rw[ea]
 have g0:Grew w w':=by rw[<-rn];exact(Grew.drew w).trans (Grew.alloc _ _)
 obtain ⟨st,inv⟩:=cL hinv g0;have x9:w'.heap[w.heap.size]? = some (.cells (da++news++(Builtin.zeroCells zv.cells (grownCap w (n+m) n et-(n+m))).toList).toArray et):=by
  rw[<-rn];have:(w.drew.alloc (.cells (da.toArray++news.toArray++Builtin.zeroCells zv.cells (grownCap w (n+m) n et-(n+m))) et)).heap[w.heap.size]? = some (.cells (da.toArray++news.toArray++Builtin.zeroCells zv.cells (grownCap w (n+m) n et-(n+m))) et):=heap_alloc_new w.drew _;rw[this];congr 2;apply Array.ext';simp
 have bg:w.heap.size<w'.heap.size:=by rw[<-rn];simp
 simp only[Oper.wp,au,Oper.upon];refine hN _ r w' (st.weaken (λ_ h=>h.elim)) inv ?_ (λp hp=>by cases hp);simp only[Rd,RdD];have hlen:(l.take n++l').length=n+m:=by rw[zU,so,hm]
 refine .inr ⟨w.heap.size,0,grownCap w (n+m) n et,by rw[hlen],by rw[hlen];exact ji,?_,bg,λj hj=>?_⟩
 .rintro (⟨k,hk⟩|hk)
  .exact Nat.lt_irrefl _ (hinv.bnd k _ hk)
  .exact Nat.lt_irrefl _ (hinv.mbnd _ hk)
 .rw[hlen]at hj;by_cases o8:j<n
  .obtain ⟨qv,g1,g2,g3,g4⟩:=hof j (e (l.take n)[j]) ⟨by omega,rfl⟩ o8;refine⟨qv,by rw[yT z_];exact RdD.keep st.keeps _ _ g1,g2,g3,λp hp=>?_⟩;have:(j+1)*sz<=n*sz:=yX sz z_;rw[xI,wN]at this;rw[cell_of_row w' _ _ _ et (0,0) x9,uQ,xF,xQ z_,xW];exact g4 p hp
  .obtain ⟨_,qv,g1,g2,g3,g4⟩:=wq (j-n) (e (l'[j-n]'z_)) ⟨by omega,rfl⟩;refine⟨qv,?_,g2,g3,λp hp=>?_⟩
   .rw[xR z_];simp only[so];exact RdD.keep st.keeps _ _ g1
   .have e1:j*sz=n*sz+(j-n)*sz:=by rw[<-xI];congr 1;omega
    have:(j-n+1)*sz<=m*sz:=yX sz z_;rw[xI,wN]at this;rw[cell_of_row w' _ _ _ et (0,0) x9,uQ,xF,wE z_,xQ z_,<-g4 p hp];congr 1;omega
def eV{P:Program}{o:Oper}{s:SS}(q:Nat){sz:Nat}{b:Type}{e:b->SV}{l:List b}{v:Value}{x:Operand}(h:o.op=.move x\/o.op=.assign x)(hx:ev s x=.val v)(hq:s.h q=.dat v sz e l):Good P o s ⟨.sl sz e l,[q],[]⟩ :=
 Good.pure λk a w _ hr ho=>by
  have tq:=ho q qq;rw[hq]at tq;have jm:=hr x (by rcases h with h|h<;>simp[h,Op.operands]);rw[hx]at jm;refine⟨a.eval x,?_,?_⟩
  .rcases h with h|h<;>simp[execOp,h]
  .rw[jm.val];exact tq
def Aa2{f g:Nat->Option (Nat×Nat)}:∀(ps:List (Nat×Value)) (cs:Array Value),(∀p∈ps,f p.1=g p.1)->Instr.fill f cs ps=Instr.fill g cs ps
 |[],cs,_=>rfl
 |(i,v)::ps,cs,h=>by
  have h1:=h (i,v) qq;simp only[Instr.fill];dsimp only at h1;rw[h1];cases g i with
  |none=>rfl
  |some os=>
   dsimp only;split
   .rfl
   .exact Aa2 ps _ (λp hp=>h p (by simp[hp]))
def Vy{P:Program}(Γ:Ty P){o:Oper}{s:SS}{t et:TypeId}{ti:TI}{len esz:Nat}{ps:List (Nat×Operand)}{out:List SV}(h:o.op=.build t ps.toArray)(ht:Γ.get t=some ti)(hk:ti.k=.array et len esz)(h1:eM ti.zero=true)(nh:(ps.all λp=>Nat.blt p.1 len)=true)(hf:Aa3 ((List.range len).map λi=>(i*esz,esz)) (ti.zero.map .val) (ps.map λp=>(p.1,ev s p.2))=some out):Good P o s ⟨.agg out,[],[]⟩ :=
 Good.pure λb a w _ hr _=>by
  obtain ⟨d,info,z,k1,k2,k3,k4,k5,k6⟩:=Γ.ok t ti ht;obtain ⟨hu,i,q1,q2⟩:=Wf Γ ht hk;have hops:∀ p∈ps,Rd b w (ev s p.2) (a.eval p.2):=λ p hp=>hr p.2 (by
   simp only[h,Op.operands];simp only[List.mem_toArray,yS];exact⟨p,hp,E⟩)
  obtain ⟨r,r1,r2,r3⟩:=Ag2 (κ:=b) (w:=w) (a:=a) ps _ out z.cells (by rw[k6];exact bU _) (by rw[k6];exact Vj h1) hops hf;refine⟨.agg r,?_,?_⟩
  .have hcg:=Aa2 (f:=λ i=>some (i * esz,esz)) (g:=λ i=>((List.range len).map λ i=>(i * esz,esz))[i]?) (ps.map λ p=>(p.1,a.eval p.2)) z.cells (λ p hp=>by
    obtain ⟨x,hx,rfl⟩:=yS.1 hp;have ab:x.1<len:=wA (yU.1 nh x hx);dsimp only;rw[vD,uC ab];rfl)
   simp only[execOp,h,Sem.run_bind,Instr.build,zeroValue,typeInfo,run_program,Result.andThen_ok,k3,k5,Sem.run_pure,run_underlying hu,sizeOf,q1,q2,List.map_toArray];rw[hcg,r1];simp
  .simp only[Rd];exact⟨r.toList,by simp,r3,r2⟩
mutual
def rnb(k d:Nat):SV->SV
 | .ptr j o=>bif Nat.beq j k then .ptr d o else .ptr j o
 | .agg l=>.agg (nY k d l)
 | .tup l=>.tup (nY k d l)
 | .ifc t y=>.ifc t (rnb k d y)
 | .clo f g l=>.clo f (nY k d g) (nY k d l)
 |y=>y
def nY(k d:Nat):List SV->List SV
 |[]=>[]
 |y::l=>rnb k d y::nY k d l
end
mutual
theorem Anf{a a':Ka}{w:World}{K:Nat->Prop}{k d:Nat}(st:Step K a w a' w)(hx:∀o v,Rd a w (.ptr k o) v->Rd a' w (.ptr d o) v):∀(y:SV) (v:Value),Rd a w y v->Rd a' w (rnb k d y) v
 | .ptr j o,v,h=>by
  unfold rnb;by_cases hk:j=k
  .subst hk;rw[show Nat.beq j j=true from tK j];exact hx o v h
  .rw[show Nat.beq j k=false from by cases hb:Nat.beq j k with|false=>rfl|true=>exact zX (yK hb) hk];exact Rd.step st _ _ h
 | .agg l,v,h=>by
  simp only[Rd]at h;unfold rnb;simp only[Rd];obtain ⟨cs,h1,h2,h3⟩:=h;exact⟨cs,h1,h2,Tg st hx l cs h3⟩
 | .tup l,v,h=>by
  simp only[Rd]at h;unfold rnb;simp only[Rd];obtain ⟨cs,h1,h3⟩:=h;exact⟨cs,h1,Tg st hx l cs h3⟩
 | .ifc t y,v,h=>by
  simp only[Rd]at h;unfold rnb;simp only[Rd];obtain ⟨u,h1,h3⟩:=h;exact⟨u,h1,Anf st hx y u h3⟩
 | .clo f g l,v,h=>by
  simp only[Rd]at h;unfold rnb;simp only[Rd];obtain ⟨fs,cs,h1,h2,h3⟩:=h;exact⟨fs,cs,h1,Tg st hx g fs h2,Tg st hx l cs h3⟩
 | .top,v,h=>by unfold rnb;exact Rd.step st _ _ h
 | .val u,v,h=>by unfold rnb;exact Rd.step st _ _ h
 | .sl sz e l,v,h=>by unfold rnb;exact Rd.step st _ _ h
 | .ref sz z o,v,h=>by unfold rnb;exact Rd.step st _ _ h
 | .rpt k sz i o,v,h=>by unfold rnb;exact Rd.step st _ _ h
 | .osl k,v,h=>by unfold rnb;exact Rd.step st _ _ h
theorem Tg{a a':Ka}{w:World}{K:Nat->Prop}{k d:Nat}(st:Step K a w a' w)(hx:∀o v,Rd a w (.ptr k o) v->Rd a' w (.ptr d o) v):∀(l:List SV) (vs:List Value),RdL a w l vs->RdL a' w (nY k d l) vs
 |[],vs,h=>by
  unfold nY;simpa [RdL] using h
 |y::l,vs,h=>by
  simp only[RdL]at h;unfold nY;simp only[RdL];obtain ⟨v,r,h1,h2,h3⟩:=h;exact⟨v,r,h1,Anf st hx y v h2,Tg st hx l r h3⟩
end
def rnbO(k d:Nat):Ob->Ob
 | .box l=>.box (nY k d l)
 |o=>o
def Am1{a:Ka}{w:World}{k d b:Nat}(hi:Inv a w)(hk:a k=.blk b)(hd:a d=.new):Step (λj=>j=k\/j=d) a w (D8 (D8 a k .dead) d (.blk b)) w/\Inv (D8 (D8 a k .dead) d (.blk b)) w:=by
 have cm:k≠d:=λe=>by subst e;rw[hk]at hd;cases hd
 have jw:(a k).block? = some b:=by rw[hk];rfl
 have key:∀j c,((D8 (D8 a k .dead) d (.blk b)) j).block? = some c->(j=d/\c=b)\/(j≠d/\j≠k/\(a j).block? = some c):=by
  intro j c h;by_cases hj:j=d
  .subst hj;rw[Az]at h;exact .inl ⟨rfl,by simpa [Ent.block?] using h.symm⟩
  .rw[Cb _ _ hj]at h;by_cases cn:j=k
   .subst cn;rw[Az]at h;cases h
   .rw[Cb _ _ cn]at h;exact .inr ⟨hj,cn,h⟩
 refine⟨⟨yG _,E,E,E,E,λ_ _=>rfl,λ_ _ _=>rfl,λ_ _ _ _=>rfl,λj hj=>?_,?_,?_⟩,⟨?_,?_,?_,λc h=>hi.mbnd c h⟩⟩
 .rw[Cb _ _ (λe=>hj (.inr e)),Cb _ _ (λe=>hj (.inl e))]
 .rintro j (rfl|rfl)
  .exact .inr (.inr (by rw[Cb _ _ cm,Az]))
  .exact .inl hd
 .rintro c (⟨j,hj⟩|hj)
  .rcases key j c hj with ⟨_,rfl⟩|⟨_,_,h⟩
   .exact .inl (.inl ⟨k,jw⟩)
   .exact .inl (.inl ⟨j,h⟩)
  .exact .inl (.inr hj)
 .intro i j c h1 h2;rcases key i c h1 with ⟨a1,a2⟩|⟨a1,a2,a3⟩<;>rcases key j c h2 with ⟨b1,b2⟩|⟨b1,b2,b3⟩
  .exact a1.trans b1.symm
  .subst a2;exact zX (hi.inj j k _ b3 jw) b2
  .subst b2;exact zX (hi.inj i k _ a3 jw) a2
  .exact hi.inj i j c a3 b3
 .intro j c h;rcases key j c h with ⟨_,rfl⟩|⟨_,_,h⟩
  .exact hi.bnd k _ jw
  .exact hi.bnd j c h
 .intro j c h;rcases key j c h with ⟨_,rfl⟩|⟨_,_,h⟩
  .exact hi.apart k _ jw
  .exact hi.apart j c h
def Lk{C:Cx}{kk:List KI}{s:SS}(k d:Nat){l:List SV}(h:s.h k=.box l)(hd:s.h d=.fresh)(cm:k≠d)(hg:G C kk ⟨λi=>rnb k d (s.σ i),upd (λj=>bif Nat.beq j k then .non else rnbO k d (s.h j)) d (.box (nY k d l))⟩):G C kk s:=λr a w hs=>by
 have ck:=hs.obj k;rw[h]at ck;have ay:r d=.new:=by have:=hs.obj d;rwa [hd]at this
 obtain ⟨b,cs,T,fr,e1,e2,e3,e4,e5⟩:=ck;obtain ⟨st,inv⟩:=Am1 hs.inv e1 ay;have ag:∀j,j≠k->j≠d->(D8 (D8 r k .dead) d (.blk b)) j=r j:=λj h1 h2=>by rw[Cb _ _ h2,Cb _ _ h1]
 have hv:∀o v,Rd r w (.ptr k o) v->Rd (D8 (D8 r k .dead) d (.blk b)) w (.ptr d o) v:=λo v hv=>by
  simp only[Rd,e1]at hv;simp only[Rd,Az];exact hv
 refine hg _ a w ⟨hs.defers,hs.size,inv,hs.ctx.step inv st,λj=>Anf st hv _ _ (hs.slot j),λj=>?_⟩;show ObOK _ w j (upd (λj=>bif Nat.beq j k then .non else rnbO k d (s.h j)) d (.box (nY k d l)) j);by_cases hj:j=d
 .subst hj;rw[B1];exact⟨b,cs,T,fr,Az _ _ _,e2,e3,e4,Tg st hv l cs e5⟩
 .rw[Cv _ _ hj];by_cases cn:j=k
  .subst cn;rw[show Nat.beq j j=true from tK j];trivial
  .rw[show Nat.beq j k=false from by cases hb:Nat.beq j k with|false=>rfl|true=>exact zX (yK hb) cn];have hb:=ObOK.step st (λe=>e.elim cn hj) _ (hs.obj j);have h0:=hs.obj j;show ObOK _ w j (rnbO k d (s.h j));cases hh:s.h j with
   |box m=>
    rw[hh]at h0 hb;obtain ⟨b2,w4,T2,ya,f1,f2,f3,f4,f5⟩:=h0;exact⟨b2,w4,T2,ya,(ag j cn hj).trans f1,f2,f3,f4,Tg st hv m w4 f5⟩
   |fresh=>rw[hh]at hb;exact hb
   |non=>rw[hh]at hb;exact hb
   |row d8 e' l'=>rw[hh]at hb;exact hb
   |lit d8 svs=>rw[hh]at hb;exact hb
   |glob d8 x' g'=>rw[hh]at hb;exact hb
   |pin b' n' d5 d8 e' l'=>rw[hh]at hb;exact hb
   |dat v' d8 e' l'=>rw[hh]at hb;exact hb
   |trow T' m'=>rw[hh]at hb;exact hb
   |rown d8 e' l' i' yc=>rw[hh]at hb;exact hb
   |tbox T' m'=>rw[hh]at hb;exact hb
structure Meth(P:Program)(t:TypeId)(name:String)(f:FuncId)(pr:Bool)(e:TypeId):Prop where
 row:∃i m,P.info? t=some i/\i.methods.find? (·.name==name)=some m/\m.path=#[]/\m.func=some (f,pr)
 under:P.underlying t=some (.pointer e)
def nV{P:Program}{t:TypeId}{name:String}{f:FuncId}{e:TypeId}(hm:Meth P t name f true e)(w:World)(v:Value):(Go.method (P.types.size+Made.depth) t v name).run P w=.ok (f,v) w:=by
 obtain ⟨⟨i,m,h1,h2,h3,h4⟩,hu⟩:=hm;show (Go.method (P.types.size+99+1) t v name).run P w=_;rw[Go.method];simp only[Sem.run_bind,run_typeInfo w h1,Result.andThen_ok,h2,h3,Go.follow,Sem.run_pure,h4,Go.receiverAt,run_underlying hu,Go.Place.get]
def nU{P:Program}{t:TypeId}{name:String}{f:FuncId}{e:TypeId}(hm:Meth P t name f false e)(w:World)(a:Addr){v:Value}(hv:(loadVar e a).run P w=.ok v w):(Go.method (P.types.size+Made.depth) t (.pointer (some a)) name).run P w=.ok (f,v) w:=by
 obtain ⟨⟨i,m,h1,h2,h3,h4⟩,hu⟩:=hm;show (Go.method (P.types.size+99+1) t (.pointer (some a)) name).run P w=_;rw[Go.method];have he:(#[]:Array FieldStep).isEmpty=true:=rfl;simp only[Sem.run_bind,run_typeInfo w h1,Result.andThen_ok,h2,h3,Go.follow,Sem.run_pure,h4,Go.receiverAt,run_underlying hu,Go.Place.get,he,if_true];have hs : ∀n : String, (Builtin.ssaWrapNilChk_ #[t] t #[.pointer (some a), strVal "", strVal n]).run P w = .ok (.pointer (some a)) w := λn=> rfl
 simp only[hs,Result.andThen_ok,asAddr,Sem.run_pure,hv]
def Ya{P:Program}{o:Oper}{s:SS}{rd:List Nat}{f:FuncId}{fn:Func}{c:Code}{t e:TypeId}{name:String}{x:Operand}{xs:List Operand}{ts:Array TypeId}{y:SV}(hm:Meth P t name f true e)(hf:Fun P f fn c)(h:o.op=.call ⟨.invoke x name,xs.toArray,ts⟩)(hx:ev s x=.ifc t y):Ug P o s rd f (y::xs.map (ev s)) :=
 λk a w hr _=>by
  have h1:=hr x (by simp[h,Op.operands,Call.operands]);rw[hx]at h1;simp only[Rd]at h1;obtain ⟨u,e1,e2⟩:=h1;refine⟨u::xs.map a.eval,?_,?_⟩
  .have ec:=Mk hf (u::xs.map a.eval).toArray w;have pc:=nV hm w u;simp only[execOp,h,resolve,invoke,e1,Sem.run_bind,Sem.run_pure,Result.andThen_ok]at ec|-;simp only[callMethod];rw[<-ec];have gj:(xs.map a.eval).take xs.length=xs.map a.eval:=xD qq;simp[pc,Sem.run_bind,gj]
  .simp only[RdL];exact⟨_,_,E,e2,Qj xs (λy hy=>hr y (by simp[h,Op.operands,Call.operands,hy]))⟩
def B0{P:Program}(Γ:Ty P){o:Oper}{s:SS}{f:FuncId}{fn:Func}{c:Code}{t e:TypeId}{ti:TI}{name:String}{x:Operand}{xs:List Operand}{ts:Array TypeId}{k off:Nat}{l:List SV}{z:SV}(hm:Meth P t name f false e)(hf:Fun P f fn c)(h:o.op=.call ⟨.invoke x name,xs.toArray,ts⟩)(hx:ev s x=.ifc t (.ptr k off))(hk:s.h k=.box l)(ht:Γ.get e=some ti)(hz:Of ti l off=some z):Ug P o s [k] f (z::xs.map (ev s)) :=
 λr a w hr ho=>by
  have h1:=hr x (by simp[h,Op.operands,Call.operands]);rw[hx]at h1;simp only[Rd]at h1;obtain ⟨u,e1,e2⟩:=h1;have ck:=ho k qq;rw[hk]at ck;obtain ⟨b,f1,f2⟩:=ck.cellsAt;rw[f1]at e2;simp only at e2;subst e2;obtain ⟨v,g1,g2⟩:=M1 (P:=P) Γ ht f2 hz;rw[xW]at g1;refine⟨v::xs.map a.eval,?_,?_⟩
  .have ec:=Mk hf (v::xs.map a.eval).toArray w;have pc:=nU hm w ⟨b,off,none⟩ g1;simp only[execOp,h,resolve,invoke,e1,Sem.run_bind,Sem.run_pure,Result.andThen_ok]at ec|-;simp only[callMethod];rw[<-ec];have gj:(xs.map a.eval).take xs.length=xs.map a.eval:=xD qq;simp[pc,Sem.run_bind,gj]
  .simp only[RdL];exact⟨_,_,E,g2,Qj xs (λy hy=>hr y (by simp[h,Op.operands,Call.operands,hy]))⟩
def eZ{P:Program}(Γ:Ty P){o:Oper}{s:SS}{x:Operand}{xt t:TypeId}{ti:TI}{y:SV}{ok:Bool}(h:o.op=.typeAssert x xt t ok)(hx:ev s x=.ifc t y)(ht:Γ.get t=some ti)(hk:ti.k matches .bool| .int _| .string| .slice .. | .struct _| .ptr| .func):Good P o s ⟨if ok then .tup [y,Ab true] else y,[],[]⟩ :=
 Good.pure λb a w _ hr _=>by
  have h1:=hr x (by simp[h,Op.operands]);rw[hx]at h1;simp only[Rd]at h1;obtain ⟨u,e1,e2⟩:=h1;obtain ⟨d,info,z,k1,k2,_⟩:=Γ.ok t ti ht;have hni:∀ms,d≠.interface ms:=by
   obtain ⟨k,n,zz⟩:=ti;intro ms hd;subst hd;cases k<;>simp_all[TK.ok]
  have au:(Instr.typeAssert (.iface t u) xt t ok).run P w=.ok (if ok then .tuple #[u,.bool true] else u) w:=by
   cases d<;>first
    |exact zX rfl (hni _)
    |(cases ok<;>simp[Instr.typeAssert,run_underlying k1])
  refine⟨if ok then .tuple #[u,.bool true] else u,by simp[execOp,h,e1,au],?_⟩;cases ok
  .exact e2
  .simp only[if_true,Rd,RdL];exact⟨[u,.bool true],E,_,_,E,e2,_,_,E,by simp[Ab,Rd],E⟩
def A27(P:Program)(t:TypeId)(name:String)(f:FuncId)(pr:Bool):Bool :=
 match P.info? t with
 | some i=>(match i.methods.find? (·.name == name) with
  |some m=>m.path.isEmpty&&(match m.func with|some (g,b)=>Nat.beq g f&&(b==pr)|none=>false)
  | none=>false)
 |none=>false
theorem Meth.of{P:Program}{t:TypeId}{name:String}{f:FuncId}{pr:Bool}{e:TypeId}(h:A27 P t name f pr=true)(hu:P.underlying t=some (.pointer e)):Meth P t name f pr e:=by
 refine⟨?_,hu⟩;unfold A27 at h;split at h
 .rename_i i hi;split at h
  .rename_i m hm;simp only[zG]at h;obtain ⟨h1,h2⟩:=h;split at h2
   .rename_i g b hf;simp only[zG,yJ]at h2;obtain ⟨h3,rfl⟩:=h2;have h3:=yK h3;subst h3;exact⟨i,m,hi,hm,kS h1,hf⟩
   .cases h2
  .cases h
 .cases h
theorem VwL.get{s:SS}{V:List Nat}:∀{l m:List SV} (_:VwL s V l m) {i:Nat} {y:SV},H6 m i=some y->∃x,H6 l i=some x/\Vw s V x y
 |_,_,.nil,i,y,h=>by cases i<;>simp[H6]at h
 |_,_,.cons (x:=x) h0 hs,0,y,h=>by
  simp only[H6,Option.some.injEq]at h;subst h;exact⟨x,E,h0⟩
 |_,_,.cons h0 hs,i+1,y,h=>VwL.get hs (i:=i) h
theorem VwL.len{s:SS}{V:List Nat}:∀{l m:List SV} (_:VwL s V l m),m.length=l.length
 |_,_,.nil=>rfl
 |_,_,.cons _ hs=>by simp[VwL.len hs]
def Ae3:∀{l:List SV} {i:Nat} {x:SV},Sv l=true->H6 l i=some x->x.data=true
 |[],i,x,_,h=>by cases i<;>simp[H6]at h
 |y::l,0,x,hd,h=>by
  simp only[H6,Option.some.injEq]at h;subst h;simp only[Sv,zG]at hd;exact hd.1
 |y::l,i+1,x,hd,h=>by
  simp only[Sv,zG]at hd;exact Ae3 hd.2 (i:=i) h
def Aqc{C:Cx}{k:List KI}{s:SS}(d:Nat){sz:Nat}{svs:List SV}(su:List SV)(h:s.h d=.lit sz svs)(hv:VwL s [] svs su)(hd:Sv su=true)(hg:G C k ⟨s.σ,upd s.h d (.lit sz su)⟩):G C k s:=λr a w hs=>by
 refine hg r a w ⟨hs.defers,hs.size,hs.inv,hs.ctx,hs.slot,λj=>?_⟩;show ObOK r w j (upd s.h d (.lit sz su) j);by_cases hj:j=d
 .subst hj;rw[B1];have ck:=hs.obj j;rw[h]at ck;have hlen:=hv.len;obtain ⟨b,cap,cs,T,fr,e1,e2,e3,e4,e5,e6⟩:=ck;refine⟨b,cap,cs,T,fr,by rw[hlen];exact e1,e2,e3,e4,by omega,λi x hx=>?_⟩;obtain ⟨y,hy,hvw⟩:=hv.get hx;obtain ⟨f1,u,f2,f3⟩:=e6 i y hy;exact⟨by omega,u,Rd.data _ _ (Ae3 hd hx) (hvw.rd hs.inv (λn hn=>by cases hn) f2.toRd),f3⟩
 .rw[Cv _ _ hj];exact hs.obj j
theorem RdL.setI{k:Ka}{w:World}{x:SV}{v:Value}(hx:Rd k w x v):∀{l:List SV} {cs:List Value} (i:Nat),RdL k w l cs->RdL k w (l.set i x) (cs.set i v)
 |[],cs,i,h=>by simp only[RdL]at h;subst h;simp[RdL]
 |y::l,cs,0,h=>by
  simp only[RdL]at h;obtain ⟨u,r,rfl,h1,h2⟩:=h;simp only[uP,RdL];exact⟨v,r,E,hx,h2⟩
 |y::l,cs,i+1,h=>by
  simp only[RdL]at h;obtain ⟨u,r,rfl,h1,h2⟩:=h;simp only[List.set_cons_succ,RdL];exact⟨u,_,E,h1,h2.setI hx i⟩
def Dz{a:Ka}{w:World}{k:Nat}{l:List SV}(hi:Inv a w)(h:ObOK a w k (.box l)){off:Nat}{x:SV}{v:Value}(_hx:x.plain=true)(hv:∀a w,Rd a w x v)(h1:v.oneCell'=true):∃b,a k=.blk b/\(∀j y,H6 l j=some y->∃u,w.cell? ⟨b,j,none⟩=some u/\Rd a w y u)/\(∀j,j<l.length->w.frozen? ⟨b,j,none⟩=false) /\
   Step (·=k) a w a (w.setCell ⟨b,off,none⟩ v)/\Inv a (w.setCell ⟨b,off,none⟩ v)/\ObOK a (w.setCell ⟨b,off,none⟩ v) k (.box (l.set off x)):=by
 obtain ⟨b,cs,T,fr,e1,e2,e3,e4,e5⟩:=h;have kl:(w.setCell ⟨b,off,none⟩ v).heap[b]? = some (.cells (cs.set off v).toArray T fr):=by
  simp[World.setCell,tQ,e2]
 have hoth:∀j,j≠b->(w.setCell ⟨b,off,none⟩ v).heap[j]? = w.heap[j]?:=λj hj=>heap_setCell_other w ⟨b,off,none⟩ j v hj
 obtain ⟨st,inv⟩:=Mx (w':=w.setCell ⟨b,off,none⟩ v) hi (k:=k) (b:=b) (by rw[e1];rfl) rfl rfl rfl qq hoth;have hlen:=e5.length;refine⟨b,e1,λj y hy=>?_,λj hj=>?_,st,inv,b,_,T,fr,e1,kl,by rw[yN];exact e3,?_,(RdL.step st _ _ e5).setI (hv _ _) off⟩
 .obtain ⟨u,hu,hr⟩:=e5.get hy;exact⟨u,by rw[cell_of_row w b j cs.toArray T fr e2,uQ];exact hu,hr⟩
 .obtain ⟨lo,hi'⟩:=fr;simp only[World.frozen?,e2];rcases e3 with h|h
  .simp only at h;subst h;simp
  .simp only at h;simp;omega
 .intro c hc;rcases uT hc with h|h
  .exact e4 c h
  .rw[h];exact h1
def X5{P:Program}{o:Oper}{s:SS}{f:FuncId}{ik:IntKind}{ts:Array TypeId}{x:Operand}{k off:Nat}{l:List SV}{v:Int}(hf:∀(a:Addr) (x:Int) (w:World),w.cell? a=some (.int ik x)->(callFunc f #[.pointer (some a)]).run P w=.ok (.value (.int ik x)) w)(h:o.op=.call ⟨.value (.func f),#[x],ts⟩)(hx:ev s x=.ptr k off)(hk:s.h k=.box l)(hy:H6 l off=some (.val (.int ik v))):Good P o s ⟨.val (.int ik v),[k],[]⟩ :=
 Good.pure λr a w hi hr ho=>by
  have h1:=hr x (by simp[h,Op.operands,Call.operands]);rw[hx]at h1;have h2:=ho k qq;rw[hk]at h2;obtain ⟨b,cs,T,fr,e1,e2,e3,e4,e5⟩:=h2;simp only[Rd,e1]at h1;obtain ⟨u,hu,pf⟩:=e5.get hy;have hc:w.cell? ⟨b,off,none⟩=some (.int ik v):=by rw[cell_of_row w b off cs.toArray T fr e2,uQ,hu,pf.val]
  have au:=hf ⟨b,off,none⟩ v w hc;refine⟨.int ik v,?_,by simp only[Rd]⟩;have sw:a.eval (.func f)=.func (.func f) #[] #[]:=rfl;simp[execOp,h,resolve,sw,Deferred.ofValue,invoke,h1,au]
def Agw{P:Program}{o:Oper}{s:SS}{f:FuncId}{ts:Array TypeId}{x y:Operand}{k off:Nat}{l:List SV}{v d:Int}(hf:∀(a:Addr) (x y:Int) (w:World),w.cell? a=some (.int .i64 x)->w.frozen? a=false->(callFunc f #[.pointer (some a),.int .i64 y]).run P w=.ok (.value (.int .i64 (IntKind.i64.wrap (x+y)))) (w.setCell a (.int .i64 (IntKind.i64.wrap (x+y)))))(h:o.op=.call ⟨.value (.func f),#[x,y],ts⟩)(hx:ev s x=.ptr k off)(hy:ev s y=.val (.int .i64 d))(hk:s.h k=.box l)(hl:H6 l off=some (.val (.int .i64 v)))(hv:IntKind.i64.wrap (v+d)=v+d):Good P o s ⟨.val (.int .i64 (v+d)),[],[(k,.box (l.set off (.val (.int .i64 (v+d)))))]⟩:=by
 intro r a w hi hr ho N Q hN;have h1:=hr x (by simp[h,Op.operands,Call.operands]);have h2:=hr y (by simp[h,Op.operands,Call.operands]);rw[hx]at h1;rw[hy]at h2;have h3:=ho k (.inr (by simp[Up.ws]));rw[hk]at h3;obtain ⟨b,e1,c1,c2,st,inv,ob⟩:=Dz (off:=off) (x:=.val (.int .i64 (v+d))) (v:=.int .i64 (v+d)) hi h3 rfl (λ_ _=>by simp only[Rd]) rfl;simp only[Rd,e1]at h1;obtain ⟨u,hu,pf⟩:=c1 off _ hl;rw[pf.val]at hu;have au:=hf ⟨b,off,none⟩ v d w hu (c2 off (lP hl));rw[hv]at au;have yd:(execOp a.eval o).run P w=.ok (.value (.int .i64 (v+d))) (w.setCell ⟨b,off,none⟩ (.int .i64 (v+d))):=by
  have sw:a.eval (.func f)=.func (.func f) #[] #[]:=rfl;simp[execOp,h,resolve,sw,Deferred.ofValue,invoke,h1,h2.val,au]
 simp only[Oper.wp,yd,Oper.upon];refine hN _ r _ (st.weaken (by simp[Up.ws])) inv (by simp only[Rd]) (λp hp=>?_);simp only[zZ]at hp;subst hp;exact ob
def X6{P:Program}(Γ:Ty P){o:Oper}{s:SS}(q:Nat){t:TypeId}{ti:TI}{et:TypeId}{eb b n cap lo k c1 c2:Nat}{ez:List Value}{x y:Operand}{m:Type}{e:m->SV}{l:List m}{B B2:Option Addr}(h:o.op=.call ⟨.builtin .copy,#[x,y],#[t,t]⟩)(ht:Γ.get t=some ti)(hk:ti.k=.slice et 1 eb ez)(hx:ev s x=.val (.slice B (n-lo) c1))(hB:B=some ⟨b,lo,none⟩)(hy:ev s y=.val (.slice B2 k c2))(hB2:B2=some ⟨b,0,none⟩)(hq:s.h q=.pin b n cap 1 e l)(hl:l.length=n)(dw:k<=n)(ic:0<min k (n-lo)):Good P o s ⟨.val (.int .i64 (min k (n-lo):Nat)),[],[(q,.pin b n cap 1 e (l.take lo++l.take (min k (n-lo))++l.drop (lo+min k (n-lo))))]⟩:=by
 intro r a w hinv hr ho N Q hN;have r1:=hr x (by simp[h,Op.operands,Call.operands]);have r2:=hr y (by simp[h,Op.operands,Call.operands]);rw[hx]at r1;rw[hy]at r2;subst hB;subst hB2;have ck:=ho q (.inr (by simp[Up.ws]));rw[hq]at ck;obtain ⟨e0,b',d5,cs,T,fr,e1,e2,e3,e4,e5,e6⟩:=ck;rw[e0]at e1;cases e1;obtain ⟨hu,ii,zv,q1,q2,q3,q4,q5⟩:=Cs Γ ht hk;obtain ⟨mn,xq⟩:=kE (min k (n-lo));rw[xq]at ic hN;have oh:n<=cs.length:=by omega
 have dp:∀i,i<n->∃u:Value,u.cells.size=1/\Ones u.cells.toList/\∀j,j<1->cs[i*1+j]? = u.cells[j]?:=λi hi=>by
  obtain ⟨_,u,_,u2⟩:=e6 i (e l[i]) ⟨by omega,rfl⟩;exact⟨u,u2⟩
 obtain ⟨news,er⟩:∃news,news=cs.take mn:=⟨_,rfl⟩
 have ln:news.length=mn:=by rw[er,zW];omega
 have a8:∀p,p<mn->news[p]? = cs[p]?:=λp hp=>by rw[er,vT,zE hp]
 have ki:Ones news:=λv hv=>by
  obtain ⟨p,hp,he⟩:=wU hv;have h1:news[p]? = some v:=by rw[zR hp,he]
  rw[ln]at hp;rw[a8 p hp]at h1;exact Aio (n:=n) dp z_ h1
 obtain ⟨w',f1,f2,f3,f4,f5,f6,f7⟩:=Dl P b lo T fr news 0 cs w e2 e3 z_ ki;obtain ⟨st,inv⟩:=Uy hinv e0 f3 f4 f5 f6 f7;have ft:∀p v,cs[p]? = some v->w.cell? ⟨b,p,none⟩=some v:=λp v hp=>by simp[World.cell?,e2,hp]
 have hc:=Ae6 (P:=P) w w' t t o.type et ⟨b,lo,none⟩ ⟨b,0,none⟩ (n-lo) c1 k c2 news hu q1 q2 (by rw[ln,xq]) (λ j v hv=>by
  rw[Addr.add_lit];have ab:j<mn:=by rw[<-ln];exact(List.getElem?_eq_some_iff.1 hv).1
  rw[a8 j ab]at hv;rw[xW];exact ft _ _ hv) f1
 rw[ln]at hc;have au:(execOp a.eval o).run P w=.ok (.value (.int .i64 (mn:Nat))) w':=by
  simp[execOp,h,resolve,invoke,builtin,r1.val,r2.val,hc]
 simp only[Oper.wp,au,Oper.upon];refine hN _ r w' (st.weaken (λk hk=>by subst hk;simp[Up.ws])) inv (by simp only[Rd]) (λp hp=>?_);simp only[zZ]at hp;subst hp;refine⟨e0,b,cap,_,T,fr,e0,f2,by rw[Cj];exact e3,by rw[Cj];exact e4,e5,?_⟩;rintro i z ⟨dq,rfl⟩;have bj:=My cs news (lo+0);have hlen:(l.take lo++l.take mn++l.drop (lo+mn)).length=n:=by
  simp only[zU,zW,yP];omega
 rw[hlen]at dq;have src:∀j (hj:j<l.length),∃u:Value,RdD (Own r) w (e l[j]) u/\u.cells.size=1/\Ones u.cells.toList/\∀p,p<1->cs[j*1+p]? = u.cells[p]?:=λj hj=>(e6 j (e l[j]) ⟨hj,rfl⟩).2
 by_cases sx:i<lo
 .obtain ⟨u,u1,u2,u3,u4⟩:=src i z_;refine⟨dq,u,?_,u2,u3,λp hp=>?_⟩
  .have:(l.take lo++l.take mn++l.drop (lo+mn))[i]'(by rw[hlen];exact dq)=l[i]'z_:=by
    rw[yT (by simp only[zU,zW];omega),yT (by simp only[zW];omega),wH]
   rw[this];exact RdD.keep st.keeps _ _ u1
  .rw[bj _ z_,zD z_,u4 p hp]
 .by_cases km:i<lo+mn
  .obtain ⟨u,u1,u2,u3,u4⟩:=src (i-lo) z_;refine⟨dq,u,?_,u2,u3,λp hp=>?_⟩
   .have:(l.take lo++l.take mn++l.drop (lo+mn))[i]'(by rw[hlen];exact dq)=l[i-lo]'z_:=by
     rw[yT (by simp only[zU,zW];omega),xR (by simp only[zW];omega),wH];congr 1;simp only[zW];omega
    rw[this];exact RdD.keep st.keeps _ _ u1
   .rw[bj _ z_,zE z_,a8 _ z_,<-u4 p hp];congr 1;omega
  .obtain ⟨u,u1,u2,u3,u4⟩:=src i z_;refine⟨dq,u,?_,u2,u3,λp hp=>?_⟩
   .have:(l.take lo++l.take mn++l.drop (lo+mn))[i]'(by rw[hlen];exact dq)=l[i]'z_:=by
     rw[xR (by simp only[zU,zW];omega),vN];congr 1;simp only[zU,zW];omega
    rw[this];exact RdD.keep st.keeps _ _ u1
   .rw[bj _ z_,zD z_,u4 p hp]
end Go.Sy
namespace Go.Sy.Zaa
open Go.Proofs Go.Proofs.Tryz
attribute [local irreducible]G DR
set_option maxRecDepth 100000
def any_at3{k:Type}{p:k->Bool}{l:List k}{j:Nat}(hj:j<l.length)(h:p l[j]=true):l.any p=true:=wJ.2 ⟨_,zI hj,h⟩
def Aff{k:Type}{p:k->Bool}{l:List k}{j:Nat}(hI:Ek (λ_ x=>!(p x)) l j)(hj:l.length<=j):l.any p=false:=by
 rw[wK];intro x hx;obtain ⟨i,hi,rfl⟩:=wU hx;have:=hI i hi z_;simpa using this
def Lz(x:StepM):Bool:=decide (2000<x.bytes.length)||decide (60<x.up.length)
def great33B(l:List StepM):Bool:=decide (60<l.length)||l.any Lz
def Azd(l:List StepM):Sp 22 [.sl 6 Ca l] (Ab (great33B l)):=cT F22 ntmps22 λF hF=>by
 have aa:=great33B.eq_1 l;generalize great33B l=res at *
 conv=>whnf
 constructor<;>intro h
 .rw[zK (qA h),vG]at aa;subst aa;exact gJ
 have hl:l.length<=60:=qB h;rw[zL z_,vY]at aa;refine oO ?_;refine A7 l.length (λj=>Ek (λ_ x=>!(Lz x)) l j) (λj=>[(0,.sl 6 Ca l),(3,Aa j)]) (λ_=>[]) [] (Bh _ _) kU ?_;intro j hj hI;refine gH ?_ ?_<;>intro h
 .have ab:j<l.length:=qA h;have aj:(j:Int).toNat<l.length:=kS ab;have gh:=λh=>@any_at3 _ Lz l j ab h
  have eo:=λh=>Bc (p:=λ_ x=>!(Lz x)) hI ab h
  obtain ⟨x,hx⟩:=kE (l[(j:Int).toNat]'aj);have uz:l[j]=x:=hx;rw[uz]at gh eo;refine oO ?_;refine⟨E,by omega,aj,?_⟩;rw[hx]
  conv=>whnf
  constructor<;>intro h
  .rw[gh (by rw[Lz,zK (qA h),vG])]at aa;subst aa;refine oT ?_;exact dN
  have h1:=zQ h;refine oO ?_;refine⟨E,by omega,aj,?_⟩;rw[hx]
  conv=>whnf
  constructor<;>intro h
  .rw[gh (by rw[Lz,zK (by have:=zO h;omega:60<x.up.length),Bool.or_true])]at aa;subst aa;exact gJ
  have h2:=zQ h;refine gF ?_;exact A6 [] hI z_ (eo (by rw[Lz,zL z_,zL z_];rfl)) kU
 .have cq:j=l.length:=qB h;subst cq;rw[Aff hI (yG _)]at aa;subst aa;exact gJ
def Acw{l:List StepM}(h:great33B l=false):l.length<=60/\∀x∈l,x.bytes.length<=2000/\x.up.length<=60:=by
 simp only[great33B,Lz,wG,zY,wK,yQ,zJ]at h;refine⟨by omega,λx hx=>?_⟩;have:=h.2 x hx;omega
end Go.Sy.Zaa
