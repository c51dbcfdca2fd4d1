/- Parts of a proof. -/
import Derived.Test.YtedbfemmehbeoaaGreatDoorXC4
import Derived.ProofKit
import Derived.OpenShut
set_option maxHeartbeats 4000000
set_option linter.all false
namespace Go.Sy.Zaa
open Go.Proofs Go.Proofs.Tryz
def tdiv10(n:Nat)(h:n<1000000000000000000):IntKind.i64.wrap ((n:Int).tdiv 10)=((n/10:Nat):Int):=by
 rw[vN j_,IntKind.wrap_i64];omega
def tmod10(n:Nat):(n:Int).tmod 10=((n%10:Nat):Int):=by
 rw[uE j_];omega
def dig8(n:Nat):IntKind.u8.wrap (48+((n%10:Nat):Int))=((UInt8.ofNat (48+n%10)).toNat:Int):=by
 rw[IntKind.wrap_u8];simp
def Afo(n:Nat):(Da n).reverse=(if n<10 then [] else (Da (n/10)).reverse)++[UInt8.ofNat (48+n%10)]:=by
 rw[Da.eq_1 n];split
 .rw[xN (by assumption)];rfl
 .rw[List.reverse_cons]
def Z7(l:List ByteArray)(sep:ByteArray):(Hs l sep).size<=bV l+sep.size*l.length:=by
 have:=join_le (l.map (·.data.toList)) sep.data.toList;have e:(l.map (·.data.toList)).map (·.length)=l.map (·.size):=by
  rw[tR];apply vR;intro a _;rfl
 rw[e,yS]at this;have g:(Hs l sep).size=(Lib.join (l.map (·.data.toList)) sep.data.toList).length:=by simp[Hs,ByteArray.size]
 rw[g];exact this
def A59{n:Int}(h:0<=n/\n<1000000000000000000):(I7 n).size<=19:=by
 obtain ⟨m,rfl⟩:=xK h.1;rw[I7,Dp];exact Ai4 m j_
def Aoj{n:Ai}(l:Qw n)(i:Int):(Uf n i).size<=400:=by
 rw[Uf];split
 .rename_i o;have g:i.toNat<n.c.length:=by omega
  have j:=K1 o.2 g;rw[Adb,Aj g,Aj j.1.2];have r:=l.1 _ (zI j.1.2);have t:=A59 (n:=(n.c[i.toNat]'g).z) j_;refine wI (Z7 _ _) ?_;have e:bV [(n.j[(n.c[i.toNat]'g).q.toNat]'j.1.2).name,⟨#[47]⟩,I7 (n.c[i.toNat]'g).z]=(n.j[(n.c[i.toNat]'g).q.toNat]'j.1.2).name.size+(1+((I7 (n.c[i.toNat]'g).z).size+0)):=rfl;have p:(⟨#[]⟩:ByteArray).size=0:=rfl;rw[e,p];omega
 .exact xV _
def Azm{n:Ai}(j:Qw n)(i:Int):(Bac n i).size<=700:=by
 rw[Bac];split
 .rename_i o;have g:i.toNat<n.g.length:=by omega
  have l:=aG o.2 g;rw[Cr,Aj g,Aj l.2];have p:=j.1 _ (zI l.2);have r:=j.2 _ (zI g);rw[ByteArray.size_append,ByteArray.size_append];show _+1+_<=700;omega
 .exact xV _
attribute [local irreducible]G DR
set_option maxRecDepth 20000
def any_false{k:Type}{p:k->Bool}{l:List k}{j:Nat}(g:Ic (λ_ x=>!(p x)) l j)(r:l.length<=j):l.any p=false:=by
 rw[wE];intro x o;obtain ⟨i,hi,rfl⟩:=yY.1 o;simpa using g i hi j_
def any_true{k:Type}{p:k->Bool}{l:List k}{j:Nat}(g:j<l.length)(h:p l[j]=true):l.any p=true:=wA.2 ⟨_,zI g,h⟩
def O0{P:Program}(Γ:Ty P){o:Oper}{s:SS}{t:TypeId}{g:TI}{et:TypeId}{sz p lo hi:Nat}{I:List Value}{x:Operand}{i j:Option Operand}{a:Type}{e:a->SV}{l:List a}(r:List a)(h:o.op=.slice t x i j none)(J:Γ.get t=some g)(R:g.k=.slice et sz p I)(lm:ev s x=.sl sz e l)(lj:Oa s i 0 lo)(mu:Oa s j l.length hi)(h1:lo<=hi)(h2:hi<=l.length)(hr:(l.take hi).drop lo=r):Good P o s ⟨.sl sz e r,[],[]⟩:=by
 subst hr;exact Hx Γ h J R lm lj mu h1 h2
def Anu(a:Int):Sp 363 [Aa a] (Ab false):=cT F363 ntmps363 λF g=>by
 conv=>whnf
 exact Av q_ As (zH Ab qx) q_
def Ant(a:Int):Sp 364 [B1 a] (Ab false):=cT F364 ntmps364 λF g=>by
 conv=>whnf
 exact Av q_ As (zH Ab qx) q_
def eF(a b:Int):Int:=if a<b then -1 else if a>b then 1 else 0
def Qu(a b:Int):Sp 303 [Aa a,Aa b] (Aa (eF a b)):=cT F303 ntmps303 λF g=>by
 conv=>whnf
 (repeat' (first|(refine⟨λh=>?_,λh=>?_⟩<;>(repeat (first|simp only[zK]at h|simp only[yC]at h))<;>((refine oO ?_)))|(refine Av rfl As ?_ rfl)|(refine c0 (Anu a) F363 ?_;((refine oO ?_)))|(refine c0 (Anu b) F363 ?_;((refine oO ?_);repeat((refine aF ?_);(refine oO ?_))))))
 all_goals (refine zH Aa ?_;clear g;grind [eF])
def Awh(a b:Int):Sp 304 [B1 a,B1 b] (Aa (eF a b)):=cT F304 ntmps304 λF g=>by
 conv=>whnf
 (repeat' (first|(refine⟨λh=>?_,λh=>?_⟩<;>(repeat (first|simp only[zK]at h|simp only[yC]at h))<;>((refine oO ?_)))|(refine Av rfl As ?_ rfl)|(refine c0 (Ant a) F364 ?_;((refine oO ?_)))|(refine c0 (Ant b) F364 ?_;((refine oO ?_);repeat((refine aF ?_);(refine oO ?_))))))
 all_goals (refine zH Aa ?_;clear g;grind [eF])
def orI:List Int->Int
 |[]=>0
 |x::l=>if x=0 then orI l else x
def Ai0:∀{l:List Int} {j:Nat},(∀i (h:i<l.length),i<j->l[i]=0)->orI l=orI (l.drop j)
 |l,0,_=>rfl
 |[],j+1,_=>rfl
 |x::l,j+1,h=>by
  have g:=h 0 qx j_;simp only[tX]at g;rw[orI,zE g,List.drop_succ_cons];exact Ai0 λi hi o=>h (i+1) kO j_
def orS(l:List Int)(r:At l):Sp 302 [.sl 1 Aa l] (Aa (orI l)):=cT F302 ntmps302 λF I=>by
 unfold At at r
 conv=>whnf
 refine Bb l.length (λj=>∀i (h:i<l.length),i<j->l[i]=0) (λj=>[(3,Aa 0),(6,.sl 1 Aa l),(7,Aa l.length),(8,Aa j)]) (λ_=>[]) [] (λi h o=>zW o j_) kU ?_;intro j o g;refine oO ?_
 (repeat' (first|(refine⟨λh=>?_,λh=>?_⟩<;>(repeat (first|simp only[zK]at h|simp only[yC]at h|simp only[xF]at h|simp only[bne_eq_false_iff_eq]at h))<;>((refine oO ?_)))|(refine Av rfl As ?_ rfl)|(refine⟨y_,?_⟩;((conv=>whnf)))|(refine⟨by (omega),by (omega),?_⟩;((conv=>whnf)))|(refine⟨by (unfold S2;omega),?_⟩;((conv=>whnf)))|refine A6 [] g j_ ?_ kU))
 all_goals try (refine zH Aa ?_)
 .have t:j<l.length:=by omega
  rw[Ai0 g,yK t,orI,zD (kS h)];rfl
 .intro i hi J;rcases vD i j with p|p
  .exact g i hi p
  .have:i=j:=by omega
   subst this;simpa using h
 .rw[Ai0 g,List.drop_of_length_le j_];rfl
def Zx(a b:Int)(l:List Int):decide (orI (eF a b::l)<0)=if a≠b then decide (a<b) else decide (orI l<0):=by
 rw[orI,eF];by_cases g:a<b
 .simp[g,show a≠b by omega]
 .by_cases i:a>b
  .simp[g,i,show a≠b by omega]
  .simp[show a=b by omega]
structure Vec where
 (root aj bl ac bc:Int)
def bJ(v:Vec):SV:=.agg [Aa v.root,Aa v.aj,Aa v.bl,Aa v.ac,Aa v.bc]
def Anp(a b:Vec):Bool :=
 if a.root≠b.root then decide (a.root<b.root) else if a.aj≠b.aj then decide (a.aj<b.aj) else if a.bl≠b.bl then decide (a.bl<b.bl) else
  if a.ac≠b.ac then decide (a.ac<b.ac) else decide (a.bc<b.bc)
def lessS(a b:Vec):Sp 367 [bJ a,bJ b] (Ab (Anp a b)):=cT F367 ntmps367 λF i=>by
 conv=>whnf
 (repeat' (first|(refine⟨λh=>?_,λh=>?_⟩<;>(repeat (first|simp only[yL]at h|simp only[zU]at h|simp only[zG]at h|simp only[xC]at h))<;>((refine oO ?_)))|(refine Av rfl As ?_ rfl)|(refine⟨y_,?_⟩;((conv=>whnf)))|(refine cD (Qu a.root b.root) F303 ?_;((refine rd y_ ?_);(conv=>whnf)))|(refine cD (Qu a.aj b.aj) F303 ?_;((refine rd y_ ?_);(conv=>whnf)))|(refine cD (Qu a.bl b.bl) F303 ?_;((refine rd y_ ?_);(conv=>whnf)))|(refine cD (Qu a.ac b.ac) F303 ?_;((refine rd y_ ?_);(conv=>whnf)))|(refine cD (Qu a.bc b.bc) F303 ?_;((refine rd y_ ?_);(conv=>whnf)))|(refine eH [33] (orS [eF a.root b.root,eF a.aj b.aj,eF a.bl b.bl,eF a.ac b.ac,eF a.bc b.bc] (by simp[At])) F302 rfl (.cons (.lit rfl rfl rfl) .nil) rfl y_ rfl ?_;((refine rd y_ ?_);(conv=>whnf)))))
 all_goals (refine zH Ab ?_;clear i)
 .grind [Anp]
 .rw[Zx,Zx,Zx,Zx,Zx,Anp];by_cases g:a.bc=b.bc
  .simp[g,orI]
  .simp[g]
def dD(lt:Int->Int->Bool)(x:Int):List Int->List Int
 |[]=>[x]
 |y::r=>if lt x y then y::dD lt x r else x::y::r
def Ml(lt:Int->Int->Bool)(l:List Int):List Int:=l.foldl (λr x=>dD lt x r) []
def nI(lt:Int->Int->Bool)(l:List Int):List Int:=(Ml lt l).reverse
def Aex(lt:Int->Int->Bool)(x:Int):∀r,(dD lt x r).Perm (x::r)
 |[]=>.refl _
 |y::r=>by
  rw[dD];split
  .exact((Aex lt x r).cons y).trans (.swap x y r)
  .exact .refl _
def aW(lt:Int->Int->Bool):∀(l r:List Int),(l.foldl (λr x=>dD lt x r) r).Perm (l++r)
 |[],r=>.refl _
 |x::l,r=>by
  rw[vG];refine(aW lt l _).trans ?_;refine((Aex lt x r).append_left l).trans ?_;simp
def Xj(lt:Int->Int->Bool)(l:List Int):(Ml lt l).Perm l:=by
 have:=aW lt l [];simpa [Ml] using this
def Aag(lt:Int->Int->Bool)(l:List Int):(nI lt l).Perm l:=(List.reverse_perm _).trans (Xj lt l)
def Avd(lt:Int->Int->Bool)(l:List Int)(i:Nat)(h:i<l.length):Ml lt (l.take (i+1))=dD lt l[i] (Ml lt (l.take i)):=by
 rw[zZ h,Ml,xS];rfl
mutual
theorem aA{K:List Nat}:∀x:SV,x.inn []=true->x.inn K=true
 | .ptr _ _,h=>by simp[SV.inn,Yq]at h
 | .rpt _ _ _ _,h=>by simp[SV.inn,Yq]at h
 | .osl _,h=>by simp[SV.inn,Yq]at h
 | .agg l,h=>by simp only[SV.inn]at h|-;exact dE l h
 | .tup l,h=>by simp only[SV.inn]at h|-;exact dE l h
 | .ifc _ x,h=>by simp only[SV.inn]at h|-;exact aA x h
 | .clo _ f l,h=>by simp only[SV.inn,zG]at h|-;exact⟨dE f h.1,dE l h.2⟩
 | .top,_=>rfl
 | .val _,_=>rfl
 | .sl _ _ _,_=>rfl
 | .ref _ _ _,_=>rfl
theorem dE{K:List Nat}:∀l:List SV,C7 [] l=true->C7 K l=true
 |[],_=>rfl
 |x::l,h=>by simp only[C7,zG]at h|-;exact⟨aA x h.1,dE l h.2⟩
end
def Ajr(l:List Int)(c:Int->Int->Int)(Q:Int->Prop)(f:FuncId)(first cap:List SV)(hc:(SV.clo (.func f) first cap).inn []=true)(hf:∀a b,Q a->Q b->J3 prog f (first++[Aa a,Aa b]++cap) (Aa (c a b)))(hQ:∀a∈l,Q a)(hl:At l):Sq 414 [.osl 0,Aa 0,Aa l.length,.clo (.func f) first cap] [(0,.row 1 Aa l)] (.tup []) [(0,.row 1 Aa (nI (λa b=>decide (c a b<0)) l))]:=cT F414 ntmps414 λF hF=>by
 unfold At at hl;have br:∀x y:Int,C7 [] (first++[Aa x,Aa y]++cap)=true:=λx y=>El hc rfl
 have t:(SV.clo (.func f) first cap).inn [0]=true:=aA _ hc;generalize ab:(λa b=>decide (c a b<0))=lt
 conv=>whnf
 (repeat' (refine⟨by (unfold S2;omega),?_⟩;((conv=>whnf))))
 refine Bb l.length (λ_=>True) (λj=>[(0,.osl 0),(1,Aa 0),(2,Aa l.length),(3,.clo (.func f) first cap),(8,Aa ((j:Int)+1))]) (λj=>[(0,.row 1 Aa ((Ml lt (l.take (j+1))).reverse++l.drop (j+1)))]) [] z_ ⟨⟨q_,q_,q_,q_,q_,q_,Br _,t,q_,q_,z_⟩,⟨.inl (zH (Ob.row 1 Aa) ?_),q_,z_⟩,q_,q_⟩ ?_
 .cases l with
  |nil=>rfl
  |cons a l=>simp[Ml,dD]
 intro j hj _;refine gI ?_ ?_<;>intro h
 .have dw:j+1<l.length:=qA h;have gr:l.drop (j+1)=l[j+1]::l.drop (j+1+1):=yK dw;have oq:=Avd lt l (j+1) dw;have hr:(Ml lt (l.take (j+1))).length=j+1:=by rw[(Xj lt _).length_eq];simp;omega
  have I:Q l[j+1]:=hQ _ (zI dw);have J:∀z∈Ml lt (l.take (j+1)),Q z:=λz hz=>hQ z (wK ((Xj lt _).mem_iff.1 hz))
  rw[gr];generalize l[j+1]=x at oq I;generalize Ml lt (l.take (j+1))=r at oq hr J;generalize hR:l.drop (j+1+1)=R at *;refine oO ?_;refine eW (α:={p:List Int×List Int // dD lt x r=p.2.reverse++dD lt x p.1/\p.1.length+p.2.length=j+1/\∀z∈p.1,Q z}) (λp=>[(0,.osl 0),(1,Aa 0),(2,Aa l.length),(3,.clo (.func f) first cap),(8,Aa ((j:Int)+1)),(9,Aa p.1.1.length)]) (λp=>[(0,.row 1 Aa (p.1.1.reverse++x::(p.1.2++R)))]) (λp=>p.1.1.length) ⟨(r,[]),by simp,kS hr,J⟩ []
   ⟨⟨rfl,rfl,rfl,rfl,rfl,rfl,Br _,t,rfl,rfl,zH Aa (by rw[hr];omega),rfl,trivial⟩,⟨.inl rfl,rfl,trivial⟩,rfl,rfl⟩ ?_
  rintro ⟨⟨A,B⟩,o,g,vk⟩;simp only at o g vk;dsimp only;cases A with
  |nil=>
   simp only[dD]at o
   (refine rg ?_;(conv=>whnf);refine aF ?_;refine oD ?_)
   refine⟨y_,?_⟩
   ((conv=>whnf);refine aF ?_;refine rg ?_;conv=>whnf)
   refine iW ?_;refine A6 [] z_ j_ z_ ⟨⟨q_,q_,q_,q_,q_,q_,Br _,t,zH Aa j_,q_,z_⟩,⟨.inl (zH (Ob.row 1 Aa) ?_),q_,z_⟩,q_,q_⟩;show (Ml lt (l.take (j+1+1))).reverse++l.drop (j+1+1)=[].reverse++x::(B++R);rw[oq,o,hR];simp
  |cons y A=>
   have a0:=vk y qx;refine oO ?_;refine⟨λ_=>?_,λh=>zW (zQ h) qx⟩;refine oD ?_;have e1:((y::A).reverse++x::(B++R))[(((y::A).length:Nat):Int).toNat]'qx=x:=by simp
   have e2:((y::A).reverse++x::(B++R))[((((y::A).length:Nat):Int)-1).toNat]'qx=y:=by simp
   refine⟨by omega,by simp,?_⟩
   conv=>whnf
   refine⟨q_,by simp,?_⟩;rw[e1]
   conv=>whnf
   refine⟨by unfold S2;simp at g;simp;omega,?_⟩
   conv=>whnf
   refine⟨by simp,by simp,?_⟩
   conv=>whnf
   refine⟨q_,by simp,?_⟩;rw[e2]
   conv=>whnf
   refine A1u (hf x y I a0) q_ q_ q_ (by simp only[br];rfl) y_ q_ ?_;refine gO ?_;constructor<;>intro h2
   .refine oO ?_;refine⟨by unfold S2;simp at g;simp;omega,?_⟩
    conv=>whnf
    refine⟨by unfold S2;simp at g;simp;omega,?_⟩
    conv=>whnf
    refine⟨by simp,by simp,?_⟩
    conv=>whnf
    refine⟨q_,by simp,?_⟩;rw[e2]
    conv=>whnf
    refine⟨by omega,by simp,?_⟩
    conv=>whnf
    refine⟨q_,by simp,?_⟩;rw[e1]
    conv=>whnf
    refine⟨by omega,by simp,?_⟩
    conv=>whnf
    refine⟨q_,by simp,y,q_,q_,?_⟩
    conv=>whnf
    refine⟨by simp,by simp,?_⟩
    conv=>whnf
    refine⟨q_,by simp,x,q_,q_,?_⟩
    conv=>whnf
    refine kW ?_;refine⟨by unfold S2;simp at g;simp;omega,?_⟩
    conv=>whnf
    have i:lt x y=true:=by rw[<-ab];exact h2
    refine oA (α:={p:List Int×List Int // dD lt x r=p.2.reverse++dD lt x p.1/\p.1.length+p.2.length=j+1/\∀z∈p.1,Q z}) (L:=λp=>[(0,.osl 0),(1,Aa 0),(2,Aa l.length),(3,.clo (.func f) first cap),(8,Aa ((j:Int)+1)),(9,Aa p.1.1.length)]) (O:=λp=>[(0,.row 1 Aa (p.1.1.reverse++x::(p.1.2++R)))]) (μ:=λp=>p.1.1.length) (x:=⟨(y::A,B),o,g,vk⟩)
     ⟨(A,y::B),by simp only[o,dD,i,if_true];simp,by simp at g|-;omega,λz hz=>vk z (by simp[hz])⟩ [] qx
     ⟨⟨rfl,rfl,rfl,rfl,rfl,rfl,Br _,t,rfl,rfl,zH Aa qx,rfl,trivial⟩,⟨.inl (zH (Ob.row 1 Aa) ?_),rfl,trivial⟩,rfl,rfl⟩
    simp
   .refine oO ?_;have i:lt x y=false:=by rw[<-ab];exact h2
    refine iW ?_;refine A6 [] z_ j_ z_ ⟨⟨q_,q_,q_,q_,q_,q_,Br _,t,zH Aa j_,q_,z_⟩,⟨.inl (zH (Ob.row 1 Aa) ?_),q_,z_⟩,q_,q_⟩;show (Ml lt (l.take (j+1+1))).reverse++l.drop (j+1+1)=(y::A).reverse++x::(B++R);rw[oq,o,hR,dD,i];simp
 .have h:=zQ h;have e:(Ml lt (l.take (j+1))).reverse++l.drop (j+1)=nI lt l:=by
   rw[xI j_,List.drop_of_length_le j_,yV];rfl
  rw[e];refine oO ?_;exact Bf q_ .nil [] [(0,.row 1 Aa (nI lt l))] (λ_ h=>h) q_ q_ kU
def Bek(l:List Int)(c:Int->Int->Int)(Q:Int->Prop)(f:FuncId)(first cap:List SV)(i:(SV.clo (.func f) first cap).inn []=true)(r:∀a b,Q a->Q b->J3 prog f (first++[Aa a,Aa b]++cap) (Aa (c a b)))(t:∀a∈l,Q a)(J:l.length<20):Sq 362 [.osl 0,Aa l.length,.clo (.func f) first cap] [(0,.row 1 Aa l)] (.tup []) [(0,.row 1 Aa (nI (λa b=>decide (c a b<0)) l))]:=cT F362 ntmps362 λF R=>by
 have o:(SV.clo (.func f) first cap).inn [0]=true:=aA _ i;have g:=Ajr l c Q f first cap i r t (by unfold At;omega)
 generalize nI (λa b=>decide (c a b<0)) l=l' at g
 conv=>whnf
 refine Bl 0 (λ j=>[(0,.osl 0),(1,Aa l.length),(2,.clo (.func f) first cap),(6,Aa 20),(7,Aa 0),(8,Aa 20)]) (λ _=>[(0,.row 1 Aa l)]) [] ⟨⟨q_,q_,q_,q_,Br _,o,q_,q_,q_,q_,q_,q_,z_⟩,⟨.inl q_,q_,z_⟩,q_,q_⟩ ?_;intro j p;refine oO ?_;refine⟨λ h=>zW (zO h) j_,λ _=>?_⟩;refine oO ?_;refine Al (Ad [] q_ F414 g (O5 _) ⟨q_,z_⟩ (by
  have I:C7 [0] [.osl 0,Aa 0,Aa l.length,.clo (.func f) first cap]=true:=by simp only[C7,o];rfl
  simp only[Ux,It.keys,xR,vW,I];rfl) ⟨.inl rfl,trivial⟩) rfl rfl ?_
 refine oO ?_;refine Bl 0 (λj=>[(1,Aa l.length),(6,Aa 20)]) (λ_=>[(0,.row 1 Aa l')]) [] kU ?_;clear p;intro j p;refine oO ?_;refine⟨λh=>zW (zO h) j_,λ_=>?_⟩;refine oO ?_;exact Bf q_ .nil [] [(0,.row 1 Aa l')] (λ_ h=>h) q_ q_ kU
def Asx(l:List Int)(c:Int->Int->Int)(Q:Int->Prop)(f:FuncId)(first cap:List SV)(g:(SV.clo (.func f) first cap).inn []=true)(j:∀a b,Q a->Q b->J3 prog f (first++[Aa a,Aa b]++cap) (Aa (c a b)))(o:∀a∈l,Q a)(p:l.length<20):Sq 300 [.osl 0,.clo (.func f) first cap] [(0,.row 1 Aa l)] (.tup []) [(0,.row 1 Aa (nI (λa b=>decide (c a b<0)) l))]:=cT F300 ntmps300 λF I=>by
 have r:(SV.clo (.func f) first cap).inn [0]=true:=aA _ g;have i:=Bek l c Q f first cap g j o p
 generalize nI (λa b=>decide (c a b<0)) l=l' at i
 conv=>whnf
 refine Al (Ad [] q_ F362 i (O5 _) ⟨q_,z_⟩ (by
  have t:C7 [0] [.osl 0,Aa l.length,.clo (.func f) first cap]=true:=by simp only[C7,r];rfl
  simp only[Ux,It.keys,xR,vW,t];rfl) ⟨.inl rfl,trivial⟩) rfl rfl ?_
 refine oO ?_;exact Bf q_ .nil [] [(0,.row 1 Aa l')] (λ_ h=>h) q_ q_ kU
def Al8(n:Ai)(a b:Int):Int:=orI [eF (Af n.j a).prio (Af n.j b).prio,eF (Af n.j a).an (Af n.j b).an]
def ranks1(n:Ai)(a b:Int)(i:0<=a/\a<n.j.length)(j:0<=b/\b<n.j.length):Sp 301 [Aa a,Aa b,.ref 8 (Aq n) 0] (Aa (Al8 n a b)):=cT F301 ntmps301 λF l=>by
 have g:Al8 n a b=orI [eF (n.j[a.toNat]'j_).prio (n.j[b.toNat]'j_).prio,eF (n.j[a.toNat]'j_).an (n.j[b.toNat]'j_).an]:=by
  rw[Al8,Aj j_,Aj j_]
 rw[g]
 conv=>whnf
 (repeat' (first|(refine Av rfl As ?_ rfl)|(refine⟨y_,?_⟩;((conv=>whnf)))|(refine⟨by (omega),by (omega),?_⟩;((conv=>whnf)))|(refine cD (Qu (n.j[a.toNat]'j_).prio (n.j[b.toNat]'j_).prio) F303 ?_;((refine rd y_ ?_);(conv=>whnf)))|(refine cD (Awh (n.j[a.toNat]'j_).an (n.j[b.toNat]'j_).an) F304 ?_;((refine rd y_ ?_);(conv=>whnf)))|(refine eH [28] (orS [eF (n.j[a.toNat]'j_).prio (n.j[b.toNat]'j_).prio,eF (n.j[a.toNat]'j_).an (n.j[b.toNat]'j_).an] (by simp[At])) F302 rfl (.cons (.lit rfl rfl rfl) .nil) rfl y_ rfl ?_;((refine rd y_ ?_);(conv=>whnf)))))
 all_goals rfl
def Ab9(m:Nat):List Int:=(List.range m).map λ(i:Nat)=>(i:Int)
def Ang(m:Nat):Ab9 (m+1)=Ab9 m++[(m:Int)]:=by simp[Ab9,wW]
def T7(m:Nat):(Ab9 m).length=m:=by simp[Ab9]
def Q6(g:List Int):Nat->List Int
 |0=>List.replicate g.length 0
 |j+1=>(Q6 g j).set (Af g j).toNat j
def O7(g:List Int):∀j,(Q6 g j).length=g.length
 |0=>by simp[Q6]
 |j+1=>by simp[Q6,O7 g j]
def K7(n:Ai):List Int:=nI (λa b=>decide (Al8 n a b<0)) (Ab9 n.j.length)
def Kn(n:Ai):List Int:=Q6 (K7 n) n.j.length
def ranksS(n:Ai)(J:n.Fin):Sp 228 [Aq n] (.sl 1 Aa (if Ac n then Kn n else [])):=cT F228 ntmps228 λF hF=>by
 have hl:=J.j;unfold At at hl
 conv=>whnf
 refine gF (A7 n J) F49 ?_;constructor<;>intro h
 .have h:Ac n=false:=by simpa using h
  refine oO ?_;refine Ar 2 1 Aa q_ ?_;exact Av q_ As (by rw[h];rfl) q_
 have h:Ac n=true:=kS h;have h8:n.j.length<=8:=by
  simp only[Ac,Amh,zG,zK]at h;exact h.1.1.1.1.1.1.1.1.1.1.1.1.1.1.1
 rw[h,zE rfl,Kn];refine oO ?_;refine Bi 1 8 (Aq n) q_ q_ q_ (Ct 3 1000 1 Aa q_ q_ ?_);refine Bl n.j.length (λj=>[(1,.ref 8 (Aq n) 0),(3,.osl 1000),(13,Aa n.j.length),(14,Aa j)]) (λj=>[(1000,.row 1 Aa (Ab9 j))]) [] kU ?_;intro j R;refine oO ?_;constructor<;>intro o
 .have p:j<n.j.length:=by simpa using o
  refine oO ?_;refine Al (Ah Γ.toTy 20 q_ q_ q_ q_ q_ (.row q_) (.lit (l:=[(j:Int)]) q_ q_) qx (by simp[T7];omega) (by simp[T7];omega)) q_ q_ (gG ?_);exact A9 [(1000,20)] p ⟨kA,⟨.inl (zH (Ob.row 1 Aa) (Ang j)),q_,z_⟩,q_,q_⟩
 have t:j=n.j.length:=by have:¬j<n.j.length:=(kS o);omega
 subst t;refine oO ?_;have I:=Asx (Ab9 n.j.length) (Al8 n) (λ a=>0<=a/\a<n.j.length) 301 [] [.ref 8 (Aq n) 0] rfl (λ a b r hb=>⟨⟨_,_,F301⟩,ranks1 n a b r hb⟩) (λ a r=>by
  obtain ⟨i,hi,rfl⟩:=yT.1 r;have:=xD.1 hi;omega) (by rw[T7];omega)
 have g:(K7 n).length=n.j.length:=by rw[K7,(Aag _ _).length_eq,T7]
 have gn:∀a∈K7 n,0<=a/\a<n.j.length:=λa r=>by
  have:=(Aag _ _).mem_iff.1 r;obtain ⟨i,hi,rfl⟩:=yT.1 this;have:=xD.1 hi;omega
 change Sy.Spec _ _ _ _ _ [(0,.row 1 Aa (K7 n))]at I;generalize K7 n=sl at I g gn;refine Al (Ad [(0,1000)] q_ F300 I q_ ⟨q_,z_⟩ q_ ⟨.inl q_,z_⟩) q_ q_ (oO ?_);refine Al (Cw Γ.toTy (d:=27) (n:=sl.length) Aa 0 q_ q_ q_ q_ q_ q_ q_ q_ j_ j_ q_ q_ q_) q_ q_ (oO ?_);refine Bl sl.length (λj=>[(5,.osl 27),(28,.osl 1000),(29,Aa sl.length),(30,Aa j)]) (λj=>[(1000,.row 1 Aa sl),(27,.row 1 Aa (Q6 sl j))]) [] kU ?_;clear R o;intro j R;refine oO ?_;constructor<;>intro o
 .have p:j<sl.length:=by simpa using o
  have s8:=gn _ (zI p);have fp:Af sl j=sl[j]:=Aj (kS p);have je:=O7 sl j;refine oO ?_;refine⟨by omega,by omega,?_⟩
  conv=>whnf
  refine⟨q_,by omega,?_⟩
  conv=>whnf
  refine⟨s8.1,by rw[je];exact(by omega:sl[j].toNat<sl.length),?_⟩
  conv=>whnf
  refine⟨q_,by rw[je];exact(by omega:sl[j].toNat<sl.length),(j:Int),q_,q_,?_⟩
  conv=>whnf
  refine iW ?_;exact A9 [] p ⟨kA,⟨.inl q_,q_,.inl (zH (Ob.row 1 Aa) (by rw[Q6,fp];rfl)),q_,z_⟩,q_,q_⟩
 have t:j=n.j.length:=by
  have:¬j<sl.length:=kS o;omega
 subst t;refine oO ?_;exact Ao 27 q_ dN
def Hq(n:Ai)(a b:Int):Bool :=
 if (Af n.j a).prio≠(Af n.j b).prio then decide ((Af n.j a).prio<(Af n.j b).prio) else
  if (Af n.j a).an≠(Af n.j b).an then decide ((Af n.j a).an<(Af n.j b).an) else decide (a<b)
def Yl(n:Ai):List Int:=(List.range n.j.length).map λ(i:Nat)=>(((List.range n.j.length).countP λk=>Hq n (k:Nat) i:Nat):Int)
end Go.Sy.Zaa
namespace Go.Sy.Zaa
def key_lt(n:Ai)(a b:Int):decide (Al8 n a b<0)=if (Af n.j a).prio≠(Af n.j b).prio then decide ((Af n.j a).prio<(Af n.j b).prio) else
  if (Af n.j a).an≠(Af n.j b).an then decide ((Af n.j a).an<(Af n.j b).an) else false:=by
 rw[Al8,Zx,Zx];rfl
def aO(n:Ai)(a:Int):Hq n a a=false:=by simp[Hq]
def Agr(n:Ai){a b c:Int}(g:Hq n a b=true)(i:Hq n b c=true):Hq n a c=true:=by
 unfold Hq at *;generalize Af n.j a=x at *;generalize Af n.j b=y at *;generalize Af n.j c=z at *
 grind
def Aw5(n:Ai){a b:Int}(g:Hq n a b=true):Hq n b a=false:=by
 cases h:Hq n b a with
 |false=>rfl
 |true=>have:=Agr n g h;rw[aO]at this;cases this
def Anr(n:Ai){x y:Int}(h:y<x):decide (Al8 n x y<0)=Hq n x y:=by
 rw[key_lt];unfold Hq;generalize Af n.j x=p at *;generalize Af n.j y=q at *
 grind
def Be9(n:Ai){x y:Int}(h:y<x)(g:Hq n x y=false):Hq n y x=true:=by
 unfold Hq at *;generalize Af n.j x=p at *;generalize Af n.j y=q at *
 grind
def Anv(n:Ai)(x:Int):∀(r:List Int),(∀y∈r,y<x)->r.Pairwise (λa b=>Hq n b a=true)->(dD (λa b=>decide (Al8 n a b<0)) x r).Pairwise (λa b=>Hq n b a=true)
 |[],_,_=>by simp[dD]
 |y::r,o,hp=>by
  have l:=o y qx;rw[vZ]at hp;rw[dD];split
  .rename_i i;rw[Anr n l]at i;rw[vZ];refine⟨λz g=>?_,Anv n x r (λz g=>o z (by simp[g])) hp.2⟩;rcases yH.1 ((Aex _ x r).mem_iff.1 g) with rfl|g
   .exact i
   .exact hp.1 z g
  .rename_i i;rw[Anr n l]at i;have j:=Be9 n l (kS i);rw[vZ,vZ];refine⟨λz g=>?_,hp⟩;rcases yH.1 g with rfl|g
   .exact j
   .exact Agr n (hp.1 z g) j
def Af6(n:Ai):∀m,(Ml (λa b=>decide (Al8 n a b<0)) (Ab9 m)).Pairwise (λa b=>Hq n b a=true)
 |0=>by simp[Ml,Ab9]
 |m+1=>by
  rw[Ang,Ml,xS];refine Anv n m _ (λy g=>?_) (Af6 n m);have:=(Xj _ _).mem_iff.1 g;obtain ⟨i,hi,rfl⟩:=yT.1 this;have:=xD.1 hi;omega
def Aee(n:Ai):(K7 n).Pairwise (λa b=>Hq n a b=true):=by
 rw[K7,nI,List.pairwise_reverse];exact Af6 n _
def Apu(n:Ai):(K7 n).Perm (Ab9 n.j.length):=Aag _ _
def Awg(n:Ai){l:List Int}(hp:l.Pairwise (λa b=>Hq n a b=true))(r:Nat)(g:r<l.length):l.countP (λk=>Hq n k l[r])=r:=by
 have o:l=l.take r++l[r]::l.drop (r+1):=by
  rw[<-yK g,List.take_append_drop]
 have p:(l.take r).countP (λk=>Hq n k l[r])=r:=by
  rw[List.countP_eq_length.2 (λk j=>?_),zY]
  .omega
  .obtain ⟨i,hi,rfl⟩:=yY.1 j;simp only[zY]at hi;rw[wN];exact vQ.1 hp i r j_ g j_
 have t:(l.drop (r+1)).countP (λk=>Hq n k l[r])=0:=by
  rw[List.countP_eq_zero];intro k j;obtain ⟨i,hi,rfl⟩:=yY.1 j;simp only[yP]at hi;rw[vS];have:=vQ.1 hp r (r+1+i) g j_ j_;simp[Aw5 n this]
 calc l.countP (λk=>Hq n k l[r])=(l.take r++l[r]::l.drop (r+1)).countP (λk=>Hq n k l[r]):=zH _ o
  _=r:=by rw[List.countP_append,List.countP_cons,p,t,aO];simp
def Abz(L:List Int)(o:L.Nodup)(hm:∀a∈L,0<=a/\a<L.length):∀(j:Nat),j<=L.length->∀(r:Nat) (g:r<L.length),r<j->(Q6 L j)[L[r].toNat]? = some (r:Int)
 |0,_,r,_,h=>by omega
 |j+1,R,r,g,h=>by
  have I:=hm _ (zI g);have p:=O7 L j;have J:Af L (j:Int)=L[j]:=Aj kO;rw[Q6,J,tE];split
  .rename_i t;have s8:=hm _ (zI (show j<L.length by omega));have l:L[j]=L[r]:=by omega
   have:j=r:=by
    have:=(List.getElem_inj (i:=j) (j:=r) (h₀:=by omega) (h₁:=g) o).1 l;exact this
   subst this;rw[zE j_]
  .rename_i t;have ag:r≠j:=λe=>t (by subst e;rfl)
   exact Abz L o hm j j_ r g j_
def Azw(m:Nat):(Ab9 m).Nodup:=by
 rw[Ab9];exact List.Pairwise.map _ (λ(a b:Nat) (h:a≠b)=>by intro e;exact h j_) List.nodup_range
def Atl(n:Ai):Kn n=Yl n:=by
 have hp:=Apu n;have j:(K7 n).length=n.j.length:=by rw[hp.length_eq,T7]
 have t:(K7 n).Nodup:=hp.nodup_iff.2 (Azw _);have hm:∀a∈K7 n,0<=a/\a<(K7 n).length:=λa I=>by
  obtain ⟨i,hi,rfl⟩:=yT.1 (hp.mem_iff.1 I);have:=xD.1 hi;omega
 refine List.ext_getElem? λi=>?_
 rcases vD i n.j.length with hi|hi
 .have J:(i:Int)∈K7 n:=hp.mem_iff.2 (yT.2 ⟨i,xD.2 hi,rfl⟩);obtain ⟨r,l,o⟩:=yY.1 J;have g:=Abz (K7 n) t hm n.j.length j_ r l j_;rw[o]at g;have p:=Awg n (Aee n) r l;rw[o,hp.countP_eq]at p;rw[Kn,Yl,wX,uG hi];simp only[yA]at g;rw[g];simp only[vO];congr 2;rw[<-p,Ab9,List.countP_map];rfl
 .rw[wZ,wZ]
  .simp[Yl];omega
  .rw[Kn,O7];omega
def G_vw{C:Cx}{k:List KI}{s:SS}(d:Nat)(x:SV)(h:Vw s [] (s.σ d) x)(j:G C k ⟨upd s.σ d x,s.h⟩):G C k s:=λb a w g=>
 j b a w ⟨g.defers,g.size,g.inv,g.ctx,λ i=>by
  show Rd b w (upd s.σ d x i) _;by_cases hi:i=d
  .subst hi;rw[C2];exact Vw.rd g.inv (λ_ l=>by cases l) h (g.ax i)
  .rw[D7 _ _ hi];exact g.ax i,g.obj⟩
open Go.Proofs Go.Proofs.Tryz
attribute [local irreducible]G DR
set_option maxRecDepth 20000
def M9(p:D4):Bool:=decide (p.aj<1)||decide (p.aj>65535)
def costs1(p:D4):Sp 299 [Bm p] (Ab (M9 p)):=cT F299 ntmps299 λF g=>by
 conv=>whnf
 (repeat' (first|(refine⟨λh=>?_,λh=>?_⟩<;>(repeat (first|simp only[zK]at h|simp only[yC]at h))<;>((refine oO ?_)))|(refine Av rfl As ?_ rfl)))
 all_goals (refine zH Ab ?_;clear g;grind [M9])
def Aau(l:List D4)(p:D4->Bool)(f:FuncId)(first cap:List SV)(g:(SV.clo (.func f) first cap).inn []=true)(i:∀x∈l,J3 prog f (first++[Bm x]++cap) (Ab (p x)))(j:At l):Sp 298 [.sl 7 Bm l,.clo (.func f) first cap] (Ab (l.any p)):=cT F298 ntmps298 λF r=>by
 have o:C7 [] [.sl 7 Bm l,.clo (.func f) first cap]=true:=by simp only[C7,g];rfl
 conv=>whnf
 refine U3 (Ut l p f first cap g i j) F125 q_ q_ (by simp only[o];rfl) q_ q_ (oO ?_);exact Av q_ As (zH Ab (Mr _ _).symm) q_
def Hj(n:Ai):Bool:=!(n.g.any M9)
def Bc2(n:Ai)(g:At n.g):Sp 227 [Aq n] (Ab (Hj n)):=cT F227 ntmps227 λF i=>by
 conv=>whnf
 refine gF (Aau n.g M9 299 [] [] q_ (λx _=>⟨⟨_,_,F299⟩,costs1 x⟩) g) F298 ?_;exact dN
def Tf(n:Ai):Bool :=
 decide (200<n.j.length)||decide (200<n.g.length)||decide (200<n.x.length)||decide (200<n.c.length)||decide (200<n.ab.length)||decide (200<n.y.length)||decide (200<n.ag.length)||decide (200<n.r.length) ||
  n.g.any (λp=>decide (100<p.u.length))||n.c.any (λd=>decide (100<d.ae.length))||n.y.any (λf=>decide (100<f.aa.length))||n.ag.any (λv=>decide (100<v.ak.length)||decide (100<v.am.length))
set_option maxRecDepth 100000
def Ce{k:Type}{l:List k}{i:Nat}{d:k}(h:i<l.length):l.getD i d=l[i]:=by simp[List.getD,h]
def Zq{n:Ai}(h:Ac n=true){i:Nat}(hi:i<n.g.length):Qj n i n.g[i]=true:=by
 simp only[Ac,zG]at h;exact Cm.1 h.1.1.1.1.1.2 i hi
def Aih{n:Ai}(h:Ac n=true){i:Nat}(hi:i<n.x.length):aU n i n.x[i]=true:=by
 simp only[Ac,zG]at h;exact Cm.1 h.1.1.1.1.2 i hi
def Lz{n:Ai}(h:Ac n=true):n.j.length<=8/\n.g.length<=40/\n.x.length<=20:=by
 simp only[Ac,Amh,zG,zK]at h;omega
def fF{n:Ai}(h:Ac n=true){i:Nat}(hi:i<n.g.length):n.g[i].ah=-1\/(0<=n.g[i].ah/\n.g[i].ah<n.x.length):=by
 have:=Zq h hi;simp only[Qj,Am,zG,yR,yL,zK]at this;rcases this.2 with g|g
 .exact .inl g
 .exact .inr g.1
def cP{n:Ai}(h:Ac n=true){i:Nat}(hi:i<n.g.length):0<=n.g[i].q/\n.g[i].q<n.j.length:=by
 have:=Zq h hi;simp only[Qj,Am,zG,zK]at this;exact this.1.1.1.1.1.1.1.1
def Yt{n:Ai}(h:Ac n=true){i:Nat}(hi:i<n.x.length):(0<=n.x[i].a/\n.x[i].a<n.g.length)/\0<=n.x[i].b/\n.x[i].b<n.g.length:=by
 have:=Aih h hi;simp only[aU,Am,zG,zK]at this;exact⟨this.1.1.1.1,this.1.1.1.2⟩
def Mh(n:Ai)(i:Nat):Int:=(Af n.g i).q
def Ab4(n:Ai)(i:Nat):Int:=(Af n.g i).aj
def At0{n:Ai}(g:Hj n=true){i:Nat}(hi:i<n.g.length):1<=Ab4 n i/\Ab4 n i<=65535:=by
 rw[Ab4,Aj (l:=n.g) (i:=(i:Int)) (kS hi)];simp only[Hj,xH,wE]at g;have:=g _ (zI hi);simp only[M9,yR,zK,vY]at this;simp only[yA];omega
def Bcu(d:A0):SV:=.agg [Aa d.q,Aa d.z,Aa d.ao,Aa d.ar,Aa d.row,Jl]
def A7u{M:Nat->Prop}{w:World}(p:A0)(hp:p.ae=[]){v:Value}(h:D3 M w (Bcu p) v):D3 M w (Ax p) v:=by
 simp only[Bcu,Ax,D3,Uz,hp]at h|-;obtain ⟨cs,r,t,v0,I,J,R,v1,r1,h5,h6,v2,r2,h7,h8,v3,r3,h9,iz,v4,r4,g,i,v5,r5,j,l,o⟩:=h;exact⟨cs,r,t,v0,I,J,R,v1,r1,h5,h6,v2,r2,h7,h8,v3,r3,h9,iz,v4,r4,g,i,v5,r5,j,.inl ⟨z_,none,0,l⟩,o⟩
end Go.Sy.Zaa
namespace Go.Sy
def Aq6(w:World){b:Nat}{cs:Array Value}{T:TypeId}{g:Nat×Nat}(h:w.heap[b]? = some (.cells cs T g))(n:Nat):(w.freeze ⟨b,n,none⟩ 1).heap[b]? = some (.cells cs T (if g.1==g.2 then (n,n+1) else (min g.1 n,max g.2 (n+1))))/\(w.freeze ⟨b,n,none⟩ 1).os=w.os/\(w.freeze ⟨b,n,none⟩ 1).tape=w.tape/\(w.freeze ⟨b,n,none⟩ 1).output=w.output /\
   (w.freeze ⟨b,n,none⟩ 1).heap.size=w.heap.size/\∀i,i≠b->(w.freeze ⟨b,n,none⟩ 1).heap[i]? = w.heap[i]?:=by
 unfold World.freeze;rw[zD qq];refine⟨?_,q_,q_,q_,by simp,λi hi=>?_⟩
 .simp[Array.getElem?_modify,h]
 .simp[Array.getElem?_modify,Ne.symm hi]
def Acz{P:Program}(Γ:Ty P){o:Oper}{s:SS}{t:TypeId}{r I:TI}{x:Operand}{et:TypeId}{sz eb k:Nat}{ez:List Value}{g:List SV}(h:o.op=.convert t t x)(ht:Γ.get t=some r)(hk:r.k=.slice et sz eb ez)(he:Γ.get et=some I)(w7:I.k=.int .u8)(j:ev s x=.osl k)(hl:s.h k=.lit sz g):Good P o s ⟨.osl k,[],[(k,.lit sz g)]⟩:=by
 intro m a w hi hr ho N Q hN;have l:=hr x (by simp[h,Op.operands]);have J:=ho k (.inr (by simp[Up.ws]));rw[hl]at J;rw[j]at l;obtain ⟨b,cap,cs,T,fr,f1,f2,f3,f4,f5,f6⟩:=J;simp only[Rd,f1]at l;obtain ⟨hu,_⟩:=Di Γ ht hk;have xb:=Aew Γ he w7;obtain ⟨q1,q2,q3,q4,q5,q6⟩:=Aq6 w f2 cs.length;have kr:w.shape? b=some (T,cs.length):=by
  unfold World.shape?;rw[f2];simp
 have an:(execOp a.eval o).run P w=.ok (.value (.slice (some ⟨b,0,none⟩) g.length cap)) (w.freeze ⟨b,cs.length,none⟩ 1):=by
  simp[execOp,h,l,convert,run_underlying hu,run_underlying xb,markStringish,kr]
 simp only[Oper.wp,an,Oper.upon];obtain ⟨st,inv⟩:=Vx hi (k:=k) (b:=b) (by rw[f1];rfl) q2 q3 q4 q5 q6;refine hN _ m _ (st.weaken (by simp[Up.ws])) inv (by simp[Rd,f1]) (λp hp=>?_);simp only[zX]at hp;subst hp;refine⟨b,cap,cs,T,_,f1,q1,?_,f4,f5,λi x j=>?_⟩
 .rcases f3 with R|R
  .rw[zE (kS R)];exact .inr (yG _)
  .split
   .exact .inr (yG _)
   .exact .inr (by simp only;omega)
 obtain ⟨g0,u,g1,g2,g3,g4⟩:=f6 i x j;exact⟨g0,u,D3.keep st.keeps _ _ g1,g2,g3,g4⟩
open Go.ChangeShapes Go.WideShapes Go.ChangeAt Go.RowKit
def k0:Ka:=⟨λ_=>.new,λ_=>False⟩
def A0q(w:World):Inv k0 w :=
 ⟨λi j b h=>(by cases h),λk b h=>(by cases h),λk b h=>(by cases h),λb h=>False.elim h⟩
def Adn{w w':World}{k':Ka}(c:bG ⟨w,k0,[]⟩ k' w'):Below w.heap.size w w' :=
 ⟨c.os,c.tape,c.output,c.size,λk g=>c.ci k g (λj h=>by cases h)⟩
section
variable {H:Type} {fh:TypeId×Value->H} {P:Program}
theorem lN{W j:World}(l:laidOutB P=true)(o:Below W.heap.size W j):∀{g:List TypeId} {vs:List Value} {ds:List (DataW H)} {ps:List MemPlace},(∀t∈g,P.readableRec t=true/\t<P.types.size) ->
  (∀x∈ps,x.block<W.heap.size)->DataW.TrodAll fh P W 0 (λ_=>true) true g vs ds ps->DataW.TrodAll fh P j 0 (λb=>decide (b<W.heap.size)) true g vs ds ps
 |[],_,_,_,_,_,h=>by
  obtain ⟨rfl,rfl,rfl⟩:=trodAll_nil h;rfl
 |t::g,_,_,_,r,hp,h=>by
  obtain ⟨v,vs,d,ds,p,q,rfl,rfl,rfl,I,J⟩:=trodAll_cons h;have:=r t qx;exact⟨p,q,Below.trod l this.1 this.2 I o (λx i=>hp x (by simp[i])),lN l o (λt h=>r t (by simp[h])) (λx i=>hp x (by simp[i])) J,q_⟩
end
end Go.Sy
namespace Go.Sy.Zaa
open Go.Proofs Go.Proofs.Tryz
attribute [local irreducible]G DR
set_option maxRecDepth 100000
def A9v(i:Int)(g:0<=i)(j:i<=5):Sp 76 [Aa i] (B1 (8*(5-i))):=cT F76 ntmps76 λF l=>by
 conv=>whnf
 refine iW ?_;refine iW ?_;refine Av q_ As (zH (λz=>SV.val (.int .u64 z)) ?_) q_;rw[IntKind.wrap_u64];omega
def be:Nat->Nat->List UInt8
 |0,_=>[]
 |k+1,m=>UInt8.ofNat (m/256^k)::be k m
def E2(m:Nat):∀k,(be k m).length=k
 |0=>rfl
 |k+1=>by simp[be,E2 m k]
def Arx(m:Nat):∀(k j:Nat) (_h:j<k),(be k m).take (j+1)=(be k m).take j++[UInt8.ofNat (m/256^(k-1-j))]
 |0,j,h=>by omega
 |k+1,0,h=>by simp[be]
 |k+1,j+1,h=>by
  have:=Arx m k j j_;simp only[be,List.take_succ_cons,wF,this];rw[show k+1-1-(j+1)=k-1-j by omega]
def As1(m k:Nat)(j:k<=7):IntKind.u8.wrap ((m:Int).fdiv (2^(min (8*(k:Int)).toNat IntKind.u64.bits)))=((UInt8.ofNat (m/256^k)).toNat:Int):=by
 have g:min (8*(k:Int)).toNat IntKind.u64.bits=8*k:=by simp[IntKind.bits];omega
 rw[g,wM _ (by exact Int.pow_nonneg qq),IntKind.wrap_u8];have i:(2:Int)^(8*k)=((256^k:Nat):Int):=by rw[Int.pow_mul];simp
 rw[i];simp
def put2(l:List UInt8)(i:l.length<1000000)(m:Nat):Sq 40 [.osl 0,B1 m] [(0,.row 1 Ae l)] (.osl 1) [(0,.non),(1,.row 1 Ae (l++be 6 m))]:=cT F40 ntmps40 λF o=>by
 conv=>whnf
 refine A2b 0 1 [0] q_ q_ qq (by simp;rfl) ?_;refine Bl 6 (λj=>[(0,.osl 1),(1,B1 m),(6,Aa j)]) (λj=>[(0,.non),(1,.row 1 Ae (l++(be 6 m).take j))]) [(0,0),(1,1)] ⟨kA,⟨.inl q_,q_,.inl (zH (Ob.row 1 Ae) (yV l)),q_,z_⟩,q_,q_⟩ ?_;intro j p;refine gI ?_ ?_<;>intro h
 .have g:j<6:=qA h;refine oO ?_;refine gF (A9v j j_ j_) F76 ?_;refine⟨by omega,?_⟩
  conv=>whnf
  refine Al (Ah Γ.toTy 16 q_ q_ q_ q_ q_ (.row q_) (.lit (l:=[UInt8.ofNat (m/256^(5-j))]) q_ ?_) qx ?_ ?_) q_ q_ ?_
  .have:=As1 m (5-j) j_;rw[show ((5-j:Nat):Int)=5-(j:Int) by omega]at this;simp only[xR,vW,Ae,<-this]
  .simp[E2];omega
  .simp[E2];omega
  refine gG ?_;exact A9 [(0,0),(1,16)] g ⟨kA,⟨.inl q_,q_,.inl (zH (Ob.row 1 Ae) (by rw[Arx _ _ _ g,yW])),q_,z_⟩,q_,q_⟩
 .have:j=6:=qB h;subst this;refine oO ?_;exact done q_ As [(0,0),(1,1)] _ (λ_ h=>h) q_ q_ kU
def put2n(m:Nat):Sq 40 [Jl,B1 m] [] (.osl 0) [(0,.row 1 Ae (be 6 m))]:=cT F40 ntmps40 λF i=>by
 conv=>whnf
 refine Ct 0 1000 1 Ae q_ q_ ?_;refine Bl 6 (λj=>[(0,.osl 1000),(1,B1 m),(6,Aa j)]) (λj=>[(1000,.row 1 Ae ((be 6 m).take j))]) [] kU ?_;intro j o;refine gI ?_ ?_<;>intro h
 .have g:j<6:=qA h;refine oO ?_;refine gF (A9v j j_ j_) F76 ?_;refine⟨by omega,?_⟩
  conv=>whnf
  refine Al (Ah Γ.toTy 16 q_ q_ q_ q_ q_ (.row q_) (.lit (l:=[UInt8.ofNat (m/256^(5-j))]) q_ ?_) qx ?_ ?_) q_ q_ ?_
  .have:=As1 m (5-j) j_;rw[show ((5-j:Nat):Int)=5-(j:Int) by omega]at this;simp only[xR,vW,Ae,<-this]
  .simp[E2];omega
  .simp[E2];omega
  refine gG ?_;exact A9 [(1000,16)] g ⟨kA,⟨.inl (zH (Ob.row 1 Ae) (Arx _ _ _ g)),q_,z_⟩,q_,q_⟩
 .have:j=6:=qB h;subst this;refine oO ?_;exact done q_ As [(0,1000)] _ (λ_ h=>h) q_ q_ kU
def Bck(d s:Nat)(t:Int)(body:List UInt8):SV:=.agg [B1 d,B1 s,Aa t,.sl 1 Ae body]
def frame(d s t:Nat)(body:List UInt8):List UInt8:=be 6 d++be 6 s++[UInt8.ofNat (t/256),UInt8.ofNat t]++body
def Mz(t:Nat):[UInt8.ofNat (t/256),UInt8.ofNat t].map Ae=[SV.val (.int .u8 (IntKind.u8.wrap ((t:Int).fdiv (2^(min (Int.toNat 8) IntKind.i64.bits))))),SV.val (.int .u8 (IntKind.u8.wrap (t:Int)))]:=by
 have g:IntKind.u8.wrap ((t:Int).fdiv (2^(min (Int.toNat 8) IntKind.i64.bits)))=((UInt8.ofNat (t/256)).toNat:Int):=by
  show IntKind.u8.wrap ((t:Int).fdiv 256)=_;rw[wM _ qq,IntKind.wrap_u8];simp
 have i:IntKind.u8.wrap (t:Int)=((UInt8.ofNat t).toNat:Int):=by
  rw[IntKind.wrap_u8];simp
 rw[g,i];rfl
def Av3(d s t:Nat)(body:List UInt8)(g:d<281474976710656)(i:s<281474976710656)(j:t<=65535)(o:body.length<=1504):Sq 19 [Bck d s t body] [] (.tup [.osl 0,Aa 0]) [(0,.row 1 Ae (frame d s t body))]:=cT F19 ntmps19 λF p=>by
 conv=>whnf
 refine⟨λh=>zW (zO h) j_,λ_=>?_⟩;refine oO ?_;refine⟨λh=>zW (zO h) j_,λ_=>?_⟩;refine oF ?_;refine⟨λh=>zW (zO h) j_,λ_=>?_⟩;refine oO ?_;refine⟨λh=>zW (zO h) j_,λ_=>?_⟩;refine oO ?_;refine C6 (Ad [(0,31)] q_ F40 (put2n d) q_ z_ q_ ⟨.inr q_,z_⟩) y_ q_ (oD ?_);refine C6 (Ad [(0,31),(1,34)] q_ F40 (put2 (be 6 d) (by simp[E2]) s) q_ ⟨q_,z_⟩ q_ kB) y_ q_ (gO ?_);refine⟨by decide,?_⟩
 conv=>whnf
 refine C6 (Ah Γ.toTy 44 q_ q_ q_ q_ q_ (.row q_) (.lit (l:=[UInt8.ofNat (t/256),UInt8.ofNat t]) q_ (Mz t)) qq ?_ ?_) y_ q_ ?_
 .simp[E2]
 .simp[E2]
 refine oD ?_;refine C6 (Ah Γ.toTy 47 q_ q_ q_ q_ q_ (.row q_) .sl qq ?_ ?_) y_ q_ ?_
 .simp[E2];omega
 .simp[E2];omega
 refine gO ?_;exact done q_ (.cons .tmp As) [(0,47)] _ (λ_ h=>h) q_ q_ kU
end Go.Sy.Zaa
namespace Go.Sy.Zaa
structure Bg where
 dst:Nat
 src:Nat
 au:Nat
 body:List UInt8
def Ek(f:Bg):SV:=Bck f.dst f.src f.au f.body
structure B7 where
 kind:Int
 ac:Int
 l:Int
 az:Int
 bytes:List UInt8
 up:List Bool
def Dm(x:B7):SV:=.agg [Aa x.kind,Aa x.ac,Aa x.l,Aa x.az,.sl 1 Ae x.bytes,.sl 1 Ab x.up]
structure Kt where
 ac:Int
 ad:Int
 bytes:List UInt8
def Im(x:Kt):SV:=.agg [Aa x.ac,Aa x.ad,.sl 1 Ae x.bytes]
def I4(g:Int):Nat:=2199023255552+g.toNat
def I0(a bits:Int):Int:=if 0<=bits/\bits<=32 then a-a%2^(32-bits).toNat else 0
def Ls(n:Nat):Nat:=if n=0 then 0 else (n-1)%65535+1
open Go.Proofs Go.Proofs.Tryz
attribute [local irreducible]G DR
structure Bx(Q:Prop):Prop where out:Q
def sE{k:Sort _}{a b:k}{K:Prop}(e:a=b)(h:K):a=b/\K:=⟨e,h⟩
def xE{k:Sort _}{a b:k}{K:a=b->Prop}(e:a=b)(h:K e):∃e:a=b,K e:=⟨e,h⟩
def sL{a b:Int}{K:Prop}(e:a<=b)(h:K):a<=b/\K:=⟨e,h⟩
def xL{a b:Int}{K:a<=b->Prop}(e:a<=b)(h:K e):∃e:a<=b,K e:=⟨e,h⟩
def sM{a b:Nat}{K:Prop}(e:a<=b)(h:K):a<=b/\K:=⟨e,h⟩
def sT{a b:Nat}{K:Prop}(e:a<b)(h:K):a<b/\K:=⟨e,h⟩
def xT{a b:Nat}{K:a<b->Prop}(e:a<b)(h:K e):∃e:a<b,K e:=⟨e,h⟩
def sN{a b:Int}{K:Prop}(e:a≠b)(h:K):a≠b/\K:=⟨e,h⟩
def sI{a:Int}{K:Prop}(e:S2 a)(h:K):S2 a/\K:=⟨e,h⟩
def ct{p q:Prop}{b:Bool}(h:q)(e:b=true->False:=by
 intro _h
 first | exact zW _h qq | exact tS (Eq.trans (Eq.symm (by with_reducible assumption)) _h) | (simp at _h;done) | (simp at _h;omega)):(b=true->p)/\(b=false->q):=⟨λ x=>(e x).elim,λ _=>h⟩
def cf{p q:Prop}{b:Bool}(h:p)(e:b=false->False:=by
 intro _h
 first | exact zW _h qq | exact tS (Eq.trans (Eq.symm _h) (by with_reducible assumption)) | (simp at _h;done) | (simp at _h;omega)):(b=true->p)/\(b=false->q):=⟨λ _=>h,λ x=>(e x).elim⟩
def S{P Q:Prop}(h:Q)(e:Bx Q->P:=by
 intro g
 first|refine rg ?_|refine rd y_ ?_|skip
 conv=>whnf
 repeat (first
  |((first|refine aF ?_|refine aT ?_|refine ct ?_|refine cf ?_);(first|refine rg ?_|refine rd y_ ?_);(conv=>whnf))
  | ((first | refine⟨(by kernel_rfl:Arg _ _=true),?_⟩ | refine sI (by unfold S2;omega) ?_);(conv=>whnf)))
 exact g.out):P:=e ⟨h⟩
def T{P Q:Prop}(h:Q)(e:Bx Q->P:=by
 intro g;refine S ?_
 repeat ((first|refine sE (by exact rfl) ?_|refine sL (by first|omega|decide) ?_|refine xL (by first|omega|decide) ?_|refine sT (by first|omega|decide) ?_|refine xT (by first|omega|decide) ?_|refine sM (by first|omega|decide) ?_|refine sN (by first|omega|decide) ?_|refine xE (by exact rfl) ?_);refine S ?_)
 exact g.out):P:=e ⟨h⟩
def D{P:Prop}(h:P:=by
 apply Av
 .exact q_
 ·(repeat (first|exact S1.nil|(apply S1.cons;(first|exact .tmp|exact .cell rfl rfl rfl rfl))))
 .exact q_
 .exact q_):P:=h
def U{P:Prop}(h:P:=by
 refine⟨?_,?_,q_,q_⟩
 .repeat (first|exact trivial|exact rfl|refine⟨rfl,rfl,?_⟩)
 .repeat (first | exact trivial | refine⟨.inl rfl,rfl,?_⟩ | refine⟨.inr rfl,rfl,?_⟩)):P:=h
def Bct{P:Program}{fn:Func}{F:Fr}{R:SV}{g:It}{Γ:Go.Sy.Ty P}{n:Nat}{j:List Nat}{i:∀k,F.k0 k≠.new->k∈j}{k:List KI}{s:SS}{l:List ResultVar}(o:fn.results=l.toArray){xs:List SV}(p:S1 Γ.get s l xs)(r:R.ren (Bs [])=comb xs)(t:R.inn (It.keys g)=true)(I:Sub ⟨P,Γ,F,n,lK P fn F R g,j,i⟩ s [] [] g):G ⟨P,Γ,F,n,lK P fn F R g,j,i⟩ (.code .ret::k) s:=done o p [] g (λ_ h=>h) r t I
def doneF{P:Program}{fn:Func}{F:Fr}{R:SV}{g:It}{Γ:Go.Sy.Ty P}{n:Nat}{j:List Nat}{i:∀k,F.k0 k≠.new->k∈j}{s:SS}{l:List ResultVar}(o:fn.results=l.toArray){xs:List SV}(p:S1 Γ.get s l xs)(r:R.ren (Bs [])=comb xs)(t:R.inn (It.keys g)=true)(I:Sub ⟨P,Γ,F,n,lK P fn F R g,j,i⟩ s [] [] g):G ⟨P,Γ,F,n,lK P fn F R g,j,i⟩ [] s:=Bf o p [] g (λ_ h=>h) r t I
def E0{P:Prop}(h:P:=by
 first|apply Bct|apply doneF
 .exact q_
 ·(repeat (first|exact S1.nil|(apply S1.cons;(first|exact .tmp|exact .cell rfl rfl rfl rfl))))
 .exact q_
 .exact q_
 .exact U):P:=h
def W{P:Prop}(h:P:=by
 repeat (first | exact trivial | exact rfl | refine⟨rfl,?_⟩)):P:=h
def V{P:Prop}(h:P:=by
 repeat (first | exact trivial | refine⟨.inl rfl,?_⟩ | refine⟨.inr rfl,?_⟩)):P:=h
def C{P:Program}{f:FuncId}{fn:Func}{c:Code}{A:List SV}{R:SV}{Z Q:Prop}(g:Sy.Spec P f A [] R [])(i:Fun P f fn c)(h:Q)(e:Sy.Spec P f A [] R []->Fun P f fn c->Bx Q->Z:=by
 intro g i j
 first|refine U3 g i rfl rfl rfl rfl rfl ?_|refine Bc5 g i rfl rfl rfl y_ rfl ?_
 refine T ?_;exact j.out):Z:=e g i ⟨h⟩
def X{C:Cx}{k:List KI}{s:SS}{all:Array Oper}{o:Oper}{g:List Oper}{V:Up}{Q:Prop}(i:Good C.P o s V)(h:Q)(j:eC C.n o=true:=by exact rfl)(l:Jg C.n all o s=some true:=by exact rfl)(e:Bx Q->G C (.ops all g::k) (s.upd o.dst V):=by
 intro p;refine T ?_;exact p.out):G C (.ops all (o::g)::k) s:=Al i j l (e ⟨h⟩)
def Xd{C:Cx}{k:List KI}{s:SS}{all:Array Oper}{done:List Tu}{o:Oper}{g:List Oper}{V:Up}{Q:Prop}(i:Good C.P o s V)(h:Q)(hi:all[done.length]? = some o:=by kernel_rfl)(j:Jg C.n all o s=some true:=by exact rfl)(l:(Qn o || X8 o)=false:=by exact rfl)(e:Bx Q->DR C k all (done++[⟨done.length,o,V,true⟩]) g (s.upd o.dst V):=by
 intro p;refine T ?_;exact p.out):DR C k all done (o::g) s:=C6 i hi j (e ⟨h⟩) l
def Xe{C:Cx}{k:List KI}{s:SS}{all:Array Oper}{done:List Tu}{o:Oper}{g:List Oper}{V:Up}{Q:Prop}(i:Good C.P o s V)(h:Q)(j:Apc s V.bp:=by exact W)(hi:all[done.length]? = some o:=by kernel_rfl)(l:Jg C.n all o s=some true:=by exact rfl)(p:(Qn o || X8 o)=false:=by exact rfl)(e:Bx Q->DR C k all (done++[⟨done.length,o,⟨V.v,V.rd++V.ws,[]⟩,true⟩]) g (s.upd o.dst ⟨V.v,V.rd++V.ws,[]⟩):=by
 intro r;refine T ?_;exact r.out):DR C k all done (o::g) s:=stepD2 i j hi l (e ⟨h⟩) p
def gA{P:Prop}(e:P:=by refine T ?_;exact D):P:=e
def gB{j F0 S1 F1 P Q:Prop}(g:j)(t0:F0)(i:S1)(t1:F1)(h:Q)(e:j->F0->S1->F1->Bx Q->P:=by intro g t0 i t1 b;refine T ?_;refine C g t0 ?_;refine C i t1 ?_;exact b.out):P:=e g t0 i t1 ⟨h⟩
def gD{i F0 P Q:Prop}(g:i)(t0:F0)(h:Q)(e:i->F0->Bx Q->P:=by intro g t0 b;refine T ?_;refine C g t0 ?_;exact b.out):P:=e g t0 ⟨h⟩
def gN{j F0 S1 F1 P Q:Prop}(g:j)(t0:F0)(i:S1)(t1:F1)(h:Q)(e:j->F0->S1->F1->Bx Q->P:=by intro g t0 i t1 b;refine C g t0 ?_;refine C i t1 ?_;exact b.out):P:=e g t0 i t1 ⟨h⟩
def gP{P Q R:Prop}(h:Q)(k:R)(e:Bx (Q/\R)->P:=by intro b;refine T ?_;exact b.out):P:=e ⟨⟨h,k⟩⟩
end Go.Sy.Zaa
namespace Go.Sy
def Uu{P:Program}(Γ:Ty P){o:Oper}{s:SS}{t:TypeId}{p:TI}{et:TypeId}{len j sz g:Nat}{y:Operand}{J:IntKind}{n:Int}{z:SV}(k:Nat)(h:o.op=.indexAddr t (.global g) y)(R:Γ.get t=some p)(hk:p.k=.array et len j)(hb:s.h k=.glob sz z g)(hy:ev s y=.val (.int J n))(h0:0<=n)(hn:n.toNat<len):Good P o s ⟨.ref sz z (n.toNat*j),[k],[]⟩ :=
 Good.pure λm a w _ hr ho=>by
  have l:=ho k qx;have r:=hr y (by simp[h,Op.operands]);rw[hb]at l;rw[hy]at r;simp only[B3,Rd,D3]at l;obtain ⟨b,oo,u,I,e2,e3,e4,e5⟩:=l;obtain ⟨hu,i,q1,q2⟩:=eP Γ R hk;simp only[uO,Value.pointer.injEq,Option.some.injEq,Addr.mk.injEq,and_true]at I;obtain ⟨rfl,rfl⟩:=I;refine⟨.pointer (some ⟨g,0+n.toNat*j,none⟩),?_,?_⟩
  .have hg:a.eval (.global g)=.pointer (some ⟨g,0,none⟩):=rfl;simp only[execOp,h,hg,r.val];simp[Zl w hu q1 q2 h0 hn]
  .simp only[Rd,D3];exact⟨g,0,u,q_,e2,e3,e4,e5⟩
def Aj2{P:Program}(Γ:Ty P){o:Oper}{s:SS}{t:TypeId}{i:TI}{sz g:Nat}{z y:SV}(k:Nat)(h:o.op=.load t (.global g))(r:s.h k=.glob sz z g)(I:Γ.get t=some i)(J:z.boxed=true)(R:Ur i (cellsOf z) 0=some y):Good P o s ⟨y,[k],[]⟩ :=
 Good.pure λm a w _ hr ho=>by
  have j:=ho k qx;rw[r]at j;simp only[B3,Rd,D3]at j;obtain ⟨b,oo,u,p,h3,h4,h5,h6⟩:=j;simp only[uO,Value.pointer.injEq,Option.some.injEq,Addr.mk.injEq,and_true]at p;obtain ⟨rfl,rfl⟩:=p;obtain ⟨v,h7,h8⟩:=S5 Γ I (h6.cellsAt h5.toRd J) R;have hg:a.eval (.global g)=.pointer (some ⟨g,0,none⟩):=rfl;have l:(loadVar t ⟨g,0,none⟩).run P w=.ok v w:=kS h7;exact⟨v,by simp[execOp,h,hg,Instr.loadAt,Instr.sureAddr,l],h8⟩
theorem Ob.shp_glob{x:Ob}{sz g:Nat}{z:SV}(h:x.shp=(Ob.glob sz z g).shp):x=.glob sz z g:=by
 cases x<;>simp_all[Ob.shp]
theorem O2.glob{P:Program}(Γ:Ty P){o:Oper}{s:SS}{t:TypeId}{j:TI}{et:TypeId}{len i sz g:Nat}{y:Operand}{ik:IntKind}{n:Int}{z:SV}(k:Nat)(h:o.op=.indexAddr t (.global g) y)(l:Γ.get t=some j)(p:j.k=.array et len i)(r:s.h k=.glob sz z g)(I:ev s y=.val (.int ik n))(J:0<=n)(R:n.toNat<len):O2 P o s ⟨.ref sz z (n.toNat*i),[k],[]⟩ where
 cy:=(Uu Γ k h l p r I J R).two
 idx _:=⟨rfl,λs' h1 h2=>Uu Γ k h l p (Ob.shp_glob ((h2 k qx).trans (zH Ob.shp r))) ((h1 y (by simp[h,Op.operands])).trans I) J R⟩
 st hs:=by simp[X8,h]at hs
def Zj{C:Cx}{k:List KI}{s:SS}{all:Array Oper}{done:List Tu}{o:Oper}{g:List Oper}{U:Up}(i:O2 C.P o s U)(hi:all[done.length]? = some o)(j:Jg C.n all o s=some true)(h:DR C k all (done++[⟨done.length,o,U,true⟩]) g (s.upd o.dst U)):DR C k all done (o::g) s:=A33 U i hi (I9 j).1 h
section
open Go.ChangeShapes Go.WideShapes Go.ChangeAt Go.RowKit
variable {H:Type} {fh:TypeId×Value->H} {P:Program}
theorem A0k{f:FuncId}{fn:Func}{s:ChangeSpec}{W:World}{args:Array Value}{ds i:List (DataW H)}{g:List MemPlace}{tb:TypeId}{A:List SV}{O O':It}(hO:O.ok k0 W)(J:s.vars=[])(hl:laidOutB P=true)(R:DataW.Whole fh P fn.params.toList s.vars false W args.toList ds i g)(l:∀t∈fn.params.toList,P.readableRec t=true/\t<P.types.size)(p8:fn.resultTypes=#[tb])(xl:P.underlying tb=some .bool)(o:∀i:List (DataW H),i=[]->s.fn H (ds++i)={results:=[.lit (.bool true)],args:=ds})(hA:B8 k0 W A args.toList)(hs:Sy.Spec P f A O (Ab true) O'):Calls P f args W λe W'=>∃v,e=.returned v/\s.post fh P fn false true false false W args v W':=by
 have hc:=hs k0 W args.toList (A0q W) (λk hk=>zW rfl hk) hA hO;simp only[Array.toArray_toList]at hc;refine hc.mono ?_;rintro e W' ⟨v,k',rfl,r,inv,hR,_⟩;have I:v=.bool true:=by simpa [Ab,Rd] using hR
 subst I;have hb:=Adn r;have j:=R;obtain ⟨p,q,h1,h2,h3,h4,h5⟩:=R;have wv:i=[]/\q=[]:=by
  rw[J]at h2;exact trodVars_none h2
 obtain ⟨rfl,rfl⟩:=wv;rw[yV]at h3;subst h3;have ab:∀x∈g,x.block<W.heap.size:=λx hx=>kS (j.lt x hx)
 refine⟨_,rfl,ds,[],g,[],g,[],j,?_,?_,?_,?_,λh=>by cases h⟩
 .rw[o [] rfl,p8];exact trodAll_mk1 (shut_bool xl true)
 .rw[o [] rfl];exact lN hl hb l ab h1
 .rw[J,o [] rfl];rfl
 .exact hb.frame _
theorem A2f{M:Nat->Prop}{w:World}:∀cs:List Value,Uz M w (cs.map .val) cs
 |[]=>by simp[Uz]
 |c::cs=>by
  simp only[xR,Uz];exact⟨c,cs,q_,by simp[D3],A2f cs⟩
theorem Bfl{W:World}{k g:Nat}(cs:List Value)(l:Hd cs)(o:g<W.heap.size)(p:∀j,j<cs.length->W.cell? ⟨g,j,none⟩=cs[j]?):B3 k0 W k (.glob cs.length (.agg (cs.map .val)) g):=by
 simp only[B3,Rd,D3];refine⟨g,0,.agg cs.toArray,q_,?_,o,⟨cs,q_,l,A2f cs⟩,?_⟩
 .rintro (⟨j,i⟩|i)
  .cases i
  .exact i
 .refine⟨by simp[Value.cells],by simpa [Value.cells] using l,λj i=>?_⟩;rw[xU,p j i];simp[Value.cells]
end
def Bgg(a:Ka)(w:World)(k:Nat)(Y:TypeId->Prop):Prop:=∀b n cap cs T g,a k=.row b n cap->w.heap[b]? = some (.cells cs T g)->Y T
def Asi{a:Ka}{w:World}{k:Nat}{Y:TypeId->Prop}:Bgg (H4 a k .nil) w k Y:=λ_ _ _ _ _ _ h=>by
 rw[Az]at h;cases h
def Arz{P:Program}{s:Ka}{w:World}(hi:Inv s w){t ty e:TypeId}{i:TypeInfo}{z:Value}{sz:Nat}(ht:P.underlying t=some (.slice e))(cy:P.info? e=some i)(hz:i.zero=some z)(az:i.size=sz)(ov:z.cells.size=sz){v:Value}{n m:Nat}{f g:Nat->SV->Prop}{k:Option Nat}{d:Nat}(hd:s d=.new)(hb:Base s w v n sz f k){t2:TypeId}(oc:P.underlying t2=some .string){b0:ByteArray}(tq:b0.size=m)(wz:sz=1)(a1:∀j x,g j x->∃h:j<b0.data.toList.length,x=.val (.int .u8 (b0.data.toList[j].toNat)))(pn:n+m<=9223372036854775807)(bz:(n+m)*i.bytes<=140737488355328){Y:TypeId->Prop}(hY:Y e)(a2:∀j,k=some j->Bgg s w j Y):∃v' w' s',(Builtin.append_ #[t,t2] ty #[v,.string b0]).run P w=.ok v' w'/\En (λj=>k=some j\/j=d) s w s' w'/\Inv s' w'/\Rd s' w' (.osl d) v' /\
   ((s' d=.nil/\n+m=0)\/Hn s' w' d sz (n+m) (Aw2 n f g))/\Bgg s' w' d Y:=by
 obtain ⟨o,lh,vf,jn,t8⟩:∃(o:List Value),o.length=m*sz/\Hd o/\(∀W:World,(∀p:Addr,p.block<w.heap.size->W.cell? p=w.cell? p)->(Builtin.firstCells sz m (.string b0)).run P W=.ok o.toArray W) /\
   (∀j x,g j x->j<m/\∃q:Value,D3 (Own s) w x q/\q.cells.size=sz/\Hd q.cells.toList/\∀l,l<sz->o[j*sz+l]? = q.cells[l]?):=by
  have a0:b0.data.toList.length=m:=by rw[<-tq];rfl
  refine⟨b0.data.toList.map λc=>.int .u8 c.toNat,by rw[yS,wz,tD];exact a0,λc I=>?_,λW _=>?_,λj x hx=>?_⟩
  .obtain ⟨b,_,rfl⟩:=yT.1 I;rfl
  .have he:b0.extract 0 m=b0:=by rw[<-tq];exact ByteArray.extract_zero_size
   have e2:Array.map (λb:UInt8=>Value.int .u8 b.toNat) b0.data=(List.map (λb:UInt8=>Value.int .u8 b.toNat) b0.data.toList).toArray:=by apply Array.ext';simp
   simp[Builtin.firstCells,he,e2]
  .obtain ⟨h,rfl⟩:=a1 j x hx;refine⟨by omega,.int .u8 (b0.data.toList[j].toNat),by simp[D3],by rw[wz];rfl,λc I=>?_,λl hl=>?_⟩
   .simp[Value.cells]at I;subst I;rfl
   .have a3:l=0:=by omega
    subst a3;rw[wz,tD,uO,wX,zT h];simp[Value.cells]
 have ep:∀old,n+m<=grownCap w (n+m) old e:=λold=>grownCap_ge w (n+m) old e
 have fm:∀old,old<n+m->¬(281474976710656<Builtin.nextslicecap (n+m) old*i.bytes):=λold ho=>by have:=growslice_fits ho bz;omega
 have d9:∀(bj:List Value) (old:Nat) (j6:bj.length=n*sz) (wo:∀j x,f j x->j<n->∃q:Value,D3 (Own s) w x q/\q.cells.size=sz/\Hd q.cells.toList/\∀l,l<sz->bj[j*sz+l]? = q.cells[l]?),
   let w':=w.drew.alloc (.cells (bj.toArray++o.toArray++Builtin.zeroCells z.cells (grownCap w (n+m) old e-(n+m))) e)
   let s':=H4 (nG s k) d (.row w.heap.size (n+m) (grownCap w (n+m) old e))
   En (λj=>k=some j\/j=d) s w s' w'/\Inv s' w'/\Rd s' w' (.osl d) (.slice (some ⟨w.heap.size,0,none⟩) (n+m) (grownCap w (n+m) old e))/\Hn s' w' d sz (n+m) (Aw2 n f g)/\Bgg s' w' d Y:=by
  intro bj old j6 wo w' s';have s1:=Lx (κ:=s) (w:=w) k;have np:(nG s k) d=.new:=by
   cases k with
   |none=>exact hd
   |some k=>
    by_cases cd:d=k
    .exfalso;subst cd;rcases hb with ⟨h,_⟩|⟨_,_,b,cap,h,_⟩<;>rw[hd]at h<;>cases h
    .simp only[nG];rw[C4 _ _ cd];exact hd
  have g0:Kb w w':=(Kb.drew w).trans (Kb.alloc _ _);have s2:=Lm (Oz hi k) np (e:=.row w.heap.size (n+m) (grownCap w (n+m) old e)) g0 (λ b hb=>by
   simp only[Ent.block?,Option.some.injEq]at hb;subst hb;exact⟨yG _,by simp[w']⟩)
  have s3:En (λj=>k=some j\/j=d) s w s' w':=(s1.weaken (λj r=>.inl r)).trans (s2.1.weaken (λj r=>.inr r));have h9:w'.heap[w.heap.size]? = some (.cells (bj.toArray++o.toArray++Builtin.zeroCells z.cells (grownCap w (n+m) old e-(n+m))) e):=heap_alloc_new w.drew _;refine⟨s3,s2.2,by simp[Rd,s',Az],?_,λb2 n2 pf wa T2 xm g1 g2=>?_⟩;rotate_left
  .simp only[s',Az,Ent.row.injEq]at g1;rw[<-g1.1,h9]at g2;simp only[Option.some.injEq,Obj.cells.injEq]at g2;rw[<-g2.2.1];exact hY
  refine⟨w.heap.size,grownCap w (n+m) old e,bj++o++(Builtin.zeroCells z.cells (grownCap w (n+m) old e-(n+m))).toList,e,(0,0),Az _ _ _,?_,Aa3.zero _,?_,ep old,?_⟩
  .have:w'.heap[w.heap.size]? = some (.cells (bj.toArray++o.toArray++Builtin.zeroCells z.cells (grownCap w (n+m) old e-(n+m))) e):=heap_alloc_new w.drew _;rw[this];congr 2;apply Array.ext';simp
  .simp only[zR,j6,lh,wV,X6,ov];rw[<-xA,<-xA];have:=ep old;rw[show n+m+(grownCap w (n+m) old e-(n+m))=grownCap w (n+m) old e from by omega];exact yG _
  .rintro j x (⟨r,hx⟩|⟨r,hx⟩)
   .obtain ⟨q,J,R,q3,q4⟩:=wo j x hx r;refine⟨by omega,q,D3.keep s3.keeps _ _ J,R,q3,λl hl=>?_⟩;have:(j+1)*sz<=n*sz:=yU sz j_;rw[xA,wC]at this;rw[yW,xM j_,q4 l hl]
   .obtain ⟨h0,q,J,R,q3,q4⟩:=t8 _ x hx;refine⟨by omega,q,D3.keep s3.keeps _ _ J,R,q3,λl hl=>?_⟩;have e1:j*sz=n*sz+(j-n)*sz:=by rw[<-xA];congr 1;omega
    have:(j-n+1)*sz<=m*sz:=yU sz j_;rw[xA,wC]at this;rw[yW,wD j_,xM j_,<-q4 l hl];congr 1;omega
 cases k with
 |none=>
  obtain ⟨rfl,rfl⟩:=hb;by_cases hm:m=0
  .subst hm;have st:=Lm hi hd (e:=.nil) (Kb.refl w) (λb hb=>by cases hb);refine⟨.slice none 0 0,w,H4 s d .nil,?_,st.1.weaken (λj r=>.inr r),st.2,by simp[Rd,Az],.inl ⟨Az _ _ _,q_⟩,Asi⟩;have I:=jn w (λ_ _=>rfl);simp[Builtin.append_,run_underlying ht,run_underlying oc,tq,sizeOf,typeInfo,cy,az,Builtin.lenOf,I]
  .obtain ⟨J,R,q3,q4,q5⟩:=d9 [] 0 qx (λj x _ r=>zW r j_);refine⟨_,_,_,?_,J,R,q3,.inr q4,q5⟩;have I:=jn w.drew (λ_ _=>rfl);have ie:=fm 0 j_;have ej:¬(9223372036854775807<(m:Int)):=by omega
   simp only[xU]at ie|-;simp[Builtin.append_,run_underlying ht,run_underlying oc,tq,sizeOf,typeInfo,zeroValue,cy,az,hz,Builtin.lenOf,hm,ej,ie,Question.forced,run_firstCells_none,I,newRow,grownCap]
 |some k=>
  rcases hb with ⟨hk,rfl,rfl⟩|⟨dx,y5,b,cap,hk,rfl⟩
  .by_cases hm:m=0
   .subst hm;have cd:d≠k:=λe=>by subst e;rw[hd]at hk;cases hk
    have st:=Lm (Oz hi (some k)) (by show H4 s k .dead d=.new;rw[C4 _ _ cd];exact hd) (e:=.nil) (Kb.refl w) (λb hb=>by cases hb);refine⟨.slice none 0 0,w,_,?_,((Lx (some k)).weaken (λj r=>.inl r)).trans (st.1.weaken (λj r=>.inr r)),st.2,by simp[Rd,Az],.inl ⟨Az _ _ _,q_⟩,Asi⟩;have I:=jn w (λ_ _=>rfl);simp[Builtin.append_,run_underlying ht,run_underlying oc,tq,sizeOf,typeInfo,cy,az,Builtin.lenOf,I]
   .obtain ⟨J,R,q3,q4,q5⟩:=d9 [] 0 qx (λj x _ r=>zW r j_);refine⟨_,_,_,?_,J,R,q3,.inr q4,q5⟩;have I:=jn w.drew (λ_ _=>rfl);have ie:=fm 0 j_;have ej:¬(9223372036854775807<(m:Int)):=by omega
    simp only[xU]at ie|-;simp[Builtin.append_,run_underlying ht,run_underlying oc,tq,sizeOf,typeInfo,zeroValue,cy,az,hz,Builtin.lenOf,hm,ej,ie,Question.forced,run_firstCells_none,I,newRow,grownCap]
  .obtain ⟨b',dy,li,ig⟩:=dx.src y5;rw[hk]at li;cases li;have qy:=dx;obtain ⟨b',dy,cs,T,fr,e1,e2,e3,e4,e5,e6⟩:=qy;rw[hk]at e1;cases e1;by_cases bf:n+m<=cap
   .have cd:k≠d:=λe=>by subst e;rw[hk]at hd;cases hd
    have mj:(n+m)*sz<=cs.length:=wI (yU sz bf) e4;rw[xA]at mj;obtain ⟨w',f1,f2,f3,f4,f5,f6,f7⟩:=Ej P b (n*sz) T fr o 0 cs w e2 e3 j_ vf;obtain ⟨st,inv⟩:=Vm (n':=n+m) hi hk hd f3 f4 f5 f6 f7;refine⟨.slice (some ⟨b,0,none⟩) (n+m) cap,w',_,?_,st.weaken (λj r=>r.imp (λh=>by rw[h]) id),inv,by simp[Rd,Az],.inr ?_,λb2 n2 pf wa T2 xm g1 g2=>?_⟩;rotate_left 2
    .simp only[Az,Ent.row.injEq]at g1;rw[<-g1.1,f2]at g2;simp only[Option.some.injEq,Obj.cells.injEq]at g2;rw[<-g2.2.1];exact a2 k q_ _ _ _ _ _ _ hk e2
    .have I:=jn w (λ_ _=>rfl);simp[Builtin.append_,run_underlying ht,run_underlying oc,tq,sizeOf,typeInfo,cy,az,Builtin.lenOf,bf,I,Addr.add_lit,f1]
    .refine⟨b,cap,_,T,fr,Az _ _ _,kS f2,by rw[C8];exact e3,by rw[C8];exact e4,bf,?_⟩;have bc:=T3 cs o (n*sz);rintro j x (⟨r,hx⟩|⟨r,hx⟩)
     .obtain ⟨_,q,J,R,q3,q4⟩:=e6 j x hx;refine⟨by omega,q,D3.keep st.keeps _ _ J,R,q3,λl hl=>?_⟩;have:(j+1)*sz<=n*sz:=yU sz j_;rw[xA,wC]at this;rw[bc _ j_,zD j_,q4 l hl]
     .obtain ⟨h0,q,J,R,q3,q4⟩:=t8 _ x hx;refine⟨by omega,q,D3.keep st.keeps _ _ J,R,q3,λl hl=>?_⟩;have e1:j*sz=n*sz+(j-n)*sz:=by rw[<-xA];congr 1;omega
      have:(j-n+1)*sz<=m*sz:=yU sz j_;rw[xA,wC]at this;rw[bc _ j_,zE j_,<-q4 l hl];congr 1;omega
   .rcases ig with ⟨rfl,bw,a',c',he⟩|⟨b2,o2,c2,bj,he,g1,g2,g3,g4⟩
    .obtain ⟨J,R,q3,q4,q5⟩:=d9 [] cap qx (λj x _ r=>zW r j_);refine⟨_,_,_,?_,J,R,q3,.inr q4,q5⟩;have I:=jn w.drew (λ_ _=>rfl);have ie:=fm cap j_;have ej:¬(9223372036854775807<(m:Int)):=by omega
     have mo:¬(m<=cap):=by omega
     have mq:=run_firstCells_some (P:=P) w.drew sz 0 ⟨b,0,none⟩ 0 cap [] qx (λj v r=>by simp at r);simp only[xU]at ie|-;simp[Builtin.append_,run_underlying ht,run_underlying oc,tq,sizeOf,typeInfo,zeroValue,cy,az,hz,Builtin.lenOf,mo,ej,ie,Question.forced,mq,I,newRow,grownCap]
    .cases he;obtain ⟨J,R,q3,q4,q5⟩:=d9 bj cap g1 (λj x hx r=>(g4 j x hx).2);refine⟨_,_,_,?_,J,R,q3,.inr q4,q5⟩;have I:=jn w.drew (λ_ _=>rfl);have ie:=fm cap j_;have ej:¬(9223372036854775807<(n:Int)+(m:Int)):=by omega
     have mq:=run_firstCells_some (P:=P) w.drew sz n ⟨b,0,none⟩ n cap bj g1 (λ j v r=>by
      have:=g3 j v r;rw[Addr.add_lit];simpa using this)
     simp[Builtin.append_,run_underlying ht,run_underlying oc,tq,sizeOf,typeInfo,zeroValue,cy,az,hz,Builtin.lenOf,bf,ej,ie,Question.forced,mq,I,newRow,grownCap];congr 2;apply Array.ext';simp[yW]
def Ac2{P:Program}(Γ:Ty P){o:Oper}{s:SS}(d:Nat){l:List UInt8}{b:ByteArray}{t t2:TypeId}{ti r:TI}{et:TypeId}{eb:Nat}{ez:List Value}{x y:Operand}{k:Option Nat}(h:o.op=.call ⟨.builtin .append,#[x,y],#[t,t2]⟩)(hd:s.h d=.fresh)(ht:Γ.get t=some ti)(hk:ti.k=.slice et 1 eb ez)(nq:ez.length=1)(oc:Γ.get t2=some r)(cq:r.k=.string)(I:Agy s 1 Ae (ev s x) k l)(hy:ev s y=.val (.string b))(pp:∀j,k=some j->j≠d)(bz:(l.length+b.size)*eb<=140737488355328)(pn:l.length+b.size<=9223372036854775807):Good P o s ⟨.osl d,[],O9 k d (.row 1 Ae (l++b.data.toList))⟩:=by
 obtain ⟨f,I,hf⟩:=I.base;intro m a w hi hr ho N Q hN;have h1:=hr x (by simp[h,Op.operands,Call.operands]);have h2:=hr y (by simp[h,Op.operands,Call.operands]);rw[hy]at h2;have J:∀j,j∈(Up.mk (.osl d) [] (O9 k d (.row 1 Ae (l++b.data.toList)))).ws↔(k=some j\/j=d):=by
  intro j;cases k<;>simp[Up.ws,O9,eq_comm]
 have ay:m d=.new:=by have:=ho d (.inr ((J d).2 (.inr rfl)));rwa [hd]at this
 obtain ⟨hu,i,z,q1,q2,q3,q4,q5⟩:=Di Γ ht hk;have ov:z.cells.size=1:=by rw[<-nq,<-q5];simp
 have rz:P.underlying t2=some .string:=by
  obtain ⟨dd,info,zz,k1,k2,_⟩:=Γ.ok t2 r oc;rw[cq]at k2;simp only[TK.ok]at k2;subst k2;exact k1
 obtain ⟨v',w',m',r1,r2,r3,r4,r5,_⟩:=Arz (P:=P) (ty:=o.type) (g:=U9 Ae b.data.toList) hi hu q1 q4 q2 ov ay (I.base h1 (λj R=>ho j (.inr ((J j).2 (.inl R))))) rz (rfl:b.size=b.size) rfl
  (λj x hx=>hx) pn (by rw[q3];exact bz) (Y:=λ_=>True) trivial (λ_ _ _ _ _ _ _ _ _ _=>trivial)
 have an:(execOp a.eval o).run P w=.ok (.value v') w':=by
  simp[execOp,h,h2.val,resolve,invoke,builtin,r1]
 simp only[Oper.wp,an,Oper.upon];refine hN v' m' w' (r2.weaken (λj R=>(J j).2 R)) r3 r4 (λp hp=>?_);have ed:B3 m' w' d (.row 1 Ae (l++b.data.toList)):=Aw1 r5 (by rw[zR];rfl) (Atb hf (λ_ _ h=>h));cases k with
 |none=>
  simp only[O9,zX]at hp;subst hp;exact ed
 |some k=>
  simp only[O9,yH,xJ,vH]at hp;rcases hp with rfl|rfl
  .trivial
  .exact ed
def B5{P:Program}(Γ:Ty P){o:Oper}{s:SS}{t:TypeId}{j:TI}{et:TypeId}{len:Nat}{x y:Operand}{I:IntKind}{n:Int}{l:List SV}{z:SV}{k:EK}(h:o.op=.index t x y)(J:Γ.get t=some j)(R:j.k=.array et len 1)(he:P.underlying et=some (EK.desc k))(hx:ev s x=.agg l)(hy:ev s y=.val (.int I n))(h0:0<=n)(hn:n.toNat<len)(hz:Lr l n.toNat=some z):Good P o s ⟨z,[],[]⟩ :=
 Good.pure λb a w _ p _=>by
  have g:=p x (by simp[h,Op.operands]);have r:=p y (by simp[h,Op.operands]);rw[hx]at g;rw[hy]at r;simp only[Rd]at g;obtain ⟨cs,e1,_,e2⟩:=g;obtain ⟨v,e3,e4⟩:=e2.getT hz;obtain ⟨hu,i,q1,q2⟩:=eP Γ J R;have hp:=Abu (P:=P) w he cs.toArray e3;have ab:n<len:=by omega
  refine⟨v,?_,e4⟩;simp[execOp,h,e1,r.val,Instr.index,run_underlying hu,asIntOf,h0,ab,sizeOf,typeInfo,q1,q2,hp]
def An{C:Cx}{k:List KI}{s:SS}(d:Nat)(l':List SV){l:List SV}(h:s.h d=.box l)(j:VwL s [] l l')(o:G C k ⟨s.σ,upd s.h d (.box l')⟩):G C k s:=λm a w g=>
 o m a w ⟨g.defers,g.size,g.inv,g.ctx,g.ax,λ i=>by
  show B3 m w i (upd s.h d (.box l') i);by_cases hi:i=d
  .subst hi;rw[C2];have:=g.obj i;rw[h]at this;obtain ⟨b,cs,T,p,r,t,I,J,R⟩:=this;exact⟨b,cs,T,p,r,t,I,J,VwL.rd g.inv (λ_ hn=>by cases hn) j R⟩
  .rw[D7 _ _ hi];exact g.obj i⟩
end Go.Sy
namespace Go.Sy.Zaa
open Go.Proofs Go.Proofs.Tryz
attribute [local irreducible]G DR
set_option maxRecDepth 100000
def fC{a:Ka}{w:World}{k sz:Nat}{r:Type}{e:r->SV}{l:List r}(g:l≠[])(h:B3 a w k (.row sz e l)):∃b n c,a k=.row b n c:=by
 rcases h with ⟨_,h⟩|⟨b,cap,_,_,_,h,_⟩
 .exact zW h g
 .exact⟨b,_,cap,h⟩
theorem iJ{A0:Type}(v0:A0->SV){f0 j:Nat}{g:Func}(F0:fT f0 g)(i:g.ntmps=j)(h:let A0:Type:=A0;let v0:A0->SV:=v0;fT f0 g->g.ntmps=j->∀ (l:List A0) (o:l.length<2147483648),Sp f0 [.sl 1 v0 l] (.sl 1 v0 l):=by
 intro A0 v0 F0 i l o
 refine cT F0 i λF t=>?_
 conv=>whnf
 refine K5 q_ (.inl q_) q_ q_ q_ .sl q_ q_ ?_;intro b p;cases b
 .refine oF ?_;exact Al (Ah Γ.toTy 7 q_ q_ q_ q_ q_ (.lit (e:=v0) (l:=[]) q_ q_) .sl qx kO kO) q_ q_ (Ao 7 q_ gM)
 .have r:l=[]:=yF (p rfl);subst r;refine oT ?_;exact Ar 2 1 v0 q_ dN):∀ (l:List A0) (o:l.length<2147483648),Sp f0 [.sl 1 v0 l] (.sl 1 v0 l):=h F0 i
def Qv:=iJ Aa F163 ntmps163
def Aos:=iJ Bo F164 ntmps164
def A1t:=iJ Ab F84 ntmps84
theorem iE{A0:Type}(v0:A0->SV)(g:Nat){f0 o:Nat}{i:Func}(F0:fT f0 i)(j:i.ntmps=o)(h:let A0:Type:=A0;let v0:A0->SV:=v0;let g:=g;fT f0 i->i.ntmps=o->∀ (l:List A0) (p:l.length<2147483648),Sq f0 [.sl g v0 l] [] (.osl 0) [(0,.row g v0 l)]:=by
 intro A0 v0 g F0 j l p
 refine cT F0 j λF I=>?_
 conv=>whnf
 refine K5 q_ (.inl q_) q_ q_ q_ .sl q_ q_ ?_;intro b r;cases b
 .refine oF ?_;refine Al (Ah Γ.toTy 7 q_ q_ q_ q_ q_ (.lit (e:=v0) (l:=[]) q_ q_) .sl qx kO kO) q_ q_ (oO ?_);exact done q_ As [(0,7)] [(0,.row g v0 l)] (λ_ h=>h) q_ q_ kU
 .have t:l=[]:=yF (r rfl);subst t;refine oT ?_;refine Ct 2 1000 g v0 q_ q_ ?_;exact done q_ As [(0,1000)] [(0,.row g v0 [])] (λ _ h=>h) q_ q_ kU):∀ (l:List A0) (p:l.length<2147483648),Sq f0 [.sl g v0 l] [] (.osl 0) [(0,.row g v0 l)]:=h F0 j
def A1r:=iE Bm 7 F156 ntmps156
def Ars:=iE Ax 6 F158 ntmps158
def Awm:=iE B6 4 F160 ntmps160
def A7z:=iE D5 5 F161 ntmps161
end Go.Sy.Zaa
namespace Go.Sy
def Axg{C:Cx}{p:List KI}{s:SS}(q:Nat)(r:List Nat){sz:Nat}{m:Type}{e:m->SV}{l:List m}(h:s.h q=.row sz e l)(R:l≠[])(hr:∀i∈r,s.σ i=.osl q)(hg:∀b cap,l.length<=cap->G C p ⟨freezeσ s.σ (.val (.slice (some ⟨b,0,none⟩) l.length cap)) r,upd s.h q (.pin b l.length cap sz e l)⟩):G C p s:=λk a w g=>by
 have t:=g.obj q;rw[h]at t;rcases t with ⟨_,h1⟩|dx
 .exact zW h1 R
 obtain ⟨b,cap,cs,T,fr,o,e2,e3,e4,I,e6⟩:=dx;refine hg b cap I k a w ⟨g.defers,g.size,g.inv,g.ctx,λi=>?_,λj=>?_⟩
 .refine freezeσ_ok r _ i (g.ax i) (λhi=>?_);have:=g.ax i;rw[hr i hi]at this;simp only[Rd,o]at this;simp only[Rd];exact this
 .show B3 k w j (upd s.h q _ j);by_cases J:j=q
  .subst J;rw[C2];exact⟨o,b,cap,cs,T,fr,o,e2,e3,e4,I,e6⟩
  .rw[D7 _ _ J];exact g.obj j
def Ady{C:Cx}{t:List KI}{s:SS}(q d:Nat)(r:List Nat)(m:Nat){b n cap sz:Nat}{c:Type}{e:c->SV}{l:List c}(h:s.h q=.pin b n cap sz e l)(hd:s.h d=.fresh)(hm:m<=l.length)(hr:∀i∈r,s.σ i=.val (.slice (some ⟨b,0,none⟩) m cap))(hg:G C t ⟨freezeσ s.σ (.osl d) r,upd (upd s.h q .non) d (.row sz e (l.take m))⟩):G C t s:=λk a w g=>by
 have I:=g.obj q;rw[h]at I;have ay:k d=.new:=by have:=g.obj d;rwa [hd]at this
 obtain ⟨J,b',dy,cs,T,fr,R,e2,e3,e4,e5,e6⟩:=I;rw[J]at R;cases R;have wi:l.length<=n:=by
  by_cases h0:l.length=0
  .omega
  .have:=(e6 (l.length-1) _ ⟨by omega,rfl⟩).1;omega
 obtain ⟨st,inv⟩:=Vm (n':=m) (w':=w) g.inv J ay rfl rfl rfl rfl (λ_ _=>rfl);have ab:(l.take m).length=m:=by rw[zY];omega
 refine hg _ a w ⟨g.defers,g.size,inv,g.ctx.step inv st,λj=>?_,λj=>?_⟩
 .refine freezeσ_ok r _ j (Rd.step st _ _ (g.ax j)) (λo=>?_);have:=g.ax j;rw[hr j o]at this;simp only[Rd]at this;simp[Rd,Az,this]
 .show B3 _ w j (upd (upd s.h q .non) d _ j);by_cases o:j=d
  .subst o;rw[C2];refine .inr ⟨b,cap,cs,T,fr,by rw[Az,ab],e2,e3,e4,by omega,λi x hx=>?_⟩;obtain ⟨hi,rfl⟩:=hx;obtain ⟨_,u,q2,q3⟩:=e6 i (e l[i]) ⟨by omega,rfl⟩;refine⟨hi,u,?_,q3⟩;rw[wN];exact D3.keep st.keeps _ _ q2
  .rw[D7 _ _ o];by_cases p:j=q
   .subst p;rw[C2];trivial
   .rw[D7 _ _ p];exact B3.step st (λe=>e.elim p o) _ (g.obj j)
def Ha{P:Program}(Γ:Ty P){o:Oper}{s:SS}{t:TypeId}{p:TI}{et:TypeId}{sz eb b n cap lo hi:Nat}{ez:List Value}{x:Operand}{r I:Option Operand}(h:o.op=.slice t x r I none)(ht:Γ.get t=some p)(hk:p.k=.slice et sz eb ez)(lm:ev s x=.val (.slice (some ⟨b,0,none⟩) n cap))(lj:Oa s r 0 lo)(mu:Oa s I n hi)(h1:lo<=hi)(h2:hi<=cap):Good P o s ⟨.val (.slice (some (if cap=lo then ⟨b,0,none⟩ else ⟨b,lo*sz,none⟩)) (hi-lo) (cap-lo)),[],[]⟩ :=
 Good.pure λm a w _ g _=>by
  have j:=g x (by simp[h,Op.operands]);rw[lm]at j;obtain ⟨J,i,zv,R,q2,q3,q4,q5⟩:=Di Γ ht hk;have b1:=lj.val (a:=a) (λy l=>g y (by simp[h,Op.operands,l]));have b2:=mu.val (a:=a) (λy l=>g y (by simp[h,Op.operands,l]));have hb:=O3 (P:=P) w (len:=n) (cap:=cap) b1 b2 h1 h2;refine⟨.slice (some (if cap=lo then ⟨b,0,none⟩ else ⟨b,lo*sz,none⟩)) (hi-lo) (cap-lo),?_,by simp only[Rd]⟩;by_cases hc:cap=lo
  .subst hc;simp[execOp,h,j.val,Instr.sliceAt,Instr.slice,run_underlying J,hb,sizeOf,typeInfo,R]
  .simp[execOp,h,j.val,Instr.sliceAt,Instr.slice,run_underlying J,hb,sizeOf,typeInfo,R,q2,hc,Addr.add_lit]
def Ama{P:Program}(Γ:Ty P){o:Oper}{s:SS}{t:TypeId}{J:TI}{et:TypeId}{sz eb b n cap lo hi g:Nat}{ez:List Value}{x:Operand}{j l p:Operand}{k1 k2 k3:IntKind}(h:o.op=.slice t x (some j) (some l) (some p))(ht:Γ.get t=some J)(hk:J.k=.slice et sz eb ez)(lm:ev s x=.val (.slice (some ⟨b,0,none⟩) n cap))(lj:ev s j=.val (.int k1 lo))(mu:ev s l=.val (.int k2 hi))(yp:ev s p=.val (.int k3 g))(h1:lo<=hi)(h2:hi<=g)(h3:g<=cap):Good P o s ⟨.top,[],[]⟩ :=
 Good.pure λm a w _ r _=>by
  have I:=r x (by simp[h,Op.operands]);have R:=r j (by simp[h,Op.operands]);have r3:=r l (by simp[h,Op.operands]);have r4:=r p (by simp[h,Op.operands]);rw[lm]at I;rw[lj]at R;rw[mu]at r3;rw[yp]at r4;obtain ⟨hu,i,zv,q1,q2,q3,q4,q5⟩:=Di Γ ht hk;have hb:(Instr.sliceBounds true n cap (some (a.eval j)) (some (a.eval l)) (some (a.eval p))).run P w=.ok (lo,hi,g) w:=by
   rw[R.val,r3.val,r4.val];simp[Instr.sliceBounds,Instr.sliceBound,asIntOf,h1,h2,h3]
  refine⟨.slice (some (if g=lo then ⟨b,0,none⟩ else ⟨b,lo*sz,none⟩)) (hi-lo) (g-lo),?_,by simp only[Rd]⟩;by_cases hc:g=lo
  .subst hc;simp[execOp,h,I.val,Instr.sliceAt,Instr.slice,run_underlying hu,hb,sizeOf,typeInfo,q1]
  .simp[execOp,h,I.val,Instr.sliceAt,Instr.slice,run_underlying hu,hb,sizeOf,typeInfo,q1,q2,hc,Addr.add_lit]
def bS{a:Ka}{w w':World}{k b n cap:Nat}(hi:Inv a w)(r:a k=.row b n cap)(t:w'.os=w.os)(I:w'.tape=w.tape)(J:w'.output=w.output)(p:w'.heap.size=w.heap.size)(g:∀i,i≠b->w'.heap[i]? = w.heap[i]?):En (λj=>j=k) a w a w'/\Inv a w':=by
 have l:(a k).block? = some b:=by rw[r];rfl
 refine⟨⟨by omega,t,I,J,q_,λ c hm=>g c (λ e=>hi.apart k b l (e ▸ hm)),λ c _ R=>g c (λ e=>R (.inl ⟨k,e ▸ l⟩)),λ j c hj o=>g c (λ e=>hj ?_),λ _ _=>rfl,λ _ _=>.inr (.inl q_),λ _ h=>.inl h⟩,
  ⟨hi.inj,λ j c h=>by rw[p];exact hi.bf j c h,hi.apart,λ c h=>by rw[p];exact hi.bh c h⟩⟩
 subst e;exact hi.inj j k _ o l
def Ata{cs:List Value}{sz n:Nat}(h:∀i,i<n->∃u:Value,u.cells.size=sz/\Hd u.cells.toList/\∀j,j<sz->cs[i*sz+j]? = u.cells[j]?){p:Nat}(hp:p<n*sz){v:Value}(l:cs[p]? = some v):v.oneCell'=true:=by
 have o:0<sz:=by
  rcases uM sz with rfl|h
  .simp at hp
  .exact h
 obtain ⟨u,R,r,t⟩:=h (p/sz) (Nat.div_lt_of_lt_mul (by rw[vJ];exact hp));have g:=t (p%sz) (tQ _ o);rw[vJ,uI,l]at g;obtain ⟨I,J⟩:=wQ.1 g.symm;refine r v ?_;rw[<-J];exact Array.getElem_mem_toList I
def Aha{P:Program}(Γ:Ty P){o:Oper}{s:SS}(q:Nat){t:TypeId}{ti:TI}{et:TypeId}{sz eb b n cap i j:Nat}{ez:List Value}{x y:Operand}{d:Type}{e:d->SV}{l:List d}{B:Option Addr}{c:Nat}(h:o.op=.call ⟨.builtin .append,#[x,y],#[t,t]⟩)(ht:Γ.get t=some ti)(hk:ti.k=.slice et sz eb ez)(hx:ev s x=.val (.slice (some ⟨b,0,none⟩) i cap))(hy:ev s y=.val (.slice B (n-j) c))(hB:B=some (if cap=j then ⟨b,0,none⟩ else ⟨b,j*sz,none⟩))(cz:s.h q=.pin b n cap sz e l)(hl:l.length=n)(df:i<=j)(hj:j<=n):Good P o s ⟨.val (.slice (some ⟨b,0,none⟩) (i+(n-j)) cap),[],[(q,.pin b n cap sz e (l.take i++l.drop j))]⟩:=by
 intro m a w r hr ho N Q hN;have r1:=hr x (by simp[h,Op.operands,Call.operands]);have r2:=hr y (by simp[h,Op.operands,Call.operands]);rw[hx]at r1;rw[hy]at r2;subst hB;have hq:=ho q (.inr (by simp[Up.ws]));rw[cz]at hq;obtain ⟨e0,b',dy,cs,T,fr,e1,e2,e3,e4,e5,e6⟩:=hq;rw[e0]at e1;cases e1;obtain ⟨hu,ii,zv,q1,q2,q3,q4,q5⟩:=Di Γ ht hk;have db:∀i,i<n->∃u:Value,u.cells.size=sz/\Hd u.cells.toList/\∀j,j<sz->cs[i*sz+j]? = u.cells[j]?:=λi hi=>by
  obtain ⟨_,u,_,I⟩:=e6 i (e l[i]) ⟨by omega,rfl⟩;exact⟨u,I⟩
 obtain ⟨g,ft⟩:∃g,g=(cs.drop (j*sz)).take ((n-j)*sz):=⟨_,rfl⟩
 have a1:(n-j)*sz+j*sz=n*sz:=by rw[<-xA];congr 1;omega
 have jn:n*sz<=cap*sz:=yU sz e5;have a2:i*sz<=j*sz:=yU sz df;have J:g.length=(n-j)*sz:=by rw[ft,zY,yP];omega
 have a8:∀p,p<(n-j)*sz->g[p]? = cs[j*sz+p]?:=λp hp=>by
  rw[ft,vX,zE hp,List.getElem?_drop]
 have mc:Hd g:=λv hv=>by
  obtain ⟨p,hp,he⟩:=wH hv;have h1:g[p]? = some v:=by rw[zT hp,he]
  rw[J]at hp;rw[a8 p hp]at h1;exact Ata db j_ h1
 obtain ⟨w',f1,f2,f3,f4,f5,f6,f7⟩:=Ej P b (i*sz) T fr g 0 cs w e2 e3 j_ mc;obtain ⟨st,inv⟩:=bS r e0 f3 f4 f5 f6 f7;have bf:i+(n-j)<=cap:=by omega
 have d7:∀p v,cs[p]? = some v->w.cell? ⟨b,p,none⟩=some v:=λp v hp=>by
  simp[World.cell?,e2,hp]
 have hc:(Builtin.firstCells sz (n-j) (.slice (some (if cap=j then ⟨b,0,none⟩ else ⟨b,j*sz,none⟩)) (n-j) c)).run P w=.ok g.toArray w:=by
  by_cases nj:cap=j
  .have h0:n-j=0:=by omega
   rw[zE nj,h0];have h1:g=[]:=by rw[h0]at J;simpa using J
   rw[h1];exact run_firstCells_some (P:=P) w sz 0 ⟨b,0,none⟩ 0 c [] qx (λj v hj=>by simp at hj)
  .rw[zD nj];refine run_firstCells_some (P:=P) w sz (n-j) ⟨b,j*sz,none⟩ (n-j) c g J (λp v hp=>?_);rw[Addr.add_lit];have ab:p<(n-j)*sz:=by
    rw[<-J];exact(uZ.1 hp).1
   rw[a8 p ab]at hp;exact d7 _ _ hp
 have an:(execOp a.eval o).run P w=.ok (.value (.slice (some ⟨b,0,none⟩) (i+(n-j)) cap)) w':=by
  simp[execOp,h,resolve,invoke,builtin,Builtin.append_,r1.val,r2.val,run_underlying hu,sizeOf,typeInfo,q1,q2,Builtin.lenOf,bf,hc,Addr.add_lit,f1]
 simp only[Oper.wp,an,Oper.upon];refine hN _ m w' (st.weaken (λk hk=>by subst hk;simp[Up.ws])) inv (by simp only[Rd]) (λp hp=>?_);simp only[zX]at hp;subst hp;refine⟨e0,b,cap,_,T,fr,e0,f2,by rw[C8];exact e3,by rw[C8];exact e4,e5,?_⟩;rintro k z ⟨bh,rfl⟩;have bc:=T3 cs g (i*sz+0);have R:(l.take i++l.drop j).length=i+(n-j):=by rw[zR,zY,yP];omega
 rw[R]at bh;by_cases s6:k<i
 .obtain ⟨_,u,u1,I,u3,u4⟩:=e6 k (e l[k]) ⟨by omega,rfl⟩;have:(k+1)*sz<=i*sz:=yU sz j_;rw[xA,wC]at this;refine⟨by omega,u,?_,I,u3,λp hp=>?_⟩
  .rw[yZ (by rw[zY];omega),wN];exact D3.keep st.keeps _ _ u1
  .rw[bc _ j_,zD j_,u4 p hp]
 .obtain ⟨_,u,u1,I,u3,u4⟩:=e6 (j+(k-i)) (e l[j+(k-i)]) ⟨by omega,rfl⟩;have a3:k*sz=i*sz+(k-i)*sz:=by rw[<-xA];congr 1;omega
  have a0:(j+(k-i))*sz=j*sz+(k-i)*sz:=by rw[<-xA]
  have:(k-i+1)*sz<=(n-j)*sz:=yU sz j_;rw[xA,wC]at this;refine⟨by omega,u,?_,I,u3,λp hp=>?_⟩
  .rw[xW (by rw[zY];omega),vS];have uq:j+(k-(l.take i).length)=j+(k-i):=by rw[zY];omega
   simp only[uq];exact D3.keep st.keeps _ _ u1
  .rw[bc _ j_,zE j_,<-u4 p hp,a0];rw[show k*sz+p-(i*sz+0)=(k-i)*sz+p by omega,a8 _ j_];congr 1;omega
def Wk{P:Program}(Γ:Ty P){o:Oper}{s:SS}(q:Nat){t:TypeId}{ti:TI}{et:TypeId}{sz eb b n cap k m c:Nat}{R:List Value}{x:Operand}{f:Type}{e:f->SV}{l:List f}{B:Option Addr}(h:o.op=.call ⟨.builtin .clear,#[x],#[t]⟩)(ht:Γ.get t=some ti)(hk:ti.k=.slice et sz eb R)(nq:R.length=sz)(a0:∀v∈R,v.oneCell'=true)(hx:ev s x=.val (.slice B m c))(hB:B=some (if cap=k then ⟨b,0,none⟩ else ⟨b,k*sz,none⟩))(cz:s.h q=.pin b n cap sz e l)(py:k<=l.length)(hm:k+m<=cap):Good P o s ⟨.tup [],[],[(q,.pin b n cap sz e (l.take k))]⟩:=by
 intro d a w i hr ho N Q hN;have J:=hr x (by simp[h,Op.operands,Call.operands]);rw[hx]at J;subst hB;have hq:=ho q (.inr (by simp[Up.ws]));rw[cz]at hq;obtain ⟨I,b',dy,cs,T,fr,e1,e2,e3,e4,e5,e6⟩:=hq;rw[I]at e1;cases e1;obtain ⟨hu,ii,r,q1,q2,q3,q4,q5⟩:=Di Γ ht hk;have ov:r.cells.size=sz:=by rw[<-nq,<-q5];simp
 have ab:(l.take k).length=k:=by rw[zY];omega
 by_cases ax:m=0
 .subst ax;have an:(execOp a.eval o).run P w=.ok (.value (.tuple #[])) w:=by
   simp[execOp,h,resolve,invoke,builtin,Builtin.clear_,J.val,run_underlying hu]
  simp only[Oper.wp,an,Oper.upon];refine hN _ d w (En.refl _ d w) i (by simp[Rd,B8]) (λp hp=>?_);simp only[zX]at hp;subst hp;refine⟨I,b,cap,cs,T,fr,I,e2,e3,e4,e5,?_⟩;rintro p z ⟨d8,rfl⟩;rw[wN];exact e6 p (e l[p]) ⟨by omega,q_⟩
 obtain ⟨m,rfl⟩:∃p,m=p+1:=⟨m-1,by omega⟩
 rw[zD j_]at J;obtain ⟨g,ft⟩:∃g,g=(Builtin.zeroCells r.cells (m+1)).toList:=⟨_,rfl⟩
 have lh:g.length=(m+1)*sz:=by rw[ft,wV,X6,ov]
 have mc:Hd g:=λv hv=>by
  rw[ft,Array.mem_toList_iff]at hv;refine a0 v ?_;rw[<-q5];simp only[Builtin.zeroCells,Array.mem_map,Array.mem_range]at hv;obtain ⟨p,hp,rfl⟩:=hv;have h0:0<r.cells.size:=by
   rcases uM r.cells.size with h|h
   .rw[h]at hp;simp at hp
   .exact h
  have dp:p%r.cells.size<r.cells.size:=tQ _ h0;rw[getElem!_pos r.cells _ dp];exact Array.getElem_mem_toList dp
 have a1:k*sz+(m+1)*sz<=cap*sz:=by rw[<-xA];exact yU sz hm
 obtain ⟨w',f1,f2,f3,f4,f5,f6,f7⟩:=Ej P b (k*sz) T fr g 0 cs w e2 e3 j_ mc;obtain ⟨st,inv⟩:=bS i I f3 f4 f5 f6 f7;have an:(execOp a.eval o).run P w=.ok (.value (.tuple #[])) w':=by
  simp[execOp,h,resolve,invoke,builtin,Builtin.clear_,J.val,run_underlying hu,zeroValue,typeInfo,q1,q4,<-ft,f1]
 simp only[Oper.wp,an,Oper.upon];refine hN _ d w' (st.weaken (λk hk=>by subst hk;simp[Up.ws])) inv (by simp[Rd,B8]) (λp hp=>?_);simp only[zX]at hp;subst hp;refine⟨I,b,cap,_,T,fr,I,f2,by rw[C8];exact e3,by rw[C8];exact e4,e5,?_⟩;rintro p z ⟨d8,rfl⟩;have bc:=T3 cs g (k*sz+0);obtain ⟨h0,u,u1,u2,u3,u4⟩:=e6 p (e l[p]) ⟨by omega,rfl⟩;have:(p+1)*sz<=k*sz:=yU sz j_;rw[xA,wC]at this;refine⟨h0,u,?_,u2,u3,λj hj=>?_⟩
 .rw[wN];exact D3.keep st.keeps _ _ u1
 .have gu:k*sz<=cs.length:=by omega
  rw[bc _ j_,zD j_,u4 j hj]
def G_dat{C:Cx}{I:List KI}{s:SS}(i q:Nat){sz:Nat}{m:Type}{e:m->SV}{l:List m}(h:s.σ i=.sl sz e l)(J:l≠[])(R:∀b off cap,l.length<=cap->G C I ⟨upd s.σ i (.val (.slice (some ⟨b,off,none⟩) l.length cap)),upd s.h q (.dat (.slice (some ⟨b,off,none⟩) l.length cap) sz e l)⟩):G C I s:=λk a w g=>by
 have r:=g.ax i;rw[h]at r;have o:=r;simp only[Rd,D3]at r;rcases r with ⟨t,_⟩|⟨b,off,cap,t,h3,_⟩
 .exact zW t J
 .refine R b off cap h3 k a w ⟨g.defers,g.size,g.inv,g.ctx,λj=>?_,λj=>?_⟩
  .show Rd k w (upd s.σ i (.val (.slice (some ⟨b,off,none⟩) l.length cap)) j) _;by_cases p:j=i
   .subst p;rw[C2];simp only[Rd];exact t
   .rw[D7 _ _ p];exact g.ax j
  .show B3 k w j (upd s.h q (.dat (.slice (some ⟨b,off,none⟩) l.length cap) sz e l) j);by_cases p:j=q
   .subst p;rw[C2];rw[t]at o;exact o
   .rw[D7 _ _ p];exact g.obj j
def Amb{P:Program}(Γ:Ty P){o:Oper}{s:SS}{t:TypeId}{r:TI}{et:TypeId}{sz eb b off n cap hi:Nat}{ez:List Value}{x g j:Operand}{k2 k3:IntKind}(h:o.op=.slice t x none (some g) (some j))(ht:Γ.get t=some r)(hk:r.k=.slice et sz eb ez)(lm:ev s x=.val (.slice (some ⟨b,off,none⟩) n cap))(mu:ev s g=.val (.int k2 hi))(yp:ev s j=.val (.int k3 hi))(h3:hi<=cap):Good P o s ⟨.val (.slice (some ⟨b,off,none⟩) hi hi),[],[]⟩ :=
 Good.pure λm a w _ l _=>by
  have p:=l x (by simp[h,Op.operands]);have I:=l g (by simp[h,Op.operands]);have J:=l j (by simp[h,Op.operands]);rw[lm]at p;rw[mu]at I;rw[yp]at J;obtain ⟨R,i,zv,q1,q2,q3,q4,q5⟩:=Di Γ ht hk;have hb:(Instr.sliceBounds true n cap none (some (a.eval g)) (some (a.eval j))).run P w=.ok (0,hi,hi) w:=by
   rw[I.val,J.val];simp[Instr.sliceBounds,Instr.sliceBound,asIntOf,h3]
  refine⟨.slice (some ⟨b,off,none⟩) hi hi,?_,by simp only[Rd]⟩;by_cases hc:hi=0
  .subst hc;simp[execOp,h,p.val,Instr.sliceAt,Instr.slice,run_underlying R,hb,sizeOf,typeInfo,q1]
  .simp[execOp,h,p.val,Instr.sliceAt,Instr.slice,run_underlying R,hb,sizeOf,typeInfo,q1,q2,hc,Addr.add_lit]
def Amf{P:Program}(Γ:Ty P){o:Oper}{s:SS}(q:Nat){t:TypeId}{ti:TI}{et:TypeId}{sz eb b off n cap:Nat}{ez:List Value}{x y:Operand}{f:Type}{e:f->SV}{l l':List f}(h:o.op=.call ⟨.builtin .append,#[x,y],#[t,t]⟩)(ht:Γ.get t=some ti)(hk:ti.k=.slice et sz eb ez)(nq:ez.length=sz)(hx:ev s x=.val (.slice (some ⟨b,off,none⟩) n n))(hq:s.h q=.dat (.slice (some ⟨b,off,none⟩) l.length cap) sz e l)(hn:n<=l.length)(hy:ev s y=.sl sz e l')(bz:(n+l'.length)*eb<=140737488355328)(pn:n+l'.length<=9223372036854775807):Good P o s ⟨.sl sz e (l.take n++l'),[q],[]⟩:=by
 intro d a w r hr ho N Q hN;have r1:=hr x (by simp[h,Op.operands,Call.operands]);have r2:=hr y (by simp[h,Op.operands,Call.operands]);rw[hx]at r1;rw[hy]at r2;have so:=ho q (.inl qx);rw[hq]at so;have so:Rd d w (.sl sz e l) (.slice (some ⟨b,off,none⟩) l.length cap):=so;obtain ⟨hu,ii,zv,q1,q2,q3,q4,q5⟩:=Di Γ ht hk;have ov:zv.cells.size=sz:=by rw[<-nq,<-q5];simp
 have nz:(l.take n).length=n:=by rw[zY];omega
 have cw:Rd d w (.sl sz e (l.take n)) (.slice (some ⟨b,off,none⟩) n n):=by
  simp only[Rd,D3]at so|-;rcases so with ⟨h0,_⟩|⟨b2,a3,pf,h2,h3,h4,h5,h6⟩
  .have ey:n=0:=by rw[h0]at hn;simpa using hn
   subst ey;exact .inl ⟨by simp,_,_,q_⟩
  .cases h2;refine .inr ⟨b,off,n,by rw[nz],by rw[nz];exact yG _,h4,h5,λi hi=>?_⟩;obtain ⟨u,h7,h8⟩:=h6 i j_;exact⟨u,by rw[wN];exact h7,h8⟩
 have yo:=cw.src;have a1:=r2.src;rw[nz]at yo;obtain ⟨m,hm⟩:=kE l'.length;rw[hm]at a1 bz pn;generalize xk:a.eval y=u at *;obtain ⟨ad,c,g,rz,lh,vf,jn,t8⟩:∃(a:Option Addr) (c:Nat) (g:List Value),u=.slice a m c/\g.length=m*sz/\Hd g/\(∀W:World,(∀p:Addr,p.block<w.heap.size->W.cell? p=w.cell? p)->(Builtin.firstCells sz m u).run P W=.ok g.toArray W) /\
   (∀j x,U9 e l' j x->j<m/\∃q:Value,D3 (Own d) w x q/\q.cells.size=sz/\Hd q.cells.toList/\∀l,l<sz->g[j*sz+l]? = q.cells[l]?):=by
  rcases a1 with ⟨rfl,bw,a,c,rfl⟩|⟨b,o,c,g,rfl,h1,h2,h3,h4⟩
  .refine⟨a,c,[],q_,by simp,by simp[Hd],λW _=>?_,λj x h=>zW h (bw j x)⟩;cases a<;>simp[Builtin.firstCells,loadCells,loadCellsFrom]
  .refine⟨some ⟨b,o,none⟩,c,g,q_,h1,h2,λ W hW=>?_,λ j x hx=>h4 j x hx⟩;exact run_firstCells_some (P:=P) W sz m ⟨b,o,none⟩ m c g h1 (λ j q R=>by
    rw[Addr.add_lit];have h5:=h3 j q R;rw[hW _ (by exact World.block_lt_of_cell? w _ h5),h5])
 subst rz;by_cases ax:m=0
 .subst ax;have vh:l'=[]:=yF hm;subst vh;have hc:=jn w (λ_ _=>rfl);have a2:g=[]:=kS lh;subst a2;have an:(execOp a.eval o).run P w=.ok (.value (.slice (some ⟨b,off,none⟩) n n)) w:=by
   simp[execOp,h,resolve,invoke,builtin,Builtin.append_,r1.val,xk,run_underlying hu,sizeOf,typeInfo,q1,q2,Builtin.lenOf,hc,storeCells]
  simp only[Oper.wp,an,Oper.upon];refine hN _ d w (En.refl _ d w) r ?_ (λp hp=>by cases hp);rw[yV];exact cw
 obtain ⟨I,j6,wo,mq⟩:∃I:List Value,I.length=n*sz/\(∀j x,U9 e (l.take n) j x->j<n->∃q:Value,D3 (Own d) w x q/\q.cells.size=sz/\Hd q.cells.toList/\∀l,l<sz->I[j*sz+l]? = q.cells[l]?) /\
   (Builtin.firstCells sz n (.slice (some ⟨b,off,none⟩) n n)).run P w.drew=.ok I.toArray w.drew:=by
  rcases yo with ⟨rfl,bw,_⟩|⟨b2,o2,c2,I,he,g1,g2,g3,g4⟩
  .exact⟨[],by simp,λj x _ R=>zW R j_,run_firstCells_some (P:=P) w.drew sz 0 ⟨b,off,none⟩ 0 0 [] qx (λj v R=>by simp at R)⟩
  .cases he;exact⟨I,g1,λ j x hx _=>(g4 j x hx).2,run_firstCells_some (P:=P) w.drew sz n ⟨b,off,none⟩ n n I g1 (λ j v R=>by
    have:=g3 j v R;rw[Addr.add_lit];simpa using this)⟩
 have ep:n+m<=grownCap w (n+m) n et:=grownCap_ge w (n+m) n et;have ie:¬(281474976710656<Builtin.nextslicecap (n+m) n*ii.bytes):=by
  have:=growslice_fits (need:=n+m) (old:=n) (bytes:=ii.bytes) j_ (by rw[q3];exact bz);omega
 have ej:¬(9223372036854775807<(n:Int)+(m:Int)):=by omega
 have bf:¬n+m<=n:=by omega
 have hc:=jn w.drew (λ_ _=>rfl);obtain ⟨w',vz⟩:∃w',w.drew.alloc (.cells (I.toArray++g.toArray++Builtin.zeroCells zv.cells (grownCap w (n+m) n et-(n+m))) et)=w':=⟨_,rfl⟩
 have an:(execOp a.eval o).run P w=.ok (.value (.slice (some ⟨w.heap.size,0,none⟩) (n+m) (grownCap w (n+m) n et))) w':=by
  rw[<-vz];simp[execOp,h,resolve,invoke,builtin,Builtin.append_,r1.val,xk,run_underlying hu,sizeOf,typeInfo,zeroValue,q4,q1,q2,Builtin.lenOf,ej,ie,Question.forced,mq,hc,newRow,grownCap];rw[zD bf];have ea:∀Z:Array Value,I.toArray++(g.toArray++Z)=(I++g).toArray++Z:=λZ=>by apply Array.ext';simp
  rw[ea]
 have g0:Kb w w':=by rw[<-vz];exact(Kb.drew w).trans (Kb.alloc _ _)
 obtain ⟨st,inv⟩:=Aec r g0;have a0:w'.heap[w.heap.size]? = some (.cells (I++g++(Builtin.zeroCells zv.cells (grownCap w (n+m) n et-(n+m))).toList).toArray et):=by
  rw[<-vz];have:(w.drew.alloc (.cells (I.toArray++g.toArray++Builtin.zeroCells zv.cells (grownCap w (n+m) n et-(n+m))) et)).heap[w.heap.size]? = some (.cells (I.toArray++g.toArray++Builtin.zeroCells zv.cells (grownCap w (n+m) n et-(n+m))) et):=heap_alloc_new w.drew _;rw[this];congr 2;apply Array.ext';simp
 have az:w.heap.size<w'.heap.size:=by rw[<-vz];simp
 simp only[Oper.wp,an,Oper.upon];refine hN _ d w' (st.weaken (λ_ h=>h.elim)) inv ?_ (λp hp=>by cases hp);simp only[Rd,D3];have J:(l.take n++l').length=n+m:=by rw[zR,nz,hm]
 refine .inr ⟨w.heap.size,0,grownCap w (n+m) n et,by rw[J],by rw[J];exact ep,?_,az,λj R=>?_⟩
 .rintro (⟨k,hk⟩|hk)
  .exact Nat.lt_irrefl _ (r.bf k _ hk)
  .exact Nat.lt_irrefl _ (r.bh _ hk)
 .rw[J]at R;by_cases qz:j<n
  .obtain ⟨qv,g1,g2,g3,g4⟩:=wo j (e (l.take n)[j]) ⟨by omega,rfl⟩ qz;refine⟨qv,by rw[yZ j_];exact D3.keep st.keeps _ _ g1,g2,g3,λp hp=>?_⟩;have:(j+1)*sz<=n*sz:=yU sz j_;rw[xA,wC]at this;rw[cell_of_row w' _ _ _ et (0,0) a0,uV,yW,xM j_,xU];exact g4 p hp
  .obtain ⟨_,qv,g1,g2,g3,g4⟩:=t8 (j-n) (e (l'[j-n]'j_)) ⟨by omega,rfl⟩;refine⟨qv,?_,g2,g3,λp hp=>?_⟩
   .rw[xW j_];simp only[nz];exact D3.keep st.keeps _ _ g1
   .have e1:j*sz=n*sz+(j-n)*sz:=by rw[<-xA];congr 1;omega
    have:(j-n+1)*sz<=m*sz:=yU sz j_;rw[xA,wC]at this;rw[cell_of_row w' _ _ _ et (0,0) a0,uV,yW,wD j_,xM j_,<-g4 p hp];congr 1;omega
def Af9{P:Program}{o:Oper}{s:SS}(q:Nat){sz:Nat}{b:Type}{e:b->SV}{l:List b}{v:Value}{x:Operand}(h:o.op=.move x\/o.op=.assign x)(j:ev s x=.val v)(p:s.h q=.dat v sz e l):Good P o s ⟨.sl sz e l,[q],[]⟩ :=
 Good.pure λk a w _ r t=>by
  have g:=t q qx;rw[p]at g;have i:=r x (by rcases h with h|h<;>simp[h,Op.operands]);rw[j]at i;refine⟨a.eval x,?_,?_⟩
  .rcases h with h|h<;>simp[execOp,h]
  .rw[i.val];exact g
def Aka{f g:Nat->Option (Nat×Nat)}:∀(ps:List (Nat×Value)) (cs:Array Value),(∀p∈ps,f p.1=g p.1)->Instr.fill f cs ps=Instr.fill g cs ps
 |[],cs,_=>rfl
 |(i,v)::ps,cs,h=>by
  have j:=h (i,v) qx;simp only[Instr.fill];dsimp only at j;rw[j];cases g i with
  |none=>rfl
  |some l=>
   dsimp only;split
   .rfl
   .exact Aka ps _ (λp hp=>h p (by simp[hp]))
def dV{P:Program}(Γ:Ty P){o:Oper}{s:SS}{t et:TypeId}{l:TI}{len j:Nat}{ps:List (Nat×Operand)}{out:List SV}(h:o.op=.build t ps.toArray)(R:Γ.get t=some l)(hk:l.k=.array et len j)(h1:Afx l.zero=true)(j7:(ps.all λp=>Nat.blt p.1 len)=true)(hf:Akb ((List.range len).map λi=>(i*j,j)) (l.zero.map .val) (ps.map λp=>(p.1,ev s p.2))=some out):Good P o s ⟨.agg out,[],[]⟩ :=
 Good.pure λb a w _ hr _=>by
  obtain ⟨d,info,z,k1,k2,k3,k4,k5,k6⟩:=Γ.ok t l R;obtain ⟨hu,i,q1,q2⟩:=eP Γ R hk;have I:∀ p∈ps,Rd b w (ev s p.2) (a.eval p.2):=λ p hp=>hr p.2 (by
   simp only[h,Op.operands];simp only[List.mem_toArray,yT];exact⟨p,hp,q_⟩)
  obtain ⟨r,r1,r2,r3⟩:=Arb (κ:=b) (w:=w) (a:=a) ps _ out z.cells (by rw[k6];exact Adu _) (by rw[k6];exact cS h1) I hf;refine⟨.agg r,?_,?_⟩
  .have J:=Aka (f:=λ i=>some (i * j,j)) (g:=λ i=>((List.range len).map λ i=>(i * j,j))[i]?) (ps.map λ p=>(p.1,a.eval p.2)) z.cells (λ p hp=>by
    obtain ⟨x,hx,rfl⟩:=yT.1 hp;have ab:x.1<len:=wG (yX.1 j7 x hx);dsimp only;rw[wX,uG ab];rfl)
   simp only[execOp,h,Sem.run_bind,Instr.build,zeroValue,typeInfo,run_program,Result.andThen_ok,k3,k5,Sem.run_pure,run_underlying hu,sizeOf,q1,q2,List.map_toArray];rw[J,r1];simp
  .simp only[Rd];exact⟨r.toList,by simp,r3,r2⟩
mutual
def rnb(k d:Nat):SV->SV
 | .ptr j o=>bif Nat.beq j k then .ptr d o else .ptr j o
 | .agg l=>.agg (Aig k d l)
 | .tup l=>.tup (Aig k d l)
 | .ifc t y=>.ifc t (rnb k d y)
 | .clo f g l=>.clo f (Aig k d g) (Aig k d l)
 |y=>y
def Aig(k d:Nat):List SV->List SV
 |[]=>[]
 |y::l=>rnb k d y::Aig k d l
end
mutual
theorem Ay5{a a':Ka}{w:World}{K:Nat->Prop}{k d:Nat}(st:En K a w a' w)(I:∀o v,Rd a w (.ptr k o) v->Rd a' w (.ptr d o) v):∀(y:SV) (v:Value),Rd a w y v->Rd a' w (rnb k d y) v
 | .ptr j o,v,h=>by
  unfold rnb;by_cases R:j=k
  .subst R;rw[show Nat.beq j j=true from tT j];exact I o v h
  .rw[show Nat.beq j k=false from by cases hb:Nat.beq j k with|false=>rfl|true=>exact zW (yN hb) R];exact Rd.step st _ _ h
 | .agg l,v,h=>by
  simp only[Rd]at h;unfold rnb;simp only[Rd];obtain ⟨cs,p,J,r⟩:=h;exact⟨cs,p,J,Zp st I l cs r⟩
 | .tup l,v,h=>by
  simp only[Rd]at h;unfold rnb;simp only[Rd];obtain ⟨cs,p,r⟩:=h;exact⟨cs,p,Zp st I l cs r⟩
 | .ifc t y,v,h=>by
  simp only[Rd]at h;unfold rnb;simp only[Rd];obtain ⟨u,p,r⟩:=h;exact⟨u,p,Ay5 st I y u r⟩
 | .clo f g l,v,h=>by
  simp only[Rd]at h;unfold rnb;simp only[Rd];obtain ⟨fs,cs,p,J,r⟩:=h;exact⟨fs,cs,p,Zp st I g fs J,Zp st I l cs r⟩
 | .top,v,h=>by unfold rnb;exact Rd.step st _ _ h
 | .val u,v,h=>by unfold rnb;exact Rd.step st _ _ h
 | .sl sz e l,v,h=>by unfold rnb;exact Rd.step st _ _ h
 | .ref sz z o,v,h=>by unfold rnb;exact Rd.step st _ _ h
 | .rpt k sz i o,v,h=>by unfold rnb;exact Rd.step st _ _ h
 | .osl k,v,h=>by unfold rnb;exact Rd.step st _ _ h
theorem Zp{a a':Ka}{w:World}{K:Nat->Prop}{k d:Nat}(st:En K a w a' w)(g:∀o v,Rd a w (.ptr k o) v->Rd a' w (.ptr d o) v):∀(l:List SV) (vs:List Value),B8 a w l vs->B8 a' w (Aig k d l) vs
 |[],vs,h=>by
  unfold Aig;simpa [B8] using h
 |y::l,vs,h=>by
  simp only[B8]at h;unfold Aig;simp only[B8];obtain ⟨v,r,i,j,p⟩:=h;exact⟨v,r,i,Ay5 st g y v j,Zp st g l r p⟩
end
def rnbO(k d:Nat):Ob->Ob
 | .box l=>.box (Aig k d l)
 |o=>o
def Ayp{a:Ka}{w:World}{k d b:Nat}(hi:Inv a w)(I:a k=.blk b)(o:a d=.new):En (λj=>j=k\/j=d) a w (H4 (H4 a k .dead) d (.blk b)) w/\Inv (H4 (H4 a k .dead) d (.blk b)) w:=by
 have cd:k≠d:=λe=>by subst e;rw[I]at o;cases o
 have l:(a k).block? = some b:=by rw[I];rfl
 have key:∀j c,((H4 (H4 a k .dead) d (.blk b)) j).block? = some c->(j=d/\c=b)\/(j≠d/\j≠k/\(a j).block? = some c):=by
  intro j c h;by_cases g:j=d
  .subst g;rw[Az]at h;exact .inl ⟨rfl,by simpa [Ent.block?] using h.symm⟩
  .rw[C4 _ _ g]at h;by_cases p:j=k
   .subst p;rw[Az]at h;cases h
   .rw[C4 _ _ p]at h;exact .inr ⟨g,p,h⟩
 refine⟨⟨yG _,q_,q_,q_,q_,λ_ _=>rfl,λ_ _ _=>rfl,λ_ _ _ _=>rfl,λj g=>?_,?_,?_⟩,⟨?_,?_,?_,λc h=>hi.bh c h⟩⟩
 .rw[C4 _ _ (λe=>g (.inr e)),C4 _ _ (λe=>g (.inl e))]
 .rintro j (rfl|rfl)
  .exact .inr (.inr (by rw[C4 _ _ cd,Az]))
  .exact .inl o
 .rintro c (⟨j,g⟩|g)
  .rcases key j c g with ⟨_,rfl⟩|⟨_,_,h⟩
   .exact .inl (.inl ⟨k,l⟩)
   .exact .inl (.inl ⟨j,h⟩)
  .exact .inl (.inr g)
 .intro i j c h1 h2;rcases key i c h1 with ⟨J,r⟩|⟨J,r,R⟩<;>rcases key j c h2 with ⟨b1,t⟩|⟨b1,t,b3⟩
  .exact J.trans b1.symm
  .subst r;exact zW (hi.inj j k _ b3 l) t
  .subst t;exact zW (hi.inj i k _ R l) r
  .exact hi.inj i j c R b3
 .intro j c h;rcases key j c h with ⟨_,rfl⟩|⟨_,_,h⟩
  .exact hi.bf k _ l
  .exact hi.bf j c h
 .intro j c h;rcases key j c h with ⟨_,rfl⟩|⟨_,_,h⟩
  .exact hi.apart k _ l
  .exact hi.apart j c h
def Vs{C:Cx}{kk:List KI}{s:SS}(k d:Nat){l:List SV}(h:s.h k=.box l)(hd:s.h d=.fresh)(cd:k≠d)(hg:G C kk ⟨λi=>rnb k d (s.σ i),upd (λj=>bif Nat.beq j k then .non else rnbO k d (s.h j)) d (.box (Aig k d l))⟩):G C kk s:=λc a w r=>by
 have cz:=r.obj k;rw[h]at cz;have ay:c d=.new:=by have:=r.obj d;rwa [hd]at this
 obtain ⟨b,cs,T,fr,e1,e2,e3,e4,e5⟩:=cz;obtain ⟨st,inv⟩:=Ayp r.inv e1 ay;have ag:∀j,j≠k->j≠d->(H4 (H4 c k .dead) d (.blk b)) j=c j:=λj h1 h2=>by rw[C4 _ _ h2,C4 _ _ h1]
 have t:∀o v,Rd c w (.ptr k o) v->Rd (H4 (H4 c k .dead) d (.blk b)) w (.ptr d o) v:=λo v t=>by
  simp only[Rd,e1]at t;simp only[Rd,Az];exact t
 refine hg _ a w ⟨r.defers,r.size,inv,r.ctx.step inv st,λj=>Ay5 st t _ _ (r.ax j),λj=>?_⟩;show B3 _ w j (upd (λj=>bif Nat.beq j k then .non else rnbO k d (s.h j)) d (.box (Aig k d l)) j);by_cases J:j=d
 .subst J;rw[C2];exact⟨b,cs,T,fr,Az _ _ _,e2,e3,e4,Zp st t l cs e5⟩
 .rw[D7 _ _ J];by_cases R:j=k
  .subst R;rw[show Nat.beq j j=true from tT j];trivial
  .rw[show Nat.beq j k=false from by cases g:Nat.beq j k with|false=>rfl|true=>exact zW (yN g) R];have g:=B3.step st (λe=>e.elim R J) _ (r.obj j);have h0:=r.obj j;show B3 _ w j (rnbO k d (s.h j));cases p:s.h j with
   |box m=>
    rw[p]at h0 g;obtain ⟨b2,wa,T2,xm,f1,f2,f3,f4,f5⟩:=h0;exact⟨b2,wa,T2,xm,(ag j R J).trans f1,f2,f3,f4,Zp st t m wa f5⟩
   |fresh=>rw[p]at g;exact g
   |non=>rw[p]at g;exact g
   |row I e' l'=>rw[p]at g;exact g
   |lit I a0=>rw[p]at g;exact g
   |glob I x' g'=>rw[p]at g;exact g
   |pin b' n' dy I e' l'=>rw[p]at g;exact g
   |dat v' I e' l'=>rw[p]at g;exact g
   |trow T' m'=>rw[p]at g;exact g
   |rown I e' l' i' a1=>rw[p]at g;exact g
   |tbox T' m'=>rw[p]at g;exact g
structure Alf(P:Program)(t:TypeId)(name:String)(f:FuncId)(pr:Bool)(e:TypeId):Prop where
 row:∃i m,P.info? t=some i/\i.methods.find? (·.name==name)=some m/\m.path=#[]/\m.func=some (f,pr)
 under:P.underlying t=some (.pointer e)
def Aic{P:Program}{t:TypeId}{name:String}{f:FuncId}{e:TypeId}(hm:Alf P t name f true e)(w:World)(v:Value):(Go.method (P.types.size+Made.depth) t v name).run P w=.ok (f,v) w:=by
 obtain ⟨⟨i,m,g,j,l,o⟩,p⟩:=hm;show (Go.method (P.types.size+99+1) t v name).run P w=_;rw[Go.method];simp only[Sem.run_bind,run_typeInfo w g,Result.andThen_ok,j,l,Go.follow,Sem.run_pure,o,Go.receiverAt,run_underlying p,Go.Place.get]
def Aib{P:Program}{t:TypeId}{name:String}{f:FuncId}{e:TypeId}(hm:Alf P t name f false e)(w:World)(a:Addr){v:Value}(g:(loadVar e a).run P w=.ok v w):(Go.method (P.types.size+Made.depth) t (.pointer (some a)) name).run P w=.ok (f,v) w:=by
 obtain ⟨⟨i,m,j,l,o,p⟩,r⟩:=hm;show (Go.method (P.types.size+99+1) t (.pointer (some a)) name).run P w=_;rw[Go.method];have I:(#[]:Array FieldStep).isEmpty=true:=rfl;simp only[Sem.run_bind,run_typeInfo w j,Result.andThen_ok,l,o,Go.follow,Sem.run_pure,p,Go.receiverAt,run_underlying r,Go.Place.get,I,if_true];have J : ∀n : String, (Builtin.ssaWrapNilChk_ #[t] t #[.pointer (some a), strVal "", strVal n]).run P w = .ok (.pointer (some a)) w := λn=> rfl
 simp only[J,Result.andThen_ok,asAddr,Sem.run_pure,g]
def nQ{P:Program}{o:Oper}{s:SS}{rd:List Nat}{f:FuncId}{fn:Func}{c:Code}{t e:TypeId}{name:String}{x:Operand}{xs:List Operand}{l:Array TypeId}{y:SV}(hm:Alf P t name f true e)(p:Fun P f fn c)(h:o.op=.call ⟨.invoke x name,xs.toArray,l⟩)(r:ev s x=.ifc t y):Enters P o s rd f (y::xs.map (ev s)) :=
 λk a w i _=>by
  have g:=i x (by simp[h,Op.operands,Call.operands]);rw[r]at g;simp only[Rd]at g;obtain ⟨u,I,J⟩:=g;refine⟨u::xs.map a.eval,?_,?_⟩
  .have j:=U8 p (u::xs.map a.eval).toArray w;have R:=Aic hm w u;simp only[execOp,h,resolve,invoke,I,Sem.run_bind,Sem.run_pure,Result.andThen_ok]at j|-;simp only[callMethod];rw[<-j];have gm:(xs.map a.eval).take xs.length=xs.map a.eval:=xI qx;simp[R,Sem.run_bind,gm]
  .simp only[B8];exact⟨_,_,q_,J,Xs xs (λy hy=>i y (by simp[h,Op.operands,Call.operands,hy]))⟩
def C1{P:Program}(Γ:Ty P){o:Oper}{s:SS}{f:FuncId}{fn:Func}{c:Code}{t e:TypeId}{j:TI}{name:String}{x:Operand}{xs:List Operand}{R:Array TypeId}{k off:Nat}{l:List SV}{z:SV}(hm:Alf P t name f false e)(hf:Fun P f fn c)(h:o.op=.call ⟨.invoke x name,xs.toArray,R⟩)(hx:ev s x=.ifc t (.ptr k off))(hk:s.h k=.box l)(ht:Γ.get e=some j)(hz:Ur j l off=some z):Enters P o s [k] f (z::xs.map (ev s)) :=
 λm a w p ho=>by
  have g:=p x (by simp[h,Op.operands,Call.operands]);rw[hx]at g;simp only[Rd]at g;obtain ⟨u,e1,i⟩:=g;have r:=ho k qx;rw[hk]at r;obtain ⟨b,f1,f2⟩:=r.cellsAt;rw[f1]at i;simp only at i;subst i;obtain ⟨v,I,g2⟩:=S5 (P:=P) Γ ht f2 hz;rw[xU]at I;refine⟨v::xs.map a.eval,?_,?_⟩
  .have J:=U8 hf (v::xs.map a.eval).toArray w;have sw:=Aib hm w ⟨b,off,none⟩ I;simp only[execOp,h,resolve,invoke,e1,Sem.run_bind,Sem.run_pure,Result.andThen_ok]at J|-;simp only[callMethod];rw[<-J];have gm:(xs.map a.eval).take xs.length=xs.map a.eval:=xI qx;simp[sw,Sem.run_bind,gm]
  .simp only[B8];exact⟨_,_,q_,g2,Xs xs (λy hy=>p y (by simp[h,Op.operands,Call.operands,hy]))⟩
def Agc{P:Program}(Γ:Ty P){o:Oper}{s:SS}{x:Operand}{l t:TypeId}{g:TI}{y:SV}{ok:Bool}(h:o.op=.typeAssert x l t ok)(I:ev s x=.ifc t y)(J:Γ.get t=some g)(hk:g.k matches .bool| .int _| .string| .slice .. | .struct _| .ptr| .func):Good P o s ⟨if ok then .tup [y,Ab true] else y,[],[]⟩ :=
 Good.pure λb a w _ R _=>by
  have i:=R x (by simp[h,Op.operands]);rw[I]at i;simp only[Rd]at i;obtain ⟨u,e1,p⟩:=i;obtain ⟨d,info,z,k1,k2,_⟩:=Γ.ok t g J;have j:∀r,d≠.interface r:=by
   obtain ⟨k,n,zz⟩:=g;intro r hd;subst hd;cases k<;>simp_all[TK.ok]
  have an:(Instr.typeAssert (.iface t u) l t ok).run P w=.ok (if ok then .tuple #[u,.bool true] else u) w:=by
   cases d<;>first
    |exact zW rfl (j _)
    |(cases ok<;>simp[Instr.typeAssert,run_underlying k1])
  refine⟨if ok then .tuple #[u,.bool true] else u,by simp[execOp,h,e1,an],?_⟩;cases ok
  .exact p
  .simp only[if_true,Rd,B8];exact⟨[u,.bool true],q_,_,_,q_,p,_,_,q_,by simp[Ab,Rd],q_⟩
def Bgu(P:Program)(t:TypeId)(name:String)(f:FuncId)(j:Bool):Bool :=
 match P.info? t with
 | some i=>(match i.methods.find? (·.name == name) with
  |some m=>m.path.isEmpty&&(match m.func with|some (g,b)=>Nat.beq g f&&(b==j)|none=>false)
  | none=>false)
 |none=>false
theorem Alf.of{P:Program}{t:TypeId}{name:String}{f:FuncId}{o:Bool}{e:TypeId}(h:Bgu P t name f o=true)(p:P.underlying t=some (.pointer e)):Alf P t name f o e:=by
 refine⟨?_,p⟩;unfold Bgu at h;split at h
 .rename_i i hi;split at h
  .rename_i m hm;simp only[zG]at h;obtain ⟨r,j⟩:=h;split at j
   .rename_i g b I;simp only[zG,yL]at j;obtain ⟨l,rfl⟩:=j;have l:=yN l;subst l;exact⟨i,m,hi,hm,kS r,I⟩
   .cases j
  .cases h
 .cases h
theorem VwL.get{s:SS}{V:List Nat}:∀{l m:List SV} (_:VwL s V l m) {i:Nat} {y:SV},Lr m i=some y->∃x,Lr l i=some x/\Vw s V x y
 |_,_,.nil,i,y,h=>by cases i<;>simp[Lr]at h
 |_,_,.cons (x:=x) g j,0,y,h=>by
  simp only[Lr,Option.some.injEq]at h;subst h;exact⟨x,q_,g⟩
 |_,_,.cons g j,i+1,y,h=>VwL.get j (i:=i) h
theorem VwL.len{s:SS}{V:List Nat}:∀{l m:List SV} (_:VwL s V l m),m.length=l.length
 |_,_,.nil=>rfl
 |_,_,.cons _ g=>by simp[VwL.len g]
def Aon:∀{l:List SV} {i:Nat} {x:SV},Y6 l=true->Lr l i=some x->x.data=true
 |[],i,x,_,h=>by cases i<;>simp[Lr]at h
 |y::l,0,x,g,h=>by
  simp only[Lr,Option.some.injEq]at h;subst h;simp only[Y6,zG]at g;exact g.1
 |y::l,i+1,x,g,h=>by
  simp only[Y6,zG]at g;exact Aon g.2 (i:=i) h
def A2c{C:Cx}{k:List KI}{s:SS}(d:Nat){sz:Nat}{l:List SV}(p:List SV)(h:s.h d=.lit sz l)(t:VwL s [] l p)(hd:Y6 p=true)(hg:G C k ⟨s.σ,upd s.h d (.lit sz p)⟩):G C k s:=λm a w g=>by
 refine hg m a w ⟨g.defers,g.size,g.inv,g.ctx,g.ax,λj=>?_⟩;show B3 m w j (upd s.h d (.lit sz p) j);by_cases I:j=d
 .subst I;rw[C2];have J:=g.obj j;rw[h]at J;have o:=t.len;obtain ⟨b,cap,cs,T,fr,e1,e2,e3,e4,e5,e6⟩:=J;refine⟨b,cap,cs,T,fr,by rw[o];exact e1,e2,e3,e4,by omega,λi x R=>?_⟩;obtain ⟨y,hy,r⟩:=t.get R;obtain ⟨f1,u,f2,f3⟩:=e6 i y hy;exact⟨by omega,u,Rd.data _ _ (Aon hd R) (r.rd g.inv (λn hn=>by cases hn) f2.toRd),f3⟩
 .rw[D7 _ _ I];exact g.obj j
theorem B8.setI{k:Ka}{w:World}{x:SV}{v:Value}(j:Rd k w x v):∀{l:List SV} {cs:List Value} (i:Nat),B8 k w l cs->B8 k w (l.set i x) (cs.set i v)
 |[],cs,i,h=>by simp only[B8]at h;subst h;simp[B8]
 |y::l,cs,0,h=>by
  simp only[B8]at h;obtain ⟨u,r,rfl,o,g⟩:=h;simp only[uA,B8];exact⟨v,r,q_,j,g⟩
 |y::l,cs,i+1,h=>by
  simp only[B8]at h;obtain ⟨u,r,rfl,o,g⟩:=h;simp only[List.set_cons_succ,B8];exact⟨u,_,q_,o,g.setI j i⟩
def H9{a:Ka}{w:World}{k:Nat}{l:List SV}(hi:Inv a w)(h:B3 a w k (.box l)){off:Nat}{x:SV}{v:Value}(_hx:x.plain=true)(R:∀a w,Rd a w x v)(h1:v.oneCell'=true):∃b,a k=.blk b/\(∀j y,Lr l j=some y->∃u,w.cell? ⟨b,j,none⟩=some u/\Rd a w y u)/\(∀j,j<l.length->w.frozen? ⟨b,j,none⟩=false) /\
   En (·=k) a w a (w.setCell ⟨b,off,none⟩ v)/\Inv a (w.setCell ⟨b,off,none⟩ v)/\B3 a (w.setCell ⟨b,off,none⟩ v) k (.box (l.set off x)):=by
 obtain ⟨b,cs,T,i,o,p,t,e4,r⟩:=h;have ls:(w.setCell ⟨b,off,none⟩ v).heap[b]? = some (.cells (cs.set off v).toArray T i):=by
  simp[World.setCell,Array.getElem?_modify,p]
 have g:∀j,j≠b->(w.setCell ⟨b,off,none⟩ v).heap[j]? = w.heap[j]?:=λj I=>heap_setCell_other w ⟨b,off,none⟩ j v I
 obtain ⟨st,inv⟩:=Vx (w':=w.setCell ⟨b,off,none⟩ v) hi (k:=k) (b:=b) (by rw[o];rfl) rfl rfl rfl qx g;have J:=r.length;refine⟨b,o,λj y hy=>?_,λj I=>?_,st,inv,b,_,T,i,o,ls,by rw[yO];exact t,?_,(B8.step st _ _ r).setI (R _ _) off⟩
 .obtain ⟨u,hu,hr⟩:=r.get hy;exact⟨u,by rw[cell_of_row w b j cs.toArray T i p,uV];exact hu,hr⟩
 .obtain ⟨lo,hi'⟩:=i;simp only[World.frozen?,p];rcases t with h|h
  .simp only at h;subst h;simp
  .simp only at h;simp;omega
 .intro c hc;rcases tA hc with h|h
  .exact e4 c h
  .rw[h];exact h1
def nK{P:Program}{o:Oper}{s:SS}{f:FuncId}{g:IntKind}{p:Array TypeId}{x:Operand}{k off:Nat}{l:List SV}{v:Int}(r:∀(a:Addr) (x:Int) (w:World),w.cell? a=some (.int g x)->(callFunc f #[.pointer (some a)]).run P w=.ok (.value (.int g x)) w)(h:o.op=.call ⟨.value (.func f),#[x],p⟩)(t:ev s x=.ptr k off)(I:s.h k=.box l)(J:Lr l off=some (.val (.int g v))):Good P o s ⟨.val (.int g v),[k],[]⟩ :=
 Good.pure λm a w hi R ho=>by
  have i:=R x (by simp[h,Op.operands,Call.operands]);rw[t]at i;have j:=ho k qx;rw[I]at j;obtain ⟨b,cs,T,fr,e1,e2,e3,e4,e5⟩:=j;simp only[Rd,e1]at i;obtain ⟨u,hu,r9⟩:=e5.get J;have hc:w.cell? ⟨b,off,none⟩=some (.int g v):=by rw[cell_of_row w b off cs.toArray T fr e2,uV,hu,r9.val]
  have an:=r ⟨b,off,none⟩ v w hc;refine⟨.int g v,?_,by simp only[Rd]⟩;have uo:a.eval (.func f)=.func (.func f) #[] #[]:=rfl;simp[execOp,h,resolve,uo,Deferred.ofValue,invoke,i,an]
def Aqz{P:Program}{o:Oper}{s:SS}{f:FuncId}{ts:Array TypeId}{x y:Operand}{k off:Nat}{l:List SV}{v d:Int}(hf:∀(a:Addr) (x y:Int) (w:World),w.cell? a=some (.int .i64 x)->w.frozen? a=false->(callFunc f #[.pointer (some a),.int .i64 y]).run P w=.ok (.value (.int .i64 (IntKind.i64.wrap (x+y)))) (w.setCell a (.int .i64 (IntKind.i64.wrap (x+y)))))(h:o.op=.call ⟨.value (.func f),#[x,y],ts⟩)(hx:ev s x=.ptr k off)(hy:ev s y=.val (.int .i64 d))(hk:s.h k=.box l)(j:Lr l off=some (.val (.int .i64 v)))(hv:IntKind.i64.wrap (v+d)=v+d):Good P o s ⟨.val (.int .i64 (v+d)),[],[(k,.box (l.set off (.val (.int .i64 (v+d)))))]⟩:=by
 intro m a w hi r ho N Q hN;have i:=r x (by simp[h,Op.operands,Call.operands]);have t:=r y (by simp[h,Op.operands,Call.operands]);rw[hx]at i;rw[hy]at t;have I:=ho k (.inr (by simp[Up.ws]));rw[hk]at I;obtain ⟨b,e1,c1,c2,st,inv,ob⟩:=H9 (off:=off) (x:=.val (.int .i64 (v+d))) (v:=.int .i64 (v+d)) hi I rfl (λ_ _=>by simp only[Rd]) rfl;simp only[Rd,e1]at i;obtain ⟨u,J,r9⟩:=c1 off _ j;rw[r9.val]at J;have R:=hf ⟨b,off,none⟩ v d w J (c2 off (Ahl j));rw[hv]at R;have g:(execOp a.eval o).run P w=.ok (.value (.int .i64 (v+d))) (w.setCell ⟨b,off,none⟩ (.int .i64 (v+d))):=by
  have uo:a.eval (.func f)=.func (.func f) #[] #[]:=rfl;simp[execOp,h,resolve,uo,Deferred.ofValue,invoke,i,t.val,R]
 simp only[Oper.wp,g,Oper.upon];refine hN _ m _ (st.weaken (by simp[Up.ws])) inv (by simp only[Rd]) (λp hp=>?_);simp only[zX]at hp;subst hp;exact ob
def nL{P:Program}(Γ:Ty P){o:Oper}{s:SS}(q:Nat){t:TypeId}{ti:TI}{et:TypeId}{eb b n cap lo k c1 c2:Nat}{ez:List Value}{x y:Operand}{c:Type}{e:c->SV}{l:List c}{B B2:Option Addr}(h:o.op=.call ⟨.builtin .copy,#[x,y],#[t,t]⟩)(ht:Γ.get t=some ti)(hk:ti.k=.slice et 1 eb ez)(hx:ev s x=.val (.slice B (n-lo) c1))(hB:B=some ⟨b,lo,none⟩)(hy:ev s y=.val (.slice B2 k c2))(a1:B2=some ⟨b,0,none⟩)(hq:s.h q=.pin b n cap 1 e l)(hl:l.length=n)(cq:k<=n)(gi:0<min k (n-lo)):Good P o s ⟨.val (.int .i64 (min k (n-lo):Nat)),[],[(q,.pin b n cap 1 e (l.take lo++l.take (min k (n-lo))++l.drop (lo+min k (n-lo))))]⟩:=by
 intro m a w a0 hr ho N Q hN;have r1:=hr x (by simp[h,Op.operands,Call.operands]);have r2:=hr y (by simp[h,Op.operands,Call.operands]);rw[hx]at r1;rw[hy]at r2;subst hB;subst a1;have cz:=ho q (.inr (by simp[Up.ws]));rw[hq]at cz;obtain ⟨e0,b',dy,cs,T,fr,e1,e2,e3,e4,e5,e6⟩:=cz;rw[e0]at e1;cases e1;obtain ⟨hu,ii,zv,q1,q2,q3,q4,q5⟩:=Di Γ ht hk;obtain ⟨r,xr⟩:=kE (min k (n-lo));rw[xr]at gi hN;have jn:n<=cs.length:=by omega
 have db:∀i,i<n->∃u:Value,u.cells.size=1/\Hd u.cells.toList/\∀j,j<1->cs[i*1+j]? = u.cells[j]?:=λi hi=>by
  obtain ⟨_,u,_,J⟩:=e6 i (e l[i]) ⟨by omega,rfl⟩;exact⟨u,J⟩
 obtain ⟨g,ft⟩:∃g,g=cs.take r:=⟨_,rfl⟩
 have lh:g.length=r:=by rw[ft,zY];omega
 have a8:∀p,p<r->g[p]? = cs[p]?:=λp hp=>by rw[ft,vX,zE hp]
 have mc:Hd g:=λv hv=>by
  obtain ⟨p,hp,he⟩:=wH hv;have h1:g[p]? = some v:=by rw[zT hp,he]
  rw[lh]at hp;rw[a8 p hp]at h1;exact Ata (n:=n) db j_ h1
 obtain ⟨w',f1,f2,f3,f4,f5,f6,f7⟩:=Ej P b lo T fr g 0 cs w e2 e3 j_ mc;obtain ⟨st,inv⟩:=bS a0 e0 f3 f4 f5 f6 f7;have d7:∀p v,cs[p]? = some v->w.cell? ⟨b,p,none⟩=some v:=λp v hp=>by simp[World.cell?,e2,hp]
 have hc:=Aor (P:=P) w w' t t o.type et ⟨b,lo,none⟩ ⟨b,0,none⟩ (n-lo) c1 k c2 g hu q1 q2 (by rw[lh,xr]) (λ j v hv=>by
  rw[Addr.add_lit];have ab:j<r:=by rw[<-lh];exact(uZ.1 hv).1
  rw[a8 j ab]at hv;rw[xU];exact d7 _ _ hv) f1
 rw[lh]at hc;have an:(execOp a.eval o).run P w=.ok (.value (.int .i64 (r:Nat))) w':=by
  simp[execOp,h,resolve,invoke,builtin,r1.val,r2.val,hc]
 simp only[Oper.wp,an,Oper.upon];refine hN _ m w' (st.weaken (λk hk=>by subst hk;simp[Up.ws])) inv (by simp only[Rd]) (λp hp=>?_);simp only[zX]at hp;subst hp;refine⟨e0,b,cap,_,T,fr,e0,f2,by rw[C8];exact e3,by rw[C8];exact e4,e5,?_⟩;rintro i z ⟨R,rfl⟩;have bc:=T3 cs g (lo+0);have I:(l.take lo++l.take r++l.drop (lo+r)).length=n:=by
  simp only[zR,zY,yP];omega
 rw[I]at R;have src:∀j (hj:j<l.length),∃u:Value,D3 (Own m) w (e l[j]) u/\u.cells.size=1/\Hd u.cells.toList/\∀p,p<1->cs[j*1+p]? = u.cells[p]?:=λj hj=>(e6 j (e l[j]) ⟨hj,rfl⟩).2
 by_cases ud:i<lo
 .obtain ⟨u,u1,J,u3,u4⟩:=src i j_;refine⟨R,u,?_,J,u3,λp hp=>?_⟩
  .have:(l.take lo++l.take r++l.drop (lo+r))[i]'(by rw[I];exact R)=l[i]'j_:=by
    rw[yZ (by simp only[zR,zY];omega),yZ (by simp only[zY];omega),wN]
   rw[this];exact D3.keep st.keeps _ _ u1
  .rw[bc _ j_,zD j_,u4 p hp]
 .by_cases jg:i<lo+r
  .obtain ⟨u,u1,J,u3,u4⟩:=src (i-lo) j_;refine⟨R,u,?_,J,u3,λp hp=>?_⟩
   .have:(l.take lo++l.take r++l.drop (lo+r))[i]'(by rw[I];exact R)=l[i-lo]'j_:=by
     rw[yZ (by simp only[zR,zY];omega),xW (by simp only[zY];omega),wN];congr 1;simp only[zY];omega
    rw[this];exact D3.keep st.keeps _ _ u1
   .rw[bc _ j_,zE j_,a8 _ j_,<-u4 p hp];congr 1;omega
  .obtain ⟨u,u1,J,u3,u4⟩:=src i j_;refine⟨R,u,?_,J,u3,λp hp=>?_⟩
   .have:(l.take lo++l.take r++l.drop (lo+r))[i]'(by rw[I];exact R)=l[i]'j_:=by
     rw[xW (by simp only[zR,zY];omega),vS];congr 1;simp only[zR,zY];omega
    rw[this];exact D3.keep st.keeps _ _ u1
   .rw[bc _ j_,zD j_,u4 p hp]
end Go.Sy
namespace Go.Sy.Zaa
open Go.Proofs Go.Proofs.Tryz
attribute [local irreducible]G DR
set_option maxRecDepth 100000
def any_at3{k:Type}{p:k->Bool}{l:List k}{j:Nat}(g:j<l.length)(h:p l[j]=true):l.any p=true:=wA.2 ⟨_,zI g,h⟩
def Ao6{k:Type}{p:k->Bool}{l:List k}{j:Nat}(g:Ic (λ_ x=>!(p x)) l j)(r:l.length<=j):l.any p=false:=by
 rw[wE];intro x o;obtain ⟨i,hi,rfl⟩:=wH o;have:=g i hi j_;simpa using this
def Wj(x:B7):Bool:=decide (2000<x.bytes.length)||decide (60<x.up.length)
def dO(l:List B7):Bool:=decide (60<l.length)||l.any Wj
def Bcc(l:List B7):Sp 23 [.sl 6 Dm l] (Ab (dO l)):=cT F23 ntmps23 λF hF=>by
 have g:=dO.eq_1 l;generalize dO l=R at *
 conv=>whnf
 constructor<;>intro h
 .rw[zL (qA h),wT]at g;subst g;exact gM
 have hl:l.length<=60:=qB h;rw[zJ j_,vI]at g;refine oO ?_;refine Bb l.length (λj=>Ic (λ_ x=>!(Wj x)) l j) (λj=>[(0,.sl 6 Dm l),(3,Aa j)]) (λ_=>[]) [] (Bn _ _) kU ?_;intro j hj i;refine gI ?_ ?_<;>intro h
 .have o:j<l.length:=qA h;have r:(j:Int).toNat<l.length:=kS o;have t:=λh=>@any_at3 _ Wj l j o h
  have J:=λh=>Bk (p:=λ_ x=>!(Wj x)) i o h
  obtain ⟨x,I⟩:=kE (l[(j:Int).toNat]'r);have pc:l[j]=x:=I;rw[pc]at t J;refine oO ?_;refine⟨q_,by omega,r,?_⟩;rw[I]
  conv=>whnf
  constructor<;>intro h
  .rw[t (by rw[Wj,zL (qA h),wT])]at g;subst g;refine oT ?_;exact dN
  have h1:=zQ h;refine oO ?_;refine⟨q_,by omega,r,?_⟩;rw[I]
  conv=>whnf
  constructor<;>intro h
  .rw[t (by rw[Wj,zL (by have:=zO h;omega:60<x.up.length),tY])]at g;subst g;exact gM
  have h2:=zQ h;refine gG ?_;exact A6 [] i j_ (J (by rw[Wj,zJ j_,zJ j_];rfl)) kU
 .have bu:j=l.length:=qB h;subst bu;rw[Ao6 i (yG _)]at g;subst g;exact gM
end Go.Sy.Zaa
namespace Go.Sy
open Go.ChangeShapes Go.WideShapes Go.ChangeAt Go.RowKit
section
variable {H:Type} (fh:TypeId×Value->H) (P:Program) (W:World)
def Op1(t:TypeId){k:Type}(e:k->SV)(p:k->Prop):Prop :=
 ∀n c y,DataW.trod fh P W 0 (λ_=>true) true n t [c]=some y->∃x,p x/\Rd k0 W (e x) c/\c.oneCell'=true
def OpN(t:TypeId){k:Type}(e:k->SV)(p:k->Prop)(sz:Nat):Prop :=
 ∀n cs y,DataW.trod fh P W 0 (λ_=>true) true n t cs=some y->∃x,p x/\cs.length=sz/\Hd cs/\B8 k0 W (cellsOf (e x)) cs
variable {fh P W}
theorem A24{t:TypeId}{k:IntKind}(i:P.underlying t=some (.int k)):OpN fh P W t (λz=>.val (.int k z)) (λz=>(Lit.int k z).wf=true) 1:=λn cs y h=>by
 obtain ⟨z,rfl,_,j⟩:=DataW.trod_int i h;refine⟨z,j,q_,λc g=>by simp at g;subst g;rfl,?_⟩;simp[cellsOf,B8,Rd]
theorem Aoz{base:Nat}{a:Addr}{n:Nat}{cs:List Value}(h:W.cells? base a n=some cs):cs.length=n/\∀j (_:j<n),W.cell? (a.add j)=cs[j]?:=by
 unfold World.cells? at h;split at h
 .refine⟨kS (mapM_some_length h),λj g=>?_⟩;exact mapM_some_get h j j (by simp[g])
 .cases h
theorem At6{t et:TypeId}{d:Type}{e:d->SV}{p:d->Prop}{sz:Nat}(ht:P.underlying t=some (.slice et))(az:P.cellsOf et=sz)(h0:0<sz)(hb:∀x,(e x).boxed=true)(hd:∀x,(e x).data=true)(hO:OpN fh P W et e p sz):Op1 fh P W t (λl:List d=>.sl sz e l) (λl=>(∀x∈l,p x)/\l.length<=maxLen):=λn c y h=>by
 rcases DataW.trod_slice ht h with ⟨mj,_⟩|⟨a,len,cap,a0,a2,m,rfl,mj,_,_,a1,a3,a4,a8,_⟩
 .have hc:c=.slice none 0 0:=by simpa using mj
  subst hc;refine⟨[],⟨by simp,xV _⟩,?_,q_⟩;simp only[Rd,D3];exact .inl ⟨z_,none,0,q_⟩
 .have hc:c=.slice (some a) len cap:=by simpa using mj
  subst hc;rw[az]at a8;have db:∀i:Fin len,∃x,p x/\∃cs,W.cells? 0 (a.add (i*sz)) sz=some cs/\cs.length=sz/\Hd cs/\B8 k0 W (cellsOf (e x)) cs:=λi=>by
   have o:=a8 i.1 i.2;rw[zT j_]at o;obtain ⟨cs,I,J⟩:=Option.bind_eq_some_iff.1 o;obtain ⟨x,h4,h5,h6,h7⟩:=hO _ _ _ J;exact⟨x,h4,cs,I,h5,h6,h7⟩
  let xs:Fin len->d:=λi=>Classical.choose (db i)
  have kx:∀i,p (xs i)/\∃cs,W.cells? 0 (a.add (i.1*sz)) sz=some cs/\cs.length=sz/\Hd cs/\B8 k0 W (cellsOf (e (xs i))) cs:=λi=>Classical.choose_spec (db i)
  refine⟨List.ofFn xs,⟨λx hx=>?_,by simp;omega⟩,?_,q_⟩
  .obtain ⟨i,rfl⟩:=List.mem_ofFn.1 hx;exact(kx i).1
  .simp only[Rd,D3];by_cases hl:len=0
   .subst hl;exact .inl ⟨by simp,_,_,q_⟩
   .have d7:∀i:Fin len,∀j,j<sz->∃v,W.cell? ((a.add (i.1*sz)).add j)=some v:=λi j hj=>by
     obtain ⟨_,cs,o,I,_⟩:=kx i;have:=(Aoz o).2 j hj;rw[zT j_]at this;exact⟨_,this⟩
    obtain ⟨b,off,r⟩:=a;have g:r=none:=by
     obtain ⟨v,R⟩:=d7 ⟨0,by omega⟩ 0 h0;simpa [Addr.add] using World.cell?_spot R
    subst g;have ou:∀i j,((⟨b,off,none⟩:Addr).add i).add j=⟨b,off+i+j,none⟩:=λi j=>by rw[Addr.add_lit,Addr.add_lit]
    refine .inr ⟨b,off,cap,by simp,kS a1,?_,?_,λi hi=>?_⟩
    .rintro (⟨k,hk⟩|hk)
     .cases hk
     .exact hk
    .obtain ⟨v,R⟩:=d7 ⟨0,by omega⟩ 0 h0;rw[ou]at R;rcases vD b W.heap.size with h|h
     .exact h
     .simp[World.cell?,uT h]at R
    .simp only[List.length_ofFn]at hi;obtain ⟨_,cs,o,I,J,h4⟩:=kx ⟨i,hi⟩;obtain ⟨u,g1,g2⟩:=Rd.of_cells (hb _) J h4;refine⟨u,?_,?_,by rw[g2];exact J,λj hj=>?_⟩
     .rw[List.getElem_ofFn];exact Rd.data _ _ (hd _) g1
     .have:u.cells.toList.length=sz:=by rw[g2,I]
      simpa using this
     .have:=(Aoz o).2 j hj;rw[ou]at this;rw[this,<-g2];simp
end
end Go.Sy
namespace Go.Sy.Zaa
open Go.Proofs Go.ChangeShapes Go.WideShapes Go.ChangeAt Go.RowKit
set_option maxRecDepth 100000
section
variable {H:Type} {fh:TypeId×Value->H} {W:World}
theorem Aip{t et:TypeId}{k:Type}{e:k->SV}{p:List k->Prop}{sz base:Nat}{v:Value}{d:DataW H}{ps:List MemPlace}(j:Tryz.prog.underlying t=some (.slice et))(o:Op1 fh Tryz.prog W t (λl:List k=>.sl sz e l) p)(r:Value.okWide Tryz.prog W .any base t v)(g:DataW.Trod fh Tryz.prog W 0 (λ_=>true) true t v d ps):∃l,p l/\Rd k0 W (.sl sz e l) v:=by
 obtain ⟨a,len,cap,rfl⟩:=okWide_slice j r;obtain ⟨i,I⟩:=g;obtain ⟨x,g,J,_⟩:=o _ _ _ I;exact⟨x,g,J⟩
end
end Go.Sy.Zaa
