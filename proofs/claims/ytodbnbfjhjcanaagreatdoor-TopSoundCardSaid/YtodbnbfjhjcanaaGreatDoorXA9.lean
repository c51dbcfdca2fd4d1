/- Parts of a proof. -/
import Derived.Test.YtodbnbfjhjcanaaGreatDoorXA8
set_option maxHeartbeats 4000000
set_option linter.all false
namespace Go.Sy.Zaa
open Go.Proofs Go.Proofs.Tryz
attribute [local irreducible]G DR
set_option maxRecDepth 20000
def W8{k:Type}{p:k->Bool}{l:List k}{j:Nat}(hI:Ek (λ_ x=>!(p x)) l j)(hj:l.length<=j):l.any p=false:=by
 rw[wK];intro x hx;obtain ⟨i,hi,rfl⟩:=yY.1 hx;simpa using hI i hi z_
def bQ{k:Type}{p:k->Bool}{l:List k}{j:Nat}(hj:j<l.length)(h:p l[j]=true):l.any p=true:=wJ.2 ⟨_,zI hj,h⟩
def Jr{P:Program}(Γ:Ty P){o:Oper}{s:SS}{t:TypeId}{ti:TI}{et:TypeId}{sz eb lo hi:Nat}{ez:List Value}{x:Operand}{lx hx:Option Operand}{a:Type}{e:a->SV}{l:List a}(r:List a)(h:o.op=.slice t x lx hx none)(ht:Γ.get t=some ti)(hk:ti.k=.slice et sz eb ez)(lr:ev s x=.sl sz e l)(kh:BoundIs s lx 0 lo)(ls:BoundIs s hx l.length hi)(h1:lo<=hi)(h2:hi<=l.length)(hr:(l.take hi).drop lo=r):Good P o s ⟨.sl sz e r,[],[]⟩:=by
 subst hr;exact Du Γ h ht hk lr kh ls h1 h2
def Aee(a:Int):Sp 366 [Aa a] (Ab false):=cT F366 ntmps366 λF hF=>by
 conv=>whnf
 exact Aq E Ap (zH Ab qq) E
def Aed(a:Int):Sp 367 [Bi a] (Ab false):=cT F367 ntmps367 λF hF=>by
 conv=>whnf
 exact Aq E Ap (zH Ab qq) E
def cmpI(a b:Int):Int:=if a<b then -1 else if a>b then 1 else 0
def Kj(a b:Int):Sp 300 [Aa a,Aa b] (Aa (cmpI a b)):=cT F300 ntmps300 λF hF=>by
 conv=>whnf
 (repeat' (first|(refine⟨λh=>?_,λh=>?_⟩<;>(repeat (first|simp only[zJ]at h|simp only[zY]at h))<;>((refine oO ?_)))|(refine Aq rfl Ap ?_ rfl)|(refine c0 (Aee a) F366 ?_;((refine oO ?_)))|(refine c0 (Aee b) F366 ?_;((refine oO ?_);repeat((refine aF ?_);(refine oO ?_))))))
 all_goals (refine zH Aa ?_;clear hF;grind [cmpI])
def Ald(a b:Int):Sp 301 [Bi a,Bi b] (Aa (cmpI a b)):=cT F301 ntmps301 λF hF=>by
 conv=>whnf
 (repeat' (first|(refine⟨λh=>?_,λh=>?_⟩<;>(repeat (first|simp only[zJ]at h|simp only[zY]at h))<;>((refine oO ?_)))|(refine Aq rfl Ap ?_ rfl)|(refine c0 (Aed a) F367 ?_;((refine oO ?_)))|(refine c0 (Aed b) F367 ?_;((refine oO ?_);repeat((refine aF ?_);(refine oO ?_))))))
 all_goals (refine zH Aa ?_;clear hF;grind [cmpI])
def orI:List Int->Int
 |[]=>0
 |x::l=>if x=0 then orI l else x
def oS:∀{l:List Int} {j:Nat},(∀i (h:i<l.length),i<j->l[i]=0)->orI l=orI (l.drop j)
 |l,0,_=>rfl
 |[],j+1,_=>rfl
 |x::l,j+1,h=>by
  have h0:=h 0 qq z_;simp only[tO]at h0;rw[orI,zE h0,List.drop_succ_cons];exact oS λi hi cy=>h (i+1) kO z_
def orS(l:List Int)(hl:An l):Sp 299 [.sl 1 Aa l] (Aa (orI l)):=cT F299 ntmps299 λF hF=>by
 unfold An at hl
 conv=>whnf
 refine A7 l.length (λj=>∀i (h:i<l.length),i<j->l[i]=0) (λj=>[(3,Aa 0),(6,.sl 1 Aa l),(7,Aa l.length),(8,Aa j)]) (λ_=>[]) [] (λi h hj=>zX hj z_) kU ?_;intro j hj hI;refine oO ?_
 (repeat' (first|(refine⟨λh=>?_,λh=>?_⟩<;>(repeat (first|simp only[zJ]at h|simp only[zY]at h|simp only[xC]at h|simp only[bne_eq_false_iff_eq]at h))<;>((refine oO ?_)))|(refine Aq rfl Ap ?_ rfl)|(refine⟨j_,?_⟩;((conv=>whnf)))|(refine⟨by (omega),by (omega),?_⟩;((conv=>whnf)))|(refine⟨by (unfold I64;omega),?_⟩;((conv=>whnf)))|refine A6 [] hI z_ ?_ kU))
 all_goals try (refine zH Aa ?_)
 .have cn:j<l.length:=by omega
  rw[oS hI,yO cn,orI,zD (kS h)];rfl
 .intro i hi cy;rcases vR i j with h1|h1
  .exact hI i hi h1
  .have:i=j:=by omega
   subst this;simpa using h
 .rw[oS hI,List.drop_of_length_le z_];rfl
def Tm(a b:Int)(l:List Int):decide (orI (cmpI a b::l)<0)=if a≠b then decide (a<b) else decide (orI l<0):=by
 rw[orI,cmpI];by_cases h1:a<b
 .simp[h1,show a≠b by omega]
 .by_cases h2:a>b
  .simp[h1,h2,show a≠b by omega]
  .simp[show a=b by omega]
structure Vec where
 (root cost bridge port own:Int)
def Uu(v:Vec):SV:=.agg [Aa v.root,Aa v.cost,Aa v.bridge,Aa v.port,Aa v.own]
def Ad9(a b:Vec):Bool :=
 if a.root≠b.root then decide (a.root<b.root) else if a.cost≠b.cost then decide (a.cost<b.cost) else if a.bridge≠b.bridge then decide (a.bridge<b.bridge) else
  if a.port≠b.port then decide (a.port<b.port) else decide (a.own<b.own)
def lessS(a b:Vec):Sp 370 [Uu a,Uu b] (Ab (Ad9 a b)):=cT F370 ntmps370 λF hF=>by
 conv=>whnf
 (repeat' (first|(refine⟨λh=>?_,λh=>?_⟩<;>(repeat (first|simp only[yJ]at h|simp only[zT]at h|simp only[zG]at h|simp only[yW]at h))<;>((refine oO ?_)))|(refine Aq rfl Ap ?_ rfl)|(refine⟨j_,?_⟩;((conv=>whnf)))|(refine cD (Kj a.root b.root) F300 ?_;((refine rd j_ ?_);(conv=>whnf)))|(refine cD (Kj a.cost b.cost) F300 ?_;((refine rd j_ ?_);(conv=>whnf)))|(refine cD (Kj a.bridge b.bridge) F300 ?_;((refine rd j_ ?_);(conv=>whnf)))|(refine cD (Kj a.port b.port) F300 ?_;((refine rd j_ ?_);(conv=>whnf)))|(refine cD (Kj a.own b.own) F300 ?_;((refine rd j_ ?_);(conv=>whnf)))|(refine Az3 [33] (orS [cmpI a.root b.root,cmpI a.cost b.cost,cmpI a.bridge b.bridge,cmpI a.port b.port,cmpI a.own b.own] (by simp[An])) F299 rfl (.cons (.lit rfl rfl rfl) .nil) rfl j_ rfl ?_;((refine rd j_ ?_);(conv=>whnf)))))
 all_goals (refine zH Ab ?_;clear hF)
 .grind [Ad9]
 .rw[Tm,Tm,Tm,Tm,Tm,Ad9];by_cases h1:a.own=b.own
  .simp[h1,orI]
  .simp[h1]
def Vq(lt:Int->Int->Bool)(x:Int):List Int->List Int
 |[]=>[x]
 |y::r=>if lt x y then y::Vq lt x r else x::y::r
def Iu(lt:Int->Int->Bool)(l:List Int):List Int:=l.foldl (λr x=>Vq lt x r) []
def X3(lt:Int->Int->Bool)(l:List Int):List Int:=(Iu lt l).reverse
def dE(lt:Int->Int->Bool)(x:Int):∀r,(Vq lt x r).Perm (x::r)
 |[]=>.refl _
 |y::r=>by
  rw[Vq];split
  .exact((dE lt x r).cons y).trans (.swap x y r)
  .exact .refl _
def Um(lt:Int->Int->Bool):∀(l r:List Int),(l.foldl (λr x=>Vq lt x r) r).Perm (l++r)
 |[],r=>.refl _
 |x::l,r=>by
  rw[vJ];refine(Um lt l _).trans ?_;refine((dE lt x r).append_left l).trans ?_;simp
def Qd(lt:Int->Int->Bool)(l:List Int):(Iu lt l).Perm l:=by
 have:=Um lt l [];simpa [Iu] using this
def Yw(lt:Int->Int->Bool)(l:List Int):(X3 lt l).Perm l:=(List.reverse_perm _).trans (Qd lt l)
def Akc(lt:Int->Int->Bool)(l:List Int)(i:Nat)(h:i<l.length):Iu lt (l.take (i+1))=Vq lt l[i] (Iu lt (l.take i)):=by
 rw[yA h,Iu,xO];rfl
mutual
theorem T1{K:List Nat}:∀x:SV,x.inn []=true->x.inn K=true
 | .ptr _ _,h=>by simp[SV.inn,Se]at h
 | .rpt _ _ _ _,h=>by simp[SV.inn,Se]at h
 | .osl _,h=>by simp[SV.inn,Se]at h
 | .agg l,h=>by simp only[SV.inn]at h|-;exact Vr l h
 | .tup l,h=>by simp only[SV.inn]at h|-;exact Vr l h
 | .ifc _ x,h=>by simp only[SV.inn]at h|-;exact T1 x h
 | .clo _ f l,h=>by simp only[SV.inn,zG]at h|-;exact⟨Vr f h.1,Vr l h.2⟩
 | .top,_=>rfl
 | .val _,_=>rfl
 | .sl _ _ _,_=>rfl
 | .ref _ _ _,_=>rfl
theorem Vr{K:List Nat}:∀l:List SV,B7 [] l=true->B7 K l=true
 |[],_=>rfl
 |x::l,h=>by simp only[B7,zG]at h|-;exact⟨T1 x h.1,Vr l h.2⟩
end
def Aap(l:List Int)(c:Int->Int->Int)(Q:Int->Prop)(f:FuncId)(first cap:List SV)(hc:(SV.clo (.func f) first cap).inn []=true)(hf:∀a b,Q a->Q b->E4 prog f (first++[Aa a,Aa b]++cap) (Aa (c a b)))(hQ:∀a∈l,Q a)(hl:An l):Sq 397 [.osl 0,Aa 0,Aa l.length,.clo (.func f) first cap] [(0,.row 1 Aa l)] (.tup []) [(0,.row 1 Aa (X3 (λa b=>decide (c a b<0)) l))]:=cT F397 ntmps397 λF hF=>by
 unfold An at hl;have az:∀x y:Int,B7 [] (first++[Aa x,Aa y]++cap)=true:=λx y=>C6 hc rfl
 have fu:(SV.clo (.func f) first cap).inn [0]=true:=T1 _ hc;generalize ab:(λa b=>decide (c a b<0))=lt
 conv=>whnf
 (repeat' (refine⟨by (unfold I64;omega),?_⟩;((conv=>whnf))))
 refine A7 l.length (λ_=>True) (λj=>[(0,.osl 0),(1,Aa 0),(2,Aa l.length),(3,.clo (.func f) first cap),(8,Aa ((j:Int)+1))]) (λj=>[(0,.row 1 Aa ((Iu lt (l.take (j+1))).reverse++l.drop (j+1)))]) [] q_ ⟨⟨E,E,E,E,E,E,Be _,fu,E,E,q_⟩,⟨.inl (zH (Ob.row 1 Aa) ?_),E,q_⟩,E,E⟩ ?_
 .cases l with
  |nil=>rfl
  |cons a l=>simp[Iu,Vq]
 intro j hj _;refine gH ?_ ?_<;>intro h
 .have cw:j+1<l.length:=qA h;have fx:l.drop (j+1)=l[j+1]::l.drop (j+1+1):=yO cw;have m9:=Akc lt l (j+1) cw;have hr:(Iu lt (l.take (j+1))).length=j+1:=by rw[(Qd lt _).length_eq];simp;omega
  have hQx:Q l[j+1]:=hQ _ (zI cw);have hQr:∀z∈Iu lt (l.take (j+1)),Q z:=λz hz=>hQ z (wM ((Qd lt _).mem_iff.1 hz))
  rw[fx];generalize l[j+1]=x at m9 hQx;generalize Iu lt (l.take (j+1))=r at m9 hr hQr;generalize hR:l.drop (j+1+1)=R at *;refine oO ?_;refine Wj (α:={p:List Int×List Int // Vq lt x r=p.2.reverse++Vq lt x p.1/\p.1.length+p.2.length=j+1/\∀z∈p.1,Q z}) (λp=>[(0,.osl 0),(1,Aa 0),(2,Aa l.length),(3,.clo (.func f) first cap),(8,Aa ((j:Int)+1)),(9,Aa p.1.1.length)]) (λp=>[(0,.row 1 Aa (p.1.1.reverse++x::(p.1.2++R)))]) (λp=>p.1.1.length) ⟨(r,[]),by simp,kS hr,hQr⟩ []
   ⟨⟨rfl,rfl,rfl,rfl,rfl,rfl,Be _,fu,rfl,rfl,zH Aa (by rw[hr];omega),rfl,trivial⟩,⟨.inl rfl,rfl,trivial⟩,rfl,rfl⟩ ?_
  rintro ⟨⟨A,B⟩,ig,ff,ua⟩;simp only at ig ff ua;dsimp only;cases A with
  |nil=>
   simp only[Vq]at ig
   (refine rg ?_;(conv=>whnf);refine aF ?_;refine oD ?_)
   refine⟨j_,?_⟩
   ((conv=>whnf);refine aF ?_;refine rg ?_;conv=>whnf)
   refine iW ?_;refine A6 [] q_ z_ q_ ⟨⟨E,E,E,E,E,E,Be _,fu,zH Aa z_,E,q_⟩,⟨.inl (zH (Ob.row 1 Aa) ?_),E,q_⟩,E,E⟩;show (Iu lt (l.take (j+1+1))).reverse++l.drop (j+1+1)=[].reverse++x::(B++R);rw[m9,ig,hR];simp
  |cons y A=>
   have hQy:=ua y qq;refine oO ?_;refine⟨λ_=>?_,λh=>zX (zQ h) qq⟩;refine oD ?_;have e1:((y::A).reverse++x::(B++R))[(((y::A).length:Nat):Int).toNat]'qq=x:=by simp
   have e2:((y::A).reverse++x::(B++R))[((((y::A).length:Nat):Int)-1).toNat]'qq=y:=by simp
   refine⟨by omega,by simp,?_⟩
   conv=>whnf
   refine⟨E,by simp,?_⟩;rw[e1]
   conv=>whnf
   refine⟨by unfold I64;simp at ff;simp;omega,?_⟩
   conv=>whnf
   refine⟨by simp,by simp,?_⟩
   conv=>whnf
   refine⟨E,by simp,?_⟩;rw[e2]
   conv=>whnf
   refine Apy (hf x y hQx hQy) E E E (by simp only[az];rfl) j_ E ?_;refine gM ?_;constructor<;>intro h2
   .refine oO ?_;refine⟨by unfold I64;simp at ff;simp;omega,?_⟩
    conv=>whnf
    refine⟨by unfold I64;simp at ff;simp;omega,?_⟩
    conv=>whnf
    refine⟨by simp,by simp,?_⟩
    conv=>whnf
    refine⟨E,by simp,?_⟩;rw[e2]
    conv=>whnf
    refine⟨by omega,by simp,?_⟩
    conv=>whnf
    refine⟨E,by simp,?_⟩;rw[e1]
    conv=>whnf
    refine⟨by omega,by simp,?_⟩
    conv=>whnf
    refine⟨E,by simp,y,E,E,?_⟩
    conv=>whnf
    refine⟨by simp,by simp,?_⟩
    conv=>whnf
    refine⟨E,by simp,x,E,E,?_⟩
    conv=>whnf
    refine kW ?_;refine⟨by unfold I64;simp at ff;simp;omega,?_⟩
    conv=>whnf
    have pg:lt x y=true:=by rw[<-ab];exact h2
    refine Ye (α:={p:List Int×List Int // Vq lt x r=p.2.reverse++Vq lt x p.1/\p.1.length+p.2.length=j+1/\∀z∈p.1,Q z}) (L:=λp=>[(0,.osl 0),(1,Aa 0),(2,Aa l.length),(3,.clo (.func f) first cap),(8,Aa ((j:Int)+1)),(9,Aa p.1.1.length)]) (O:=λp=>[(0,.row 1 Aa (p.1.1.reverse++x::(p.1.2++R)))]) (μ:=λp=>p.1.1.length) (x:=⟨(y::A,B),ig,ff,ua⟩)
     ⟨(A,y::B),by simp only[ig,Vq,pg,if_true];simp,by simp at ff|-;omega,λz hz=>ua z (by simp[hz])⟩ [] qq
     ⟨⟨rfl,rfl,rfl,rfl,rfl,rfl,Be _,fu,rfl,rfl,zH Aa qq,rfl,trivial⟩,⟨.inl (zH (Ob.row 1 Aa) ?_),rfl,trivial⟩,rfl,rfl⟩
    simp
   .refine oO ?_;have pg:lt x y=false:=by rw[<-ab];exact h2
    refine iW ?_;refine A6 [] q_ z_ q_ ⟨⟨E,E,E,E,E,E,Be _,fu,zH Aa z_,E,q_⟩,⟨.inl (zH (Ob.row 1 Aa) ?_),E,q_⟩,E,E⟩;show (Iu lt (l.take (j+1+1))).reverse++l.drop (j+1+1)=(y::A).reverse++x::(B++R);rw[m9,ig,hR,Vq,pg];simp
 .have h:=zQ h;have e:(Iu lt (l.take (j+1))).reverse++l.drop (j+1)=X3 lt l:=by
   rw[xD z_,List.drop_of_length_le z_,xG];rfl
  rw[e];refine oO ?_;exact A2 E .nil [] [(0,.row 1 Aa (X3 lt l))] (λ_ h=>h) E E kU
def A1a(l:List Int)(c:Int->Int->Int)(Q:Int->Prop)(f:FuncId)(first cap:List SV)(hc:(SV.clo (.func f) first cap).inn []=true)(hf:∀a b,Q a->Q b->E4 prog f (first++[Aa a,Aa b]++cap) (Aa (c a b)))(hQ:∀a∈l,Q a)(hl:l.length<20):Sq 365 [.osl 0,Aa l.length,.clo (.func f) first cap] [(0,.row 1 Aa l)] (.tup []) [(0,.row 1 Aa (X3 (λa b=>decide (c a b<0)) l))]:=cT F365 ntmps365 λF hF=>by
 have fu:(SV.clo (.func f) first cap).inn [0]=true:=T1 _ hc;have z7:=Aap l c Q f first cap hc hf hQ (by unfold An;omega)
 generalize X3 (λa b=>decide (c a b<0)) l=l' at z7
 conv=>whnf
 refine A8 0 (λ j=>[(0,.osl 0),(1,Aa l.length),(2,.clo (.func f) first cap),(6,Aa 20),(7,Aa 0),(8,Aa 20)]) (λ _=>[(0,.row 1 Aa l)]) [] ⟨⟨E,E,E,E,Be _,fu,E,E,E,E,E,E,q_⟩,⟨.inl E,E,q_⟩,E,E⟩ ?_;intro j hj;refine oO ?_;refine⟨λ h=>zX (zO h) z_,λ _=>?_⟩;refine oO ?_;refine Ai (Ad [] E F397 z7 (Jw _) ⟨E,q_⟩ (by
  have h0:B7 [0] [.osl 0,Aa 0,Aa l.length,.clo (.func f) first cap]=true:=by simp only[B7,fu];rfl
  simp only[Mc,Obs.keys,xZ,vS,h0];rfl) ⟨.inl rfl,trivial⟩) rfl rfl ?_
 refine oO ?_;refine A8 0 (λj=>[(1,Aa l.length),(6,Aa 20)]) (λ_=>[(0,.row 1 Aa l')]) [] kU ?_;clear hj;intro j hj;refine oO ?_;refine⟨λh=>zX (zO h) z_,λ_=>?_⟩;refine oO ?_;exact A2 E .nil [] [(0,.row 1 Aa l')] (λ_ h=>h) E E kU
def Aig(l:List Int)(c:Int->Int->Int)(Q:Int->Prop)(f:FuncId)(first cap:List SV)(hc:(SV.clo (.func f) first cap).inn []=true)(hf:∀a b,Q a->Q b->E4 prog f (first++[Aa a,Aa b]++cap) (Aa (c a b)))(hQ:∀a∈l,Q a)(hl:l.length<20):Sq 297 [.osl 0,.clo (.func f) first cap] [(0,.row 1 Aa l)] (.tup []) [(0,.row 1 Aa (X3 (λa b=>decide (c a b<0)) l))]:=cT F297 ntmps297 λF hF=>by
 have fu:(SV.clo (.func f) first cap).inn [0]=true:=T1 _ hc;have br:=A1a l c Q f first cap hc hf hQ hl
 generalize X3 (λa b=>decide (c a b<0)) l=l' at br
 conv=>whnf
 refine Ai (Ad [] E F365 br (Jw _) ⟨E,q_⟩ (by
  have h0:B7 [0] [.osl 0,Aa l.length,.clo (.func f) first cap]=true:=by simp only[B7,fu];rfl
  simp only[Mc,Obs.keys,xZ,vS,h0];rfl) ⟨.inl rfl,trivial⟩) rfl rfl ?_
 refine oO ?_;exact A2 E .nil [] [(0,.row 1 Aa l')] (λ_ h=>h) E E kU
def Acs(n:Net)(a b:Int):Int:=orI [cmpI (nth n.devices a).prio (nth n.devices b).prio,cmpI (nth n.devices a).mac (nth n.devices b).mac]
def ranks1(n:Net)(a b:Int)(ha:0<=a/\a<n.devices.length)(hb:0<=b/\b<n.devices.length):Sp 298 [Aa a,Aa b,.ref 8 (Am n) 0] (Aa (Acs n a b)):=cT F298 ntmps298 λF hF=>by
 have e1:Acs n a b=orI [cmpI (n.devices[a.toNat]'z_).prio (n.devices[b.toNat]'z_).prio,cmpI (n.devices[a.toNat]'z_).mac (n.devices[b.toNat]'z_).mac]:=by
  rw[Acs,Ag z_,Ag z_]
 rw[e1]
 conv=>whnf
 (repeat' (first|(refine Aq rfl Ap ?_ rfl)|(refine⟨j_,?_⟩;((conv=>whnf)))|(refine⟨by (omega),by (omega),?_⟩;((conv=>whnf)))|(refine cD (Kj (n.devices[a.toNat]'z_).prio (n.devices[b.toNat]'z_).prio) F300 ?_;((refine rd j_ ?_);(conv=>whnf)))|(refine cD (Ald (n.devices[a.toNat]'z_).mac (n.devices[b.toNat]'z_).mac) F301 ?_;((refine rd j_ ?_);(conv=>whnf)))|(refine Az3 [28] (orS [cmpI (n.devices[a.toNat]'z_).prio (n.devices[b.toNat]'z_).prio,cmpI (n.devices[a.toNat]'z_).mac (n.devices[b.toNat]'z_).mac] (by simp[An])) F299 rfl (.cons (.lit rfl rfl rfl) .nil) rfl j_ rfl ?_;((refine rd j_ ?_);(conv=>whnf)))))
 all_goals rfl
def Z9(m:Nat):List Int:=(List.range m).map λ(i:Nat)=>(i:Int)
def Ad0(m:Nat):Z9 (m+1)=Z9 m++[(m:Int)]:=by simp[Z9,vB]
def Lv(m:Nat):(Z9 m).length=m:=by simp[Z9]
def Kr(ord:List Int):Nat->List Int
 |0=>List.replicate ord.length 0
 |j+1=>(Kr ord j).set (nth ord j).toNat j
def Jz(ord:List Int):∀j,(Kr ord j).length=ord.length
 |0=>by simp[Kr]
 |j+1=>by simp[Kr,Jz ord j]
def Hr(n:Net):List Int:=X3 (λa b=>decide (Acs n a b<0)) (Z9 n.devices.length)
def Hh(n:Net):List Int:=Kr (Hr n) n.devices.length
def ranksS(n:Net)(hn:n.Fin):Sp 228 [Am n] (.sl 1 Aa (if Ac n then Hh n else [])):=cT F228 ntmps228 λF hF=>by
 have hl:=hn.devices;unfold An at hl
 conv=>whnf
 refine gE (A0 n hn) F39 ?_;constructor<;>intro h
 .have h:Ac n=false:=by simpa using h
  refine oO ?_;refine Ao 2 1 Aa E ?_;exact Aq E Ap (by rw[h];rfl) E
 have h:Ac n=true:=kS h;have h8:n.devices.length<=8:=by
  simp only[Ac,Ac4,zG,zJ]at h;exact h.1.1.1.1.1.1.1.1.1.1.1.1.1.1.1
 rw[h,zE rfl,Hh];refine oO ?_;refine Ba 1 8 (Am n) E E E (B6 3 1000 1 Aa E E ?_);refine A8 n.devices.length (λj=>[(1,.ref 8 (Am n) 0),(3,.osl 1000),(13,Aa n.devices.length),(14,Aa j)]) (λj=>[(1000,.row 1 Aa (Z9 j))]) [] kU ?_;intro j hj;refine oO ?_;constructor<;>intro h2
 .have ab:j<n.devices.length:=by simpa using h2
  refine oO ?_;refine Ai (Ah Γ.toTy 20 E E E E E (.row E) (.lit (l:=[(j:Int)]) E E) qq (by simp[Lv];omega) (by simp[Lv];omega)) E E (gF ?_);exact Ax [(1000,20)] ab ⟨kA,⟨.inl (zH (Ob.row 1 Aa) (Ad0 j)),E,q_⟩,E,E⟩
 have cw:j=n.devices.length:=by have:¬j<n.devices.length:=(kS h2);omega
 subst cw;refine oO ?_;have qy:=Aig (Z9 n.devices.length) (Acs n) (λ a=>0<=a/\a<n.devices.length) 298 [] [.ref 8 (Am n) 0] rfl (λ a b ha hb=>⟨⟨_,_,F298⟩,ranks1 n a b ha hb⟩) (λ a ha=>by
  obtain ⟨i,hi,rfl⟩:=yS.1 ha;have:=xA.1 hi;omega) (by rw[Lv];omega)
 have z8:(Hr n).length=n.devices.length:=by rw[Hr,(Yw _ _).length_eq,Lv]
 have jx:∀a∈Hr n,0<=a/\a<n.devices.length:=λa ha=>by
  have:=(Yw _ _).mem_iff.1 ha;obtain ⟨i,hi,rfl⟩:=yS.1 this;have:=xA.1 hi;omega
 change Sy.Spec _ _ _ _ _ [(0,.row 1 Aa (Hr n))]at qy;generalize Hr n=sl at qy z8 jx;refine Ai (Ad [(0,1000)] E F297 qy E ⟨E,q_⟩ E ⟨.inl E,q_⟩) E E (oO ?_);refine Ai (B5 Γ.toTy (d:=27) (n:=sl.length) Aa 0 E E E E E E E E z_ z_ E E E) E E (oO ?_);refine A8 sl.length (λj=>[(5,.osl 27),(28,.osl 1000),(29,Aa sl.length),(30,Aa j)]) (λj=>[(1000,.row 1 Aa sl),(27,.row 1 Aa (Kr sl j))]) [] kU ?_;clear hj h2;intro j hj;refine oO ?_;constructor<;>intro h2
 .have ab:j<sl.length:=by simpa using h2
  have rp:=jx _ (zI ab);have eu:nth sl j=sl[j]:=Ag (kS ab);have im:=Jz sl j;refine oO ?_;refine⟨by omega,by omega,?_⟩
  conv=>whnf
  refine⟨E,by omega,?_⟩
  conv=>whnf
  refine⟨rp.1,by rw[im];exact(by omega:sl[j].toNat<sl.length),?_⟩
  conv=>whnf
  refine⟨E,by rw[im];exact(by omega:sl[j].toNat<sl.length),(j:Int),E,E,?_⟩
  conv=>whnf
  refine iW ?_;exact Ax [] ab ⟨kA,⟨.inl E,E,.inl (zH (Ob.row 1 Aa) (by rw[Kr,eu];rfl)),E,q_⟩,E,E⟩
 have cw:j=n.devices.length:=by
  have:¬j<sl.length:=kS h2;omega
 subst cw;refine oO ?_;exact Aj 27 E dN
def Dr(n:Net)(a b:Int):Bool :=
 if (nth n.devices a).prio≠(nth n.devices b).prio then decide ((nth n.devices a).prio<(nth n.devices b).prio) else
  if (nth n.devices a).mac≠(nth n.devices b).mac then decide ((nth n.devices a).mac<(nth n.devices b).mac) else decide (a<b)
def Sa(n:Net):List Int:=(List.range n.devices.length).map λ(i:Nat)=>(((List.range n.devices.length).countP λk=>Dr n (k:Nat) i:Nat):Int)
end Go.Sy.Zaa
namespace Go.Sy.Zaa
def key_lt(n:Net)(a b:Int):decide (Acs n a b<0)=if (nth n.devices a).prio≠(nth n.devices b).prio then decide ((nth n.devices a).prio<(nth n.devices b).prio) else
  if (nth n.devices a).mac≠(nth n.devices b).mac then decide ((nth n.devices a).mac<(nth n.devices b).mac) else false:=by
 rw[Acs,Tm,Tm];rfl
def Ud(n:Net)(a:Int):Dr n a a=false:=by simp[Dr]
def fL(n:Net){a b c:Int}(h1:Dr n a b=true)(h2:Dr n b c=true):Dr n a c=true:=by
 unfold Dr at *;generalize nth n.devices a=x at *;generalize nth n.devices b=y at *;generalize nth n.devices c=z at *
 grind
def Alw(n:Net){a b:Int}(h1:Dr n a b=true):Dr n b a=false:=by
 cases h:Dr n b a with
 |false=>rfl
 |true=>have:=fL n h1 h;rw[Ud]at this;cases this
def Aec(n:Net){x y:Int}(h:y<x):decide (Acs n x y<0)=Dr n x y:=by
 rw[key_lt];unfold Dr;generalize nth n.devices x=p at *;generalize nth n.devices y=q at *
 grind
def A12(n:Net){x y:Int}(h:y<x)(hk:Dr n x y=false):Dr n y x=true:=by
 unfold Dr at *;generalize nth n.devices x=p at *;generalize nth n.devices y=q at *
 grind
def Aeg(n:Net)(x:Int):∀(r:List Int),(∀y∈r,y<x)->r.Pairwise (λa b=>Dr n b a=true)->(Vq (λa b=>decide (Acs n a b<0)) x r).Pairwise (λa b=>Dr n b a=true)
 |[],_,_=>by simp[Vq]
 |y::r,hx,hp=>by
  have hy:=hx y qq;rw[vU]at hp;rw[Vq];split
  .rename_i ab;rw[Aec n hy]at ab;rw[vU];refine⟨λz hz=>?_,Aeg n x r (λz hz=>hx z (by simp[hz])) hp.2⟩;rcases yH.1 ((dE _ x r).mem_iff.1 hz) with rfl|hz
   .exact ab
   .exact hp.1 z hz
  .rename_i ab;rw[Aec n hy]at ab;have hyx:=A12 n hy (kS ab);rw[vU,vU];refine⟨λz hz=>?_,hp⟩;rcases yH.1 hz with rfl|hz
   .exact hyx
   .exact fL n (hp.1 z hz) hyx
def eT(n:Net):∀m,(Iu (λa b=>decide (Acs n a b<0)) (Z9 m)).Pairwise (λa b=>Dr n b a=true)
 |0=>by simp[Iu,Z9]
 |m+1=>by
  rw[Ad0,Iu,xO];refine Aeg n m _ (λy hy=>?_) (eT n m);have:=(Qd _ _).mem_iff.1 hy;obtain ⟨i,hi,rfl⟩:=yS.1 this;have:=xA.1 hi;omega
def cN(n:Net):(Hr n).Pairwise (λa b=>Dr n a b=true):=by
 rw[Hr,X3,List.pairwise_reverse];exact eT n _
def Afx(n:Net):(Hr n).Perm (Z9 n.devices.length):=Yw _ _
def Alb(n:Net){l:List Int}(hp:l.Pairwise (λa b=>Dr n a b=true))(r:Nat)(hr:r<l.length):l.countP (λk=>Dr n k l[r])=r:=by
 have gz:l=l.take r++l[r]::l.drop (r+1):=by
  rw[<-yO hr,List.take_append_drop]
 have h1:(l.take r).countP (λk=>Dr n k l[r])=r:=by
  rw[List.countP_eq_length.2 (λk hk=>?_),zW]
  .omega
  .obtain ⟨i,hi,rfl⟩:=yY.1 hk;simp only[zW]at hi;rw[wH];exact vM.1 hp i r z_ hr z_
 have h2:(l.drop (r+1)).countP (λk=>Dr n k l[r])=0:=by
  rw[List.countP_eq_zero];intro k hk;obtain ⟨i,hi,rfl⟩:=yY.1 hk;simp only[yP]at hi;rw[vN];have:=vM.1 hp r (r+1+i) hr z_ z_;simp[Alw n this]
 calc l.countP (λk=>Dr n k l[r])=(l.take r++l[r]::l.drop (r+1)).countP (λk=>Dr n k l[r]):=zH _ gz
  _=r:=by rw[List.countP_append,List.countP_cons,h1,h2,Ud];simp
def Z1(L:List Int)(hn:L.Nodup)(hm:∀a∈L,0<=a/\a<L.length):∀(j:Nat),j<=L.length->∀(r:Nat) (hr:r<L.length),r<j->(Kr L j)[L[r].toNat]? = some (r:Int)
 |0,_,r,_,h=>by omega
 |j+1,hj,r,hr,h=>by
  have hmr:=hm _ (zI hr);have hlen:=Jz L j;have eu:nth L (j:Int)=L[j]:=Ag kO;rw[Kr,eu,uL];split
  .rename_i he;have rp:=hm _ (zI (show j<L.length by omega));have hjr:L[j]=L[r]:=by omega
   have:j=r:=by
    have:=(List.getElem_inj (i:=j) (j:=r) (h₀:=by omega) (h₁:=hr) hn).1 hjr;exact this
   subst this;rw[zE z_]
  .rename_i he;have ag:r≠j:=λe=>he (by subst e;rfl)
   exact Z1 L hn hm j z_ r hr z_
def An6(m:Nat):(Z9 m).Nodup:=by
 rw[Z9];exact List.Pairwise.map _ (λ(a b:Nat) (h:a≠b)=>by intro e;exact h z_) List.nodup_range
def Ai0(n:Net):Hh n=Sa n:=by
 have hp:=Afx n;have hlen:(Hr n).length=n.devices.length:=by rw[hp.length_eq,Lv]
 have wk:(Hr n).Nodup:=hp.nodup_iff.2 (An6 _);have hm:∀a∈Hr n,0<=a/\a<(Hr n).length:=λa ha=>by
  obtain ⟨i,hi,rfl⟩:=yS.1 (hp.mem_iff.1 ha);have:=xA.1 hi;omega
 refine List.ext_getElem? λi=>?_
 rcases vR i n.devices.length with hi|hi
 .have az:(i:Int)∈Hr n:=hp.mem_iff.2 (yS.2 ⟨i,xA.2 hi,rfl⟩);obtain ⟨r,hr,he⟩:=yY.1 az;have h1:=Z1 (Hr n) wk hm n.devices.length z_ r hr z_;rw[he]at h1;have h2:=Alb n (cN n) r hr;rw[he,hp.countP_eq]at h2;rw[Hh,Sa,vD,uC hi];simp only[yE]at h1;rw[h1];simp only[uM];congr 2;rw[<-h2,Z9,List.countP_map];rfl
 .rw[xV,xV]
  .simp[Sa];omega
  .rw[Hh,Jz];omega
def G_vw{C:Cx}{k:List KI}{s:SS}(d:Nat)(x:SV)(h:Vw s [] (s.σ d) x)(hg:G C k ⟨upd s.σ d x,s.h⟩):G C k s:=λb a w hs=>
 hg b a w ⟨hs.defers,hs.size,hs.inv,hs.ctx,λ i=>by
  show Rd b w (upd s.σ d x i) _;by_cases hi:i=d
  .subst hi;rw[B1];exact Vw.rd hs.inv (λ_ hn=>by cases hn) h (hs.slot i)
  .rw[Cv _ _ hi];exact hs.slot i,hs.obj⟩
open Go.Proofs Go.Proofs.Tryz
attribute [local irreducible]G DR
set_option maxRecDepth 20000
def Ja(p:Port):Bool:=decide (p.cost<1)||decide (p.cost>65535)
def costs1(p:Port):Sp 296 [Bd p] (Ab (Ja p)):=cT F296 ntmps296 λF hF=>by
 conv=>whnf
 (repeat' (first|(refine⟨λh=>?_,λh=>?_⟩<;>(repeat (first|simp only[zJ]at h|simp only[zY]at h))<;>((refine oO ?_)))|(refine Aq rfl Ap ?_ rfl)))
 all_goals (refine zH Ab ?_;clear hF;grind [Ja])
def Y6(l:List Port)(p:Port->Bool)(f:FuncId)(first cap:List SV)(hc:(SV.clo (.func f) first cap).inn []=true)(hf:∀x∈l,E4 prog f (first++[Bd x]++cap) (Ab (p x)))(hl:An l):Sp 295 [.sl 7 Bd l,.clo (.func f) first cap] (Ab (l.any p)):=cT F295 ntmps295 λF hF=>by
 have h0:B7 [] [.sl 7 Bd l,.clo (.func f) first cap]=true:=by simp only[B7,hc];rfl
 conv=>whnf
 refine Mh (Uj l p f first cap hc hf hl) F225 E E (by simp only[h0];rfl) E E (oO ?_);exact Aq E Ap (zH Ab (Iz _ _).symm) E
def Do(n:Net):Bool:=!(n.ports.any Ja)
def Az0(n:Net)(hl:An n.ports):Sp 227 [Am n] (Ab (Do n)):=cT F227 ntmps227 λF hF=>by
 conv=>whnf
 refine gE (Y6 n.ports Ja 296 [] [] E (λx _=>⟨⟨_,_,F296⟩,costs1 x⟩) hl) F295 ?_;exact dN
def K1(n:Net):Bool :=
 decide (200<n.devices.length)||decide (200<n.ports.length)||decide (200<n.links.length)||decide (200<n.domains.length)||decide (200<n.statics.length)||decide (200<n.floods.length)||decide (200<n.vrfs.length)||decide (200<n.irbs.length) ||
  n.ports.any (λp=>decide (100<p.tagged.length))||n.domains.any (λd=>decide (100<d.peers.length))||n.floods.any (λf=>decide (100<f.addrs.length))||n.vrfs.any (λv=>decide (100<v.imports.length)||decide (100<v.exports.length))
set_option maxRecDepth 100000
def Bo{k:Type}{l:List k}{i:Nat}{d:k}(h:i<l.length):l.getD i d=l[i]:=by simp[List.getD,h]
def Th{n:Net}(h:Ac n=true){i:Nat}(hi:i<n.ports.length):J7 n i n.ports[i]=true:=by
 simp only[Ac,zG]at h;exact allB_iff.1 h.1.1.1.1.1.2 i hi
def nZ{n:Net}(h:Ac n=true){i:Nat}(hi:i<n.links.length):Qb n i n.links[i]=true:=by
 simp only[Ac,zG]at h;exact allB_iff.1 h.1.1.1.1.2 i hi
def Ic{n:Net}(h:Ac n=true):n.devices.length<=8/\n.ports.length<=40/\n.links.length<=20:=by
 simp only[Ac,Ac4,zG,zJ]at h;omega
def Wr{n:Net}(h:Ac n=true){i:Nat}(hi:i<n.ports.length):n.ports[i].link=-1\/(0<=n.ports[i].link/\n.ports[i].link<n.links.length):=by
 have:=Th h hi;simp only[J7,Af,zG,yQ,yJ,zJ]at this;rcases this.2 with h1|h1
 .exact .inl h1
 .exact .inr h1.1
def Ve{n:Net}(h:Ac n=true){i:Nat}(hi:i<n.ports.length):0<=n.ports[i].dev/\n.ports[i].dev<n.devices.length:=by
 have:=Th h hi;simp only[J7,Af,zG,zJ]at this;exact this.1.1.1.1.1.1.1.1
def Si{n:Net}(h:Ac n=true){i:Nat}(hi:i<n.links.length):(0<=n.links[i].a/\n.links[i].a<n.ports.length)/\0<=n.links[i].b/\n.links[i].b<n.ports.length:=by
 have:=nZ h hi;simp only[Qb,Af,zG,zJ]at this;exact⟨this.1.1.1.1,this.1.1.1.2⟩
def Ip(n:Net)(i:Nat):Int:=(nth n.ports i).dev
def Z4(n:Net)(i:Nat):Int:=(nth n.ports i).cost
def Aja{n:Net}(an:Do n=true){i:Nat}(hi:i<n.ports.length):1<=Z4 n i/\Z4 n i<=65535:=by
 rw[Z4,Ag (l:=n.ports) (i:=(i:Int)) (kS hi)];simp only[Do,xB,wK]at an;have:=an _ (zI hi);simp only[Ja,yQ,zJ,vW]at this;simp only[yE];omega
def Azv(d:Domain):SV:=.agg [Aa d.dev,Aa d.vlan,Aa d.vni,Aa d.irb,Aa d.row,svN]
def Auy{M:Nat->Prop}{w:World}(p:Domain)(hp:p.peers=[]){v:Value}(h:RdD M w (Azv p) v):RdD M w (At p) v:=by
 simp only[Azv,At,RdD,RdDL,hp]at h|-;obtain ⟨cs,h1,h2,v0,r0,h3,h4,v1,r1,h5,h6,v2,r2,h7,h8,v3,r3,h9,j9,v4,r4,h11,h12,v5,r5,h13,h14,h15⟩:=h;exact⟨cs,h1,h2,v0,r0,h3,h4,v1,r1,h5,h6,v2,r2,h7,h8,v3,r3,h9,j9,v4,r4,h11,h12,v5,r5,h13,.inl ⟨q_,none,0,h14⟩,h15⟩
end Go.Sy.Zaa
