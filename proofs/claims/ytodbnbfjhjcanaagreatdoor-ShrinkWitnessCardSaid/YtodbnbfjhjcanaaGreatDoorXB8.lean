/- Parts of a proof. -/
import Derived.Test.YtodbnbfjhjcanaaGreatDoorXB7
set_option maxHeartbeats 4000000
set_option linter.all false
namespace Go.Sy.Zaa
open Go.Proofs Go.Proofs.Tryz
attribute [local irreducible]G DR
set_option maxRecDepth 20000
def X8{k:Type}{p:k->Bool}{l:List k}{j:Nat}(hI:El (λ_ x=>!(p x)) l j)(hj:l.length<=j):l.any p=false:=by
 rw[wE];intro x hx;obtain ⟨i,hi,rfl⟩:=yY.1 hx;simpa using hI i hi q_
def eA{k:Type}{p:k->Bool}{l:List k}{j:Nat}(hj:j<l.length)(h:p l[j]=true):l.any p=true:=xY.2 ⟨_,zI hj,h⟩
def J2{P:Program}(Γ:Ty P){o:Oper}{s:SS}{t:TypeId}{ti:TI}{et:TypeId}{sz eb lo hi:Nat}{ez:List Value}{x:Operand}{lx hx:Option Operand}{a:Type}{e:a->SV}{l:List a}(r:List a)(h:o.op=.slice t x lx hx none)(ht:Γ.get t=some ti)(hk:ti.k=.slice et sz eb ez)(kv:ev s x=.sl sz e l)(j4:BoundIs s lx 0 lo)(kw:BoundIs s hx l.length hi)(h1:lo<=hi)(h2:hi<=l.length)(hr:(l.take hi).drop lo=r):Good P o s ⟨.sl sz e r,[],[]⟩:=by
 subst hr;exact D3 Γ h ht hk kv j4 kw h1 h2
def Agf(a:Int):Sp 366 [Aa a] (Ab false):=cT F366 ntmps366 λF hF=>by
 conv=>whnf
 exact Ar E Aq (zH Ab y_) E
def Age(a:Int):Sp 367 [Bl a] (Ab false):=cT F367 ntmps367 λF hF=>by
 conv=>whnf
 exact Ar E Aq (zH Ab y_) E
def cmpI(a b:Int):Int:=if a<b then -1 else if a>b then 1 else 0
def Kt(a b:Int):Sp 300 [Aa a,Aa b] (Aa (cmpI a b)):=cT F300 ntmps300 λF hF=>by
 conv=>whnf
 (repeat' (first|(refine⟨λh=>?_,λh=>?_⟩<;>(repeat (first|simp only[zJ]at h|simp only[yB]at h))<;>((refine oO ?_)))|(refine Ar rfl Aq ?_ rfl)|(refine c0 (Agf a) F366 ?_;((refine oO ?_)))|(refine c0 (Agf b) F366 ?_;((refine oO ?_);repeat((refine aF ?_);(refine oO ?_))))))
 all_goals (refine zH Aa ?_;clear hF;grind [cmpI])
def Anr(a b:Int):Sp 301 [Bl a,Bl b] (Aa (cmpI a b)):=cT F301 ntmps301 λF hF=>by
 conv=>whnf
 (repeat' (first|(refine⟨λh=>?_,λh=>?_⟩<;>(repeat (first|simp only[zJ]at h|simp only[yB]at h))<;>((refine oO ?_)))|(refine Ar rfl Aq ?_ rfl)|(refine c0 (Age a) F367 ?_;((refine oO ?_)))|(refine c0 (Age b) F367 ?_;((refine oO ?_);repeat((refine aF ?_);(refine oO ?_))))))
 all_goals (refine zH Aa ?_;clear hF;grind [cmpI])
def orI:List Int->Int
 |[]=>0
 |x::l=>if x=0 then orI l else x
def Ab0:∀{l:List Int} {j:Nat},(∀i (h:i<l.length),i<j->l[i]=0)->orI l=orI (l.drop j)
 |l,0,_=>rfl
 |[],j+1,_=>rfl
 |x::l,j+1,h=>by
  have h0:=h 0 y_ q_;simp only[tW]at h0;rw[orI,zE h0,List.drop_succ_cons];exact Ab0 λi hi bu=>h (i+1) kO q_
def orS(l:List Int)(hl:An l):Sp 299 [.sl 1 Aa l] (Aa (orI l)):=cT F299 ntmps299 λF hF=>by
 unfold An at hl
 conv=>whnf
 refine Ba l.length (λj=>∀i (h:i<l.length),i<j->l[i]=0) (λj=>[(3,Aa 0),(6,.sl 1 Aa l),(7,Aa l.length),(8,Aa j)]) (λ_=>[]) [] (λi h hj=>yA hj q_) kU ?_;intro j hj hI;refine oO ?_
 (repeat' (first|(refine⟨λh=>?_,λh=>?_⟩<;>(repeat (first|simp only[zJ]at h|simp only[yB]at h|simp only[xC]at h|simp only[bne_eq_false_iff_eq]at h))<;>((refine oO ?_)))|(refine Ar rfl Aq ?_ rfl)|(refine⟨z_,?_⟩;((conv=>whnf)))|(refine⟨by (omega),by (omega),?_⟩;((conv=>whnf)))|(refine⟨by (unfold I64;omega),?_⟩;((conv=>whnf)))|refine A8 [] hI q_ ?_ kU))
 all_goals try (refine zH Aa ?_)
 .have cn:j<l.length:=by omega
  rw[Ab0 hI,yL cn,orI,zD (kS h)];rfl
 .intro i hi bu;rcases vZ i j with h1|h1
  .exact hI i hi h1
  .have:i=j:=by omega
   subst this;simpa using h
 .rw[Ab0 hI,List.drop_of_length_le q_];rfl
def Ue(a b:Int)(l:List Int):decide (orI (cmpI a b::l)<0)=if a≠b then decide (a<b) else decide (orI l<0):=by
 rw[orI,cmpI];by_cases h1:a<b
 .simp[h1,show a≠b by omega]
 .by_cases h2:a>b
  .simp[h1,h2,show a≠b by omega]
  .simp[show a=b by omega]
structure Vec where
 (root cost bridge port own:Int)
def Vl(v:Vec):SV:=.agg [Aa v.root,Aa v.cost,Aa v.bridge,Aa v.port,Aa v.own]
def Hh(a b:Vec):Bool :=
 if a.root≠b.root then decide (a.root<b.root) else if a.cost≠b.cost then decide (a.cost<b.cost) else if a.bridge≠b.bridge then decide (a.bridge<b.bridge) else
  if a.port≠b.port then decide (a.port<b.port) else decide (a.own<b.own)
def lessS(a b:Vec):Sp 370 [Vl a,Vl b] (Ab (Hh a b)):=cT F370 ntmps370 λF hF=>by
 conv=>whnf
 (repeat' (first|(refine⟨λh=>?_,λh=>?_⟩<;>(repeat (first|simp only[yJ]at h|simp only[zU]at h|simp only[zG]at h|simp only[yX]at h))<;>((refine oO ?_)))|(refine Ar rfl Aq ?_ rfl)|(refine⟨z_,?_⟩;((conv=>whnf)))|(refine cD (Kt a.root b.root) F300 ?_;((refine rd z_ ?_);(conv=>whnf)))|(refine cD (Kt a.cost b.cost) F300 ?_;((refine rd z_ ?_);(conv=>whnf)))|(refine cD (Kt a.bridge b.bridge) F300 ?_;((refine rd z_ ?_);(conv=>whnf)))|(refine cD (Kt a.port b.port) F300 ?_;((refine rd z_ ?_);(conv=>whnf)))|(refine cD (Kt a.own b.own) F300 ?_;((refine rd z_ ?_);(conv=>whnf)))|(refine A22 [33] (orS [cmpI a.root b.root,cmpI a.cost b.cost,cmpI a.bridge b.bridge,cmpI a.port b.port,cmpI a.own b.own] (by simp[An])) F299 rfl (.cons (.lit rfl rfl rfl) .nil) rfl z_ rfl ?_;((refine rd z_ ?_);(conv=>whnf)))))
 all_goals (refine zH Ab ?_;clear hF)
 .grind [Hh]
 .rw[Ue,Ue,Ue,Ue,Ue,Hh];by_cases h1:a.own=b.own
  .simp[h1,orI]
  .simp[h1]
def Wm(lt:Int->Int->Bool)(x:Int):List Int->List Int
 |[]=>[x]
 |y::r=>if lt x y then y::Wm lt x r else x::y::r
def I5(lt:Int->Int->Bool)(l:List Int):List Int:=l.foldl (λr x=>Wm lt x r) []
def Y7(lt:Int->Int->Bool)(l:List Int):List Int:=(I5 lt l).reverse
def fP(lt:Int->Int->Bool)(x:Int):∀r,(Wm lt x r).Perm (x::r)
 |[]=>.refl _
 |y::r=>by
  rw[Wm];split
  .exact((fP lt x r).cons y).trans (.swap x y r)
  .exact .refl _
def Va(lt:Int->Int->Bool):∀(l r:List Int),(l.foldl (λr x=>Wm lt x r) r).Perm (l++r)
 |[],r=>.refl _
 |x::l,r=>by
  rw[vP];refine(Va lt l _).trans ?_;refine((fP lt x r).append_left l).trans ?_;simp
def Q4(lt:Int->Int->Bool)(l:List Int):(I5 lt l).Perm l:=by
 have:=Va lt l [];simpa [I5] using this
def Z5(lt:Int->Int->Bool)(l:List Int):(Y7 lt l).Perm l:=(List.reverse_perm _).trans (Q4 lt l)
def Amm(lt:Int->Int->Bool)(l:List Int)(i:Nat)(h:i<l.length):I5 lt (l.take (i+1))=Wm lt l[i] (I5 lt (l.take i)):=by
 rw[yD h,I5,xP];rfl
mutual
theorem Ur{K:List Nat}:∀x:SV,x.inn []=true->x.inn K=true
 | .ptr _ _,h=>by simp[SV.inn,S7]at h
 | .rpt _ _ _ _,h=>by simp[SV.inn,S7]at h
 | .osl _,h=>by simp[SV.inn,S7]at h
 | .agg l,h=>by simp only[SV.inn]at h|-;exact Wn l h
 | .tup l,h=>by simp only[SV.inn]at h|-;exact Wn l h
 | .ifc _ x,h=>by simp only[SV.inn]at h|-;exact Ur x h
 | .clo _ f l,h=>by simp only[SV.inn,zG]at h|-;exact⟨Wn f h.1,Wn l h.2⟩
 | .top,_=>rfl
 | .val _,_=>rfl
 | .sl _ _ _,_=>rfl
 | .ref _ _ _,_=>rfl
theorem Wn{K:List Nat}:∀l:List SV,B7 [] l=true->B7 K l=true
 |[],_=>rfl
 |x::l,h=>by simp only[B7,zG]at h|-;exact⟨Ur x h.1,Wn l h.2⟩
end
def Acp(l:List Int)(c:Int->Int->Int)(Q:Int->Prop)(f:FuncId)(first cap:List SV)(hc:(SV.clo (.func f) first cap).inn []=true)(hf:∀a b,Q a->Q b->Hg prog f (first++[Aa a,Aa b]++cap) (Aa (c a b)))(hQ:∀a∈l,Q a)(hl:An l):Sq 397 [.osl 0,Aa 0,Aa l.length,.clo (.func f) first cap] [(0,.row 1 Aa l)] (.tup []) [(0,.row 1 Aa (Y7 (λa b=>decide (c a b<0)) l))]:=cT F397 ntmps397 λF hF=>by
 unfold An at hl;have a6:∀x y:Int,B7 [] (first++[Aa x,Aa y]++cap)=true:=λx y=>Db hc rfl
 have im:(SV.clo (.func f) first cap).inn [0]=true:=Ur _ hc;generalize ab:(λa b=>decide (c a b<0))=lt
 conv=>whnf
 (repeat' (refine⟨by (unfold I64;omega),?_⟩;((conv=>whnf))))
 refine Ba l.length (λ_=>True) (λj=>[(0,.osl 0),(1,Aa 0),(2,Aa l.length),(3,.clo (.func f) first cap),(8,Aa ((j:Int)+1))]) (λj=>[(0,.row 1 Aa ((I5 lt (l.take (j+1))).reverse++l.drop (j+1)))]) [] Y ⟨⟨E,E,E,E,E,E,Bh _,im,E,E,Y⟩,⟨.inl (zH (Ob.row 1 Aa) ?_),E,Y⟩,E,E⟩ ?_
 .cases l with
  |nil=>rfl
  |cons a l=>simp[I5,Wm]
 intro j hj _;refine gH ?_ ?_<;>intro h
 .have dq:j+1<l.length:=qA h;have gv:l.drop (j+1)=l[j+1]::l.drop (j+1+1):=yL dq;have om:=Amm lt l (j+1) dq;have hr:(I5 lt (l.take (j+1))).length=j+1:=by rw[(Q4 lt _).length_eq];simp;omega
  have hQx:Q l[j+1]:=hQ _ (zI dq);have hQr:∀z∈I5 lt (l.take (j+1)),Q z:=λz hz=>hQ z (wV ((Q4 lt _).mem_iff.1 hz))
  rw[gv];generalize l[j+1]=x at om hQx;generalize I5 lt (l.take (j+1))=r at om hr hQr;generalize hR:l.drop (j+1+1)=R at *;refine oO ?_;refine Xk (α:={p:List Int×List Int // Wm lt x r=p.2.reverse++Wm lt x p.1/\p.1.length+p.2.length=j+1/\∀z∈p.1,Q z}) (λp=>[(0,.osl 0),(1,Aa 0),(2,Aa l.length),(3,.clo (.func f) first cap),(8,Aa ((j:Int)+1)),(9,Aa p.1.1.length)]) (λp=>[(0,.row 1 Aa (p.1.1.reverse++x::(p.1.2++R)))]) (λp=>p.1.1.length) ⟨(r,[]),by simp,kS hr,hQr⟩ []
   ⟨⟨rfl,rfl,rfl,rfl,rfl,rfl,Bh _,im,rfl,rfl,zH Aa (by rw[hr];omega),rfl,trivial⟩,⟨.inl rfl,rfl,trivial⟩,rfl,rfl⟩ ?_
  rintro ⟨⟨A,B⟩,gb,em,ux⟩;simp only at gb em ux;dsimp only;cases A with
  |nil=>
   simp only[Wm]at gb
   (refine rg ?_;(conv=>whnf);refine aF ?_;refine oD ?_)
   refine⟨z_,?_⟩
   ((conv=>whnf);refine aF ?_;refine rg ?_;conv=>whnf)
   refine iW ?_;refine A8 [] Y q_ Y ⟨⟨E,E,E,E,E,E,Bh _,im,zH Aa q_,E,Y⟩,⟨.inl (zH (Ob.row 1 Aa) ?_),E,Y⟩,E,E⟩;show (I5 lt (l.take (j+1+1))).reverse++l.drop (j+1+1)=[].reverse++x::(B++R);rw[om,gb,hR];simp
  |cons y A=>
   have hQy:=ux y y_;refine oO ?_;refine⟨λ_=>?_,λh=>yA (zT h) y_⟩;refine oD ?_;have e1:((y::A).reverse++x::(B++R))[(((y::A).length:Nat):Int).toNat]'y_=x:=by simp
   have e2:((y::A).reverse++x::(B++R))[((((y::A).length:Nat):Int)-1).toNat]'y_=y:=by simp
   refine⟨by omega,by simp,?_⟩
   conv=>whnf
   refine⟨E,by simp,?_⟩;rw[e1]
   conv=>whnf
   refine⟨by unfold I64;simp at em;simp;omega,?_⟩
   conv=>whnf
   refine⟨by simp,by simp,?_⟩
   conv=>whnf
   refine⟨E,by simp,?_⟩;rw[e2]
   conv=>whnf
   refine Ask (hf x y hQx hQy) E E E (by simp only[a6];rfl) z_ E ?_;refine gL ?_;constructor<;>intro h2
   .refine oO ?_;refine⟨by unfold I64;simp at em;simp;omega,?_⟩
    conv=>whnf
    refine⟨by unfold I64;simp at em;simp;omega,?_⟩
    conv=>whnf
    refine⟨by simp,by simp,?_⟩
    conv=>whnf
    refine⟨E,by simp,?_⟩;rw[e2]
    conv=>whnf
    refine⟨by omega,by simp,?_⟩
    conv=>whnf
    refine⟨E,by simp,?_⟩;rw[e1]
    conv=>whnf
    refine⟨by omega,by simp,?_⟩
    conv=>whnf
    refine⟨E,by simp,y,E,E,?_⟩
    conv=>whnf
    refine⟨by simp,by simp,?_⟩
    conv=>whnf
    refine⟨E,by simp,x,E,E,?_⟩
    conv=>whnf
    refine kW ?_;refine⟨by unfold I64;simp at em;simp;omega,?_⟩
    conv=>whnf
    have y6:lt x y=true:=by rw[<-ab];exact h2
    refine Zj (α:={p:List Int×List Int // Wm lt x r=p.2.reverse++Wm lt x p.1/\p.1.length+p.2.length=j+1/\∀z∈p.1,Q z}) (L:=λp=>[(0,.osl 0),(1,Aa 0),(2,Aa l.length),(3,.clo (.func f) first cap),(8,Aa ((j:Int)+1)),(9,Aa p.1.1.length)]) (O:=λp=>[(0,.row 1 Aa (p.1.1.reverse++x::(p.1.2++R)))]) (μ:=λp=>p.1.1.length) (x:=⟨(y::A,B),gb,em,ux⟩)
     ⟨(A,y::B),by simp only[gb,Wm,y6,if_true];simp,by simp at em|-;omega,λz hz=>ux z (by simp[hz])⟩ [] y_
     ⟨⟨rfl,rfl,rfl,rfl,rfl,rfl,Bh _,im,rfl,rfl,zH Aa y_,rfl,trivial⟩,⟨.inl (zH (Ob.row 1 Aa) ?_),rfl,trivial⟩,rfl,rfl⟩
    simp
   .refine oO ?_;have y6:lt x y=false:=by rw[<-ab];exact h2
    refine iW ?_;refine A8 [] Y q_ Y ⟨⟨E,E,E,E,E,E,Bh _,im,zH Aa q_,E,Y⟩,⟨.inl (zH (Ob.row 1 Aa) ?_),E,Y⟩,E,E⟩;show (I5 lt (l.take (j+1+1))).reverse++l.drop (j+1+1)=(y::A).reverse++x::(B++R);rw[om,gb,hR,Wm,y6];simp
 .have h:=zT h;have e:(I5 lt (l.take (j+1))).reverse++l.drop (j+1)=Y7 lt l:=by
   rw[xI q_,List.drop_of_length_le q_,xD];rfl
  rw[e];refine oO ?_;exact A6 E .nil [] [(0,.row 1 Aa (Y7 lt l))] (λ_ h=>h) E E kU
def A37(l:List Int)(c:Int->Int->Int)(Q:Int->Prop)(f:FuncId)(first cap:List SV)(hc:(SV.clo (.func f) first cap).inn []=true)(hf:∀a b,Q a->Q b->Hg prog f (first++[Aa a,Aa b]++cap) (Aa (c a b)))(hQ:∀a∈l,Q a)(hl:l.length<20):Sq 365 [.osl 0,Aa l.length,.clo (.func f) first cap] [(0,.row 1 Aa l)] (.tup []) [(0,.row 1 Aa (Y7 (λa b=>decide (c a b<0)) l))]:=cT F365 ntmps365 λF hF=>by
 have im:(SV.clo (.func f) first cap).inn [0]=true:=Ur _ hc;have hins:=Acp l c Q f first cap hc hf hQ (by unfold An;omega)
 generalize Y7 (λa b=>decide (c a b<0)) l=l' at hins
 conv=>whnf
 refine Bg 0 (λ j=>[(0,.osl 0),(1,Aa l.length),(2,.clo (.func f) first cap),(6,Aa 20),(7,Aa 0),(8,Aa 20)]) (λ _=>[(0,.row 1 Aa l)]) [] ⟨⟨E,E,E,E,Bh _,im,E,E,E,E,E,E,Y⟩,⟨.inl E,E,Y⟩,E,E⟩ ?_;intro j hj;refine oO ?_;refine⟨λ h=>yA (zO h) q_,λ _=>?_⟩;refine oO ?_;refine Aj (Ad [] E F397 hins (J5 _) ⟨E,Y⟩ (by
  have h0:B7 [0] [.osl 0,Aa 0,Aa l.length,.clo (.func f) first cap]=true:=by simp only[B7,im];rfl
  simp only[Qm,Obs.keys,xV,uA,h0];rfl) ⟨.inl rfl,trivial⟩) rfl rfl ?_
 refine oO ?_;refine Bg 0 (λj=>[(1,Aa l.length),(6,Aa 20)]) (λ_=>[(0,.row 1 Aa l')]) [] kU ?_;clear hj;intro j hj;refine oO ?_;refine⟨λh=>yA (zO h) q_,λ_=>?_⟩;refine oO ?_;exact A6 E .nil [] [(0,.row 1 Aa l')] (λ_ h=>h) E E kU
def Akl(l:List Int)(c:Int->Int->Int)(Q:Int->Prop)(f:FuncId)(first cap:List SV)(hc:(SV.clo (.func f) first cap).inn []=true)(hf:∀a b,Q a->Q b->Hg prog f (first++[Aa a,Aa b]++cap) (Aa (c a b)))(hQ:∀a∈l,Q a)(hl:l.length<20):Sq 297 [.osl 0,.clo (.func f) first cap] [(0,.row 1 Aa l)] (.tup []) [(0,.row 1 Aa (Y7 (λa b=>decide (c a b<0)) l))]:=cT F297 ntmps297 λF hF=>by
 have im:(SV.clo (.func f) first cap).inn [0]=true:=Ur _ hc;have br:=A37 l c Q f first cap hc hf hQ hl
 generalize Y7 (λa b=>decide (c a b<0)) l=l' at br
 conv=>whnf
 refine Aj (Ad [] E F365 br (J5 _) ⟨E,Y⟩ (by
  have h0:B7 [0] [.osl 0,Aa l.length,.clo (.func f) first cap]=true:=by simp only[B7,im];rfl
  simp only[Qm,Obs.keys,xV,uA,h0];rfl) ⟨.inl rfl,trivial⟩) rfl rfl ?_
 refine oO ?_;exact A6 E .nil [] [(0,.row 1 Aa l')] (λ_ h=>h) E E kU
def Aez(n:Net)(a b:Int):Int:=orI [cmpI (nth n.devices a).prio (nth n.devices b).prio,cmpI (nth n.devices a).mac (nth n.devices b).mac]
def ranks1(n:Net)(a b:Int)(ha:0<=a/\a<n.devices.length)(hb:0<=b/\b<n.devices.length):Sp 298 [Aa a,Aa b,.ref 8 (Am n) 0] (Aa (Aez n a b)):=cT F298 ntmps298 λF hF=>by
 have e1:Aez n a b=orI [cmpI (n.devices[a.toNat]'q_).prio (n.devices[b.toNat]'q_).prio,cmpI (n.devices[a.toNat]'q_).mac (n.devices[b.toNat]'q_).mac]:=by
  rw[Aez,Ae q_,Ae q_]
 rw[e1]
 conv=>whnf
 (repeat' (first|(refine Ar rfl Aq ?_ rfl)|(refine⟨z_,?_⟩;((conv=>whnf)))|(refine⟨by (omega),by (omega),?_⟩;((conv=>whnf)))|(refine cD (Kt (n.devices[a.toNat]'q_).prio (n.devices[b.toNat]'q_).prio) F300 ?_;((refine rd z_ ?_);(conv=>whnf)))|(refine cD (Anr (n.devices[a.toNat]'q_).mac (n.devices[b.toNat]'q_).mac) F301 ?_;((refine rd z_ ?_);(conv=>whnf)))|(refine A22 [28] (orS [cmpI (n.devices[a.toNat]'q_).prio (n.devices[b.toNat]'q_).prio,cmpI (n.devices[a.toNat]'q_).mac (n.devices[b.toNat]'q_).mac] (by simp[An])) F299 rfl (.cons (.lit rfl rfl rfl) .nil) rfl z_ rfl ?_;((refine rd z_ ?_);(conv=>whnf)))))
 all_goals rfl
def bY(m:Nat):List Int:=(List.range m).map λ(i:Nat)=>(i:Int)
def Af0(m:Nat):bY (m+1)=bY m++[(m:Int)]:=by simp[bY,vH]
def Mf(m:Nat):(bY m).length=m:=by simp[bY]
def K1(ord:List Int):Nat->List Int
 |0=>List.replicate ord.length 0
 |j+1=>(K1 ord j).set (nth ord j).toNat j
def J7(ord:List Int):∀j,(K1 ord j).length=ord.length
 |0=>by simp[K1]
 |j+1=>by simp[K1,J7 ord j]
def H4(n:Net):List Int:=Y7 (λa b=>decide (Aez n a b<0)) (bY n.devices.length)
def Cw(n:Net):List Int:=K1 (H4 n) n.devices.length
def ranksS(n:Net)(hn:n.Fin):Sp 228 [Am n] (.sl 1 Aa (if Ac n then Cw n else [])):=cT F228 ntmps228 λF hF=>by
 have hl:=hn.devices;unfold An at hl
 conv=>whnf
 refine gE (A2 n hn) F39 ?_;constructor<;>intro h
 .have h:Ac n=false:=by simpa using h
  refine oO ?_;refine Ao 2 1 Aa E ?_;exact Ar E Aq (by rw[h];rfl) E
 have h:Ac n=true:=kS h;have h8:n.devices.length<=8:=by
  simp only[Ac,Ae9,zG,zJ]at h;exact h.1.1.1.1.1.1.1.1.1.1.1.1.1.1.1
 rw[h,zE rfl,Cw];refine oO ?_;refine Bf 1 8 (Am n) E E E (Ca 3 1000 1 Aa E E ?_);refine Bg n.devices.length (λj=>[(1,.ref 8 (Am n) 0),(3,.osl 1000),(13,Aa n.devices.length),(14,Aa j)]) (λj=>[(1000,.row 1 Aa (bY j))]) [] kU ?_;intro j hj;refine oO ?_;constructor<;>intro h2
 .have ab:j<n.devices.length:=by simpa using h2
  refine oO ?_;refine Aj (Ah Γ.toTy 20 E E E E E (.row E) (.lit (l:=[(j:Int)]) E E) y_ (by simp[Mf];omega) (by simp[Mf];omega)) E E (gF ?_);exact Az [(1000,20)] ab ⟨kA,⟨.inl (zH (Ob.row 1 Aa) (Af0 j)),E,Y⟩,E,E⟩
 have dq:j=n.devices.length:=by have:¬j<n.devices.length:=(kS h2);omega
 subst dq;refine oO ?_;have sa:=Akl (bY n.devices.length) (Aez n) (λ a=>0<=a/\a<n.devices.length) 298 [] [.ref 8 (Am n) 0] rfl (λ a b ha hb=>⟨⟨_,_,F298⟩,ranks1 n a b ha hb⟩) (λ a ha=>by
  obtain ⟨i,hi,rfl⟩:=yS.1 ha;have:=yV.1 hi;omega) (by rw[Mf];omega)
 have hslen:(H4 n).length=n.devices.length:=by rw[H4,(Z5 _ _).length_eq,Mf]
 have jj:∀a∈H4 n,0<=a/\a<n.devices.length:=λa ha=>by
  have:=(Z5 _ _).mem_iff.1 ha;obtain ⟨i,hi,rfl⟩:=yS.1 this;have:=yV.1 hi;omega
 change Sy.Spec _ _ _ _ _ [(0,.row 1 Aa (H4 n))]at sa;generalize H4 n=sl at sa hslen jj;refine Aj (Ad [(0,1000)] E F297 sa E ⟨E,Y⟩ E ⟨.inl E,Y⟩) E E (oO ?_);refine Aj (B4 Γ.toTy (d:=27) (n:=sl.length) Aa 0 E E E E E E E E q_ q_ E E E) E E (oO ?_);refine Bg sl.length (λj=>[(5,.osl 27),(28,.osl 1000),(29,Aa sl.length),(30,Aa j)]) (λj=>[(1000,.row 1 Aa sl),(27,.row 1 Aa (K1 sl j))]) [] kU ?_;clear hj h2;intro j hj;refine oO ?_;constructor<;>intro h2
 .have ab:j<sl.length:=by simpa using h2
  have sj:=jj _ (zI ab);have fu:nth sl j=sl[j]:=Ae (kS ab);have jl:=J7 sl j;refine oO ?_;refine⟨by omega,by omega,?_⟩
  conv=>whnf
  refine⟨E,by omega,?_⟩
  conv=>whnf
  refine⟨sj.1,by rw[jl];exact(by omega:sl[j].toNat<sl.length),?_⟩
  conv=>whnf
  refine⟨E,by rw[jl];exact(by omega:sl[j].toNat<sl.length),(j:Int),E,E,?_⟩
  conv=>whnf
  refine iW ?_;exact Az [] ab ⟨kA,⟨.inl E,E,.inl (zH (Ob.row 1 Aa) (by rw[K1,fu];rfl)),E,Y⟩,E,E⟩
 have dq:j=n.devices.length:=by
  have:¬j<sl.length:=kS h2;omega
 subst dq;refine oO ?_;exact Ai 27 E dN
def Cb(n:Net)(a b:Int):Bool :=
 if (nth n.devices a).prio≠(nth n.devices b).prio then decide ((nth n.devices a).prio<(nth n.devices b).prio) else
  if (nth n.devices a).mac≠(nth n.devices b).mac then decide ((nth n.devices a).mac<(nth n.devices b).mac) else decide (a<b)
def Lv(n:Net):List Int:=(List.range n.devices.length).map λ(i:Nat)=>(((List.range n.devices.length).countP λk=>Cb n (k:Nat) i:Nat):Int)
end Go.Sy.Zaa
namespace Go.Sy.Zaa
def key_lt(n:Net)(a b:Int):decide (Aez n a b<0)=if (nth n.devices a).prio≠(nth n.devices b).prio then decide ((nth n.devices a).prio<(nth n.devices b).prio) else
  if (nth n.devices a).mac≠(nth n.devices b).mac then decide ((nth n.devices a).mac<(nth n.devices b).mac) else false:=by
 rw[Aez,Ue,Ue];rfl
def Oj(n:Net)(a:Int):Cb n a a=false:=by simp[Cb]
def Xg(n:Net){a b c:Int}(h1:Cb n a b=true)(h2:Cb n b c=true):Cb n a c=true:=by
 unfold Cb at *;generalize nth n.devices a=x at *;generalize nth n.devices b=y at *;generalize nth n.devices c=z at *
 grind
def Aob(n:Net){a b:Int}(h1:Cb n a b=true):Cb n b a=false:=by
 cases h:Cb n b a with
 |false=>rfl
 |true=>have:=Xg n h1 h;rw[Oj]at this;cases this
def Agd(n:Net){x y:Int}(h:y<x):decide (Aez n x y<0)=Cb n x y:=by
 rw[key_lt];unfold Cb;generalize nth n.devices x=p at *;generalize nth n.devices y=q at *
 grind
def A40(n:Net){x y:Int}(h:y<x)(hk:Cb n x y=false):Cb n y x=true:=by
 unfold Cb at *;generalize nth n.devices x=p at *;generalize nth n.devices y=q at *
 grind
def Agg(n:Net)(x:Int):∀(r:List Int),(∀y∈r,y<x)->r.Pairwise (λa b=>Cb n b a=true)->(Wm (λa b=>decide (Aez n a b<0)) x r).Pairwise (λa b=>Cb n b a=true)
 |[],_,_=>by simp[Wm]
 |y::r,hx,hp=>by
  have hy:=hx y y_;rw[uE]at hp;rw[Wm];split
  .rename_i ab;rw[Agd n hy]at ab;rw[uE];refine⟨λz hz=>?_,Agg n x r (λz hz=>hx z (by simp[hz])) hp.2⟩;rcases yI.1 ((fP _ x r).mem_iff.1 hz) with rfl|hz
   .exact ab
   .exact hp.1 z hz
  .rename_i ab;rw[Agd n hy]at ab;have hyx:=A40 n hy (kS ab);rw[uE,uE];refine⟨λz hz=>?_,hp⟩;rcases yI.1 hz with rfl|hz
   .exact hyx
   .exact Xg n (hp.1 z hz) hyx
def nL(n:Net):∀m,(I5 (λa b=>decide (Aez n a b<0)) (bY m)).Pairwise (λa b=>Cb n b a=true)
 |0=>by simp[I5,bY]
 |m+1=>by
  rw[Af0,I5,xP];refine Agg n m _ (λy hy=>?_) (nL n m);have:=(Q4 _ _).mem_iff.1 hy;obtain ⟨i,hi,rfl⟩:=yS.1 this;have:=yV.1 hi;omega
def eU(n:Net):(H4 n).Pairwise (λa b=>Cb n a b=true):=by
 rw[H4,Y7,List.pairwise_reverse];exact nL n _
def Ahy(n:Net):(H4 n).Perm (bY n.devices.length):=Z5 _ _
def Anq(n:Net){l:List Int}(hp:l.Pairwise (λa b=>Cb n a b=true))(r:Nat)(hr:r<l.length):l.countP (λk=>Cb n k l[r])=r:=by
 have jd:l=l.take r++l[r]::l.drop (r+1):=by
  rw[<-yL hr,List.take_append_drop]
 have h1:(l.take r).countP (λk=>Cb n k l[r])=r:=by
  rw[List.countP_eq_length.2 (λk hk=>?_),zY]
  .omega
  .obtain ⟨i,hi,rfl⟩:=yY.1 hk;simp only[zY]at hi;rw[wD];exact wM.1 hp i r q_ hr q_
 have h2:(l.drop (r+1)).countP (λk=>Cb n k l[r])=0:=by
  rw[List.countP_eq_zero];intro k hk;obtain ⟨i,hi,rfl⟩:=yY.1 hk;simp only[yP]at hi;rw[vW];have:=wM.1 hp r (r+1+i) hr q_ q_;simp[Aob n this]
 calc l.countP (λk=>Cb n k l[r])=(l.take r++l[r]::l.drop (r+1)).countP (λk=>Cb n k l[r]):=zH _ jd
  _=r:=by rw[List.countP_append,List.countP_cons,h1,h2,Oj];simp
def bP(L:List Int)(hn:L.Nodup)(hm:∀a∈L,0<=a/\a<L.length):∀(j:Nat),j<=L.length->∀(r:Nat) (hr:r<L.length),r<j->(K1 L j)[L[r].toNat]? = some (r:Int)
 |0,_,r,_,h=>by omega
 |j+1,hj,r,hr,h=>by
  have hmr:=hm _ (zI hr);have hlen:=J7 L j;have fu:nth L (j:Int)=L[j]:=Ae kO;rw[K1,fu,tE];split
  .rename_i he;have sj:=hm _ (zI (show j<L.length by omega));have hjr:L[j]=L[r]:=by omega
   have:j=r:=by
    have:=(List.getElem_inj (i:=j) (j:=r) (h₀:=by omega) (h₁:=hr) hn).1 hjr;exact this
   subst this;rw[zE q_]
  .rename_i he;have af:r≠j:=λe=>he (by subst e;rfl)
   exact bP L hn hm j q_ r hr q_
def Aqn(m:Nat):(bY m).Nodup:=by
 rw[bY];exact List.Pairwise.map _ (λ(a b:Nat) (h:a≠b)=>by intro e;exact h q_) List.nodup_range
def Abo(n:Net):Cw n=Lv n:=by
 have hp:=Ahy n;have hlen:(H4 n).length=n.devices.length:=by rw[hp.length_eq,Mf]
 have xo:(H4 n).Nodup:=hp.nodup_iff.2 (Aqn _);have hm:∀a∈H4 n,0<=a/\a<(H4 n).length:=λa ha=>by
  obtain ⟨i,hi,rfl⟩:=yS.1 (hp.mem_iff.1 ha);have:=yV.1 hi;omega
 refine List.ext_getElem? λi=>?_
 rcases vZ i n.devices.length with hi|hi
 .have a6:(i:Int)∈H4 n:=hp.mem_iff.2 (yS.2 ⟨i,yV.2 hi,rfl⟩);obtain ⟨r,hr,he⟩:=yY.1 a6;have h1:=bP (H4 n) xo hm n.devices.length q_ r hr q_;rw[he]at h1;have h2:=Anq n (eU n) r hr;rw[he,hp.countP_eq]at h2;rw[Cw,Lv,vU,uK hi];simp only[zZ]at h1;rw[h1];simp only[uL];congr 2;rw[<-h2,bY,List.countP_map];rfl
 .rw[wK,wK]
  .simp[Lv];omega
  .rw[Cw,J7];omega
def A5u{C:Cx}{k:List KI}{s:SS}(d:Nat)(x:SV)(h:Vw s [] (s.σ d) x)(hg:G C k ⟨upd s.σ d x,s.h⟩):G C k s:=λb a w hs=>
 hg b a w ⟨hs.defers,hs.size,hs.inv,hs.ctx,λ i=>by
  show Rd b w (upd s.σ d x i) _;by_cases hi:i=d
  .subst hi;rw[B1];exact Vw.rd hs.inv (λ_ hn=>by cases hn) h (hs.slot i)
  .rw[Cz _ _ hi];exact hs.slot i,hs.obj⟩
open Go.Proofs Go.Proofs.Tryz
attribute [local irreducible]G DR
set_option maxRecDepth 20000
def Iz(p:Port):Bool:=decide (p.cost<1)||decide (p.cost>65535)
def costs1(p:Port):Sp 296 [Bb p] (Ab (Iz p)):=cT F296 ntmps296 λF hF=>by
 conv=>whnf
 (repeat' (first|(refine⟨λh=>?_,λh=>?_⟩<;>(repeat (first|simp only[zJ]at h|simp only[yB]at h))<;>((refine oO ?_)))|(refine Ar rfl Aq ?_ rfl)))
 all_goals (refine zH Ab ?_;clear hF;grind [Iz])
def aH(l:List Port)(p:Port->Bool)(f:FuncId)(first cap:List SV)(hc:(SV.clo (.func f) first cap).inn []=true)(hf:∀x∈l,Hg prog f (first++[Bb x]++cap) (Ab (p x)))(hl:An l):Sp 295 [.sl 7 Bb l,.clo (.func f) first cap] (Ab (l.any p)):=cT F295 ntmps295 λF hF=>by
 have h0:B7 [] [.sl 7 Bb l,.clo (.func f) first cap]=true:=by simp only[B7,hc];rfl
 conv=>whnf
 refine M4 (U8 l p f first cap hc hf hl) F225 E E (by simp only[h0];rfl) E E (oO ?_);exact Ar E Aq (zH Ab (I8 _ _).symm) E
def Cv(n:Net):Bool:=!(n.ports.any Iz)
def A2y(n:Net)(hl:An n.ports):Sp 227 [Am n] (Ab (Cv n)):=cT F227 ntmps227 λF hF=>by
 conv=>whnf
 refine gE (aH n.ports Iz 296 [] [] E (λx _=>⟨⟨_,_,F296⟩,costs1 x⟩) hl) F295 ?_;exact dN
def Lg(n:Net):Bool :=
 decide (200<n.devices.length)||decide (200<n.ports.length)||decide (200<n.links.length)||decide (200<n.domains.length)||decide (200<n.statics.length)||decide (200<n.floods.length)||decide (200<n.vrfs.length)||decide (200<n.irbs.length) ||
  n.ports.any (λp=>decide (100<p.tagged.length))||n.domains.any (λd=>decide (100<d.peers.length))||n.floods.any (λf=>decide (100<f.addrs.length))||n.vrfs.any (λv=>decide (100<v.imports.length)||decide (100<v.exports.length))
set_option maxRecDepth 100000
def Bo{k:Type}{l:List k}{i:Nat}{d:k}(h:i<l.length):l.getD i d=l[i]:=by simp[List.getD,h]
def T7{n:Net}(h:Ac n=true){i:Nat}(hi:i<n.ports.length):Kj n i n.ports[i]=true:=by
 simp only[Ac,zG]at h;exact allB_iff.1 h.1.1.1.1.1.2 i hi
def Zx{n:Net}(h:Ac n=true){i:Nat}(hi:i<n.links.length):M2 n i n.links[i]=true:=by
 simp only[Ac,zG]at h;exact allB_iff.1 h.1.1.1.1.2 i hi
def Ip{n:Net}(h:Ac n=true):n.devices.length<=8/\n.ports.length<=40/\n.links.length<=20:=by
 simp only[Ac,Ae9,zG,zJ]at h;omega
def Xs{n:Net}(h:Ac n=true){i:Nat}(hi:i<n.ports.length):n.ports[i].link=-1\/(0<=n.ports[i].link/\n.ports[i].link<n.links.length):=by
 have:=T7 h hi;simp only[Kj,Ag,zG,yO,yJ,zJ]at this;rcases this.2 with h1|h1
 .exact .inl h1
 .exact .inr h1.1
def V8{n:Net}(h:Ac n=true){i:Nat}(hi:i<n.ports.length):0<=n.ports[i].dev/\n.ports[i].dev<n.devices.length:=by
 have:=T7 h hi;simp only[Kj,Ag,zG,zJ]at this;exact this.1.1.1.1.1.1.1.1
def Om{n:Net}(h:Ac n=true){i:Nat}(hi:i<n.links.length):(0<=n.links[i].a/\n.links[i].a<n.ports.length)/\0<=n.links[i].b/\n.links[i].b<n.ports.length:=by
 have:=Zx h hi;simp only[M2,Ag,zG,zJ]at this;exact⟨this.1.1.1.1,this.1.1.1.2⟩
def B6(n:Net)(i:Nat):Int:=(nth n.ports i).dev
def Me(n:Net)(i:Nat):Int:=(nth n.ports i).cost
def bS{n:Net}(aj:Cv n=true){i:Nat}(hi:i<n.ports.length):1<=Me n i/\Me n i<=65535:=by
 rw[Me,Ae (l:=n.ports) (i:=(i:Int)) (kS hi)];simp only[Cv,yU,wE]at aj;have:=aj _ (zI hi);simp only[Iz,yO,zJ,uF]at this;simp only[zZ];omega
def A2s(d:Domain):SV:=.agg [Aa d.dev,Aa d.vlan,Aa d.vni,Aa d.irb,Aa d.row,svN]
def Axx{M:Nat->Prop}{w:World}(p:Domain)(hp:p.peers=[]){v:Value}(h:RdD M w (A2s p) v):RdD M w (At p) v:=by
 simp only[A2s,At,RdD,RdDL,hp]at h|-;obtain ⟨cs,h1,h2,v0,r0,h3,h4,v1,r1,h5,h6,v2,r2,h7,h8,v3,r3,h9,kq,v4,r4,h11,h12,v5,r5,h13,h14,h15⟩:=h;exact⟨cs,h1,h2,v0,r0,h3,h4,v1,r1,h5,h6,v2,r2,h7,h8,v3,r3,h9,kq,v4,r4,h11,h12,v5,r5,h13,.inl ⟨Y,none,0,h14⟩,h15⟩
end Go.Sy.Zaa
