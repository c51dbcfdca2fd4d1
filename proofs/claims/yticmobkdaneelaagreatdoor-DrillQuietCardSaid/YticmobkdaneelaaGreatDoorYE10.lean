/- Parts of a proof. -/
import Derived.Test.YticmobkdaneelaaGreatDoorYE9
set_option linter.all false
set_option linter.unusedVariables false
set_option linter.unusedSimpArgs false
set_option linter.deprecated false
namespace Go.Sy.YticmobkdaneelaaGreatDoor
open Go.Proofs Go.Proofs.Tryz
attribute [local irreducible] Go.Sy.G Go.Sy.DR
set_option maxRecDepth 20000
set_option maxHeartbeats 4000000
def Wc{α:Type}{p:α→Bool}{l:List α}{j:Nat}(hI:En (λ_ x=>!(p x)) l j)(hj:l.length≤j):l.any p=false:=by
 rw[wM];intro x hx;obtain ⟨i,hi,rfl⟩:=yY.1 hx;simpa using hI i hi q_
def Aae{α:Type}{p:α→Bool}{l:List α}{j:Nat}(hj:j<l.length)(h:p l[j]=true):l.any p=true:=wK.2 ⟨_,zI hj,h⟩
def Ahr{P:Program}(Γ:Ty P){o:Oper}{s:SS}{t:TypeId}{ti:TI}{et:TypeId}{sz eb lo hi:Nat}{ez:List Value}{x:Operand}{lx hx:Option Operand}{α:Type}{e:α→SV}{l:List α}(r:List α)(h:o.op=.slice t x lx hx none)(ht:Γ.get t=some ti)(hk:ti.k=.slice et sz eb ez)(mo:ev s x=.sl sz e l)(jw:BoundIs s lx 0 lo)(kt:BoundIs s hx l.length hi)(h1:lo≤hi)(h2:hi≤l.length)(hr:(l.take hi).drop lo=r):Good P o s ⟨.sl sz e r,[],[]⟩:=by
 subst hr;exact Dt Γ h ht hk mo jw kt h1 h2
def Ai4(a:Int):Sp 278 [Aa a] (Ab false):=cT F278 ntmps278 λF hF=>by
 conv=>whnf
 exact At E (.cons .tmp .nil) (zH Ab y_) E
def Ai3(a:Int):Sp 279 [A2 a] (Ab false):=cT F279 ntmps279 λF hF=>by
 conv=>whnf
 exact At E (.cons .tmp .nil) (zH Ab y_) E
def cmpI(a b:Int):Int:=if a<b then -1 else if a>b then 1 else 0
def J5(a b:Int):Sp 204 [Aa a,Aa b] (Aa (cmpI a b)):=cT F204 ntmps204 λF hF=>by
 conv=>whnf
 (repeat' (first|(refine⟨λh=>?_,λh=>?_⟩<;>(repeat (first|simp only[zJ]at h|simp only[zX]at h))<;>((refine oO ?_)))|(refine At rfl (.cons .tmp .nil) ?_ rfl)|(refine c0 (Ai4 a) F278 ?_;((refine oO ?_)))|(refine c0 (Ai4 b) F278 ?_;((refine oO ?_);repeat((refine aF ?_);(refine oO ?_))))))
 all_goals (refine zH Aa ?_;clear hF;grind [cmpI])
def Ap8(a b:Int):Sp 205 [A2 a,A2 b] (Aa (cmpI a b)):=cT F205 ntmps205 λF hF=>by
 conv=>whnf
 (repeat' (first|(refine⟨λh=>?_,λh=>?_⟩<;>(repeat (first|simp only[zJ]at h|simp only[zX]at h))<;>((refine oO ?_)))|(refine At rfl (.cons .tmp .nil) ?_ rfl)|(refine c0 (Ai3 a) F279 ?_;((refine oO ?_)))|(refine c0 (Ai3 b) F279 ?_;((refine oO ?_);repeat((refine aF ?_);(refine oO ?_))))))
 all_goals (refine zH Aa ?_;clear hF;grind [cmpI])
def orI:List Int→Int
 |[]=>0
 |x::l=>if x=0 then orI l else x
def Afb:∀{l:List Int} {j:Nat},(∀i (h:i<l.length),i<j→l[i]=0)→orI l=orI (l.drop j)
 |l,0,_=>rfl
 |[],j+1,_=>rfl
 |x::l,j+1,h=>by
  have h0:=h 0 y_ q_;simp only[tP]at h0;rw[orI,zG h0,List.drop_succ_cons];exact Afb λi hi br=>h (i+1) (by simp;omega) q_
def orS(l:List Int)(hl:An l):Sp 203 [.sl 1 Aa l] (Aa (orI l)):=cT F203 ntmps203 λF hF=>by
 unfold An at hl
 conv=>whnf
 refine A9 l.length (λj=>∀i (h:i<l.length),i<j→l[i]=0) (λj=>[(3,Aa 0),(6,.sl 1 Aa l),(7,Aa l.length),(8,Aa j)]) (λ_=>[]) [] (λi h hj=>zY hj q_) kU ?_;intro j hj hI;refine oO ?_
 (repeat' (first|(refine⟨λh=>?_,λh=>?_⟩<;>(repeat (first|simp only[zJ]at h|simp only[zX]at h|simp only[xG]at h|simp only[bne_eq_false_iff_eq]at h))<;>((refine oO ?_)))|(refine At rfl (.cons .tmp .nil) ?_ rfl)|(refine⟨z_,?_⟩;((conv=>whnf)))|(refine⟨by (omega),by (omega),?_⟩;((conv=>whnf)))|(refine⟨by (unfold I64;omega),?_⟩;((conv=>whnf)))|refine A8 [] hI q_ ?_ kU))
 all_goals try (refine zH Aa ?_)
 ·have an:j<l.length:=by omega
  rw[Afb hI,yP an,orI,zD (by simpa using h)];rfl
 ·intro i hi br;rcases vM i j with h1|h1
  ·exact hI i hi h1
  ·have:i=j:=by omega
   subst this;simpa using h
 ·rw[Afb hI,List.drop_of_length_le q_];rfl
def Sv(a b:Int)(l:List Int):decide (orI (cmpI a b::l)<0)=if a≠b then decide (a<b) else decide (orI l<0):=by
 rw[orI,cmpI];by_cases h1:a<b
 ·simp[h1,show a≠b by omega]
 ·by_cases h2:a>b
  ·simp[h1,h2,show a≠b by omega]
  ·simp[show a=b by omega]
structure Vec where
 (root cost bridge port own:Int)
def T5(v:Vec):SV:=.agg [Aa v.root,Aa v.cost,Aa v.bridge,Aa v.port,Aa v.own]
def Ai0(a b:Vec):Bool :=
 if a.root≠b.root then decide (a.root<b.root) else if a.cost≠b.cost then decide (a.cost<b.cost) else if a.bridge≠b.bridge then decide (a.bridge<b.bridge) else
  if a.port≠b.port then decide (a.port<b.port) else decide (a.own<b.own)
def lessS(a b:Vec):Sp 282 [T5 a,T5 b] (Ab (Ai0 a b)):=cT F282 ntmps282 λF hF=>by
 conv=>whnf
 (repeat' (first|(refine⟨λh=>?_,λh=>?_⟩<;>(repeat (first|simp only[yJ]at h|simp only[zR]at h|simp only[zE]at h|simp only[yQ]at h))<;>((refine oO ?_)))|(refine At rfl (.cons .tmp .nil) ?_ rfl)|(refine⟨z_,?_⟩;((conv=>whnf)))|(refine cD (J5 a.root b.root) F204 ?_;((refine rd z_ ?_);(conv=>whnf)))|(refine cD (J5 a.cost b.cost) F204 ?_;((refine rd z_ ?_);(conv=>whnf)))|(refine cD (J5 a.bridge b.bridge) F204 ?_;((refine rd z_ ?_);(conv=>whnf)))|(refine cD (J5 a.port b.port) F204 ?_;((refine rd z_ ?_);(conv=>whnf)))|(refine cD (J5 a.own b.own) F204 ?_;((refine rd z_ ?_);(conv=>whnf)))|(refine A30 [33] (orS [cmpI a.root b.root,cmpI a.cost b.cost,cmpI a.bridge b.bridge,cmpI a.port b.port,cmpI a.own b.own] (by simp[An])) F203 rfl (.cons (.lit rfl rfl rfl) .nil) rfl z_ rfl ?_;((refine rd z_ ?_);(conv=>whnf)))))
 all_goals (refine zH Ab ?_;clear hF)
 ·grind [Ai0]
 ·rw[Sv,Sv,Sv,Sv,Sv,Ai0];by_cases h1:a.own=b.own
  ·simp[h1,orI]
  ·simp[h1]
def U1(lt:Int→Int→Bool)(x:Int):List Int→List Int
 |[]=>[x]
 |y::r=>if lt x y then y::U1 lt x r else x::y::r
def Iq(lt:Int→Int→Bool)(l:List Int):List Int:=l.foldl (λr x=>U1 lt x r) []
def W9(lt:Int→Int→Bool)(l:List Int):List Int:=(Iq lt l).reverse
def Aa8(lt:Int→Int→Bool)(x:Int):∀r,(U1 lt x r).Perm (x::r)
 |[]=>.refl _
 |y::r=>by
  rw[U1];split
  ·exact((Aa8 lt x r).cons y).trans (.swap x y r)
  ·exact .refl _
def Tu(lt:Int→Int→Bool):∀(l r:List Int),(l.foldl (λr x=>U1 lt x r) r).Perm (l++r)
 |[],r=>.refl _
 |x::l,r=>by
  rw[vF];refine(Tu lt l _).trans ?_;refine((Aa8 lt x r).append_left l).trans ?_;simp
def Ot(lt:Int→Int→Bool)(l:List Int):(Iq lt l).Perm l:=by
 have:=Tu lt l [];simpa [Iq] using this
def X3(lt:Int→Int→Bool)(l:List Int):(W9 lt l).Perm l:=(List.reverse_perm _).trans (Ot lt l)
def Aoz(lt:Int→Int→Bool)(l:List Int)(i:Nat)(h:i<l.length):Iq lt (l.take (i+1))=U1 lt l[i] (Iq lt (l.take i)):=by
 rw[yD h,Iq,xO];rfl
mutual
theorem Ta{K:List Nat}:∀x:SV,x.inn []=true→x.inn K=true
 | .ptr _ _,h=>by simp[SV.inn,Qs]at h
 | .rpt _ _ _ _,h=>by simp[SV.inn,Qs]at h
 | .osl _,h=>by simp[SV.inn,Qs]at h
 | .agg l,h=>by simp only[SV.inn]at h⊢;exact U2 l h
 | .tup l,h=>by simp only[SV.inn]at h⊢;exact U2 l h
 | .ifc _ x,h=>by simp only[SV.inn]at h⊢;exact Ta x h
 | .clo _ f l,h=>by simp only[SV.inn,zE]at h⊢;exact⟨U2 f h.1,U2 l h.2⟩
 | .top,_=>rfl
 | .val _,_=>rfl
 | .sl _ _ _,_=>rfl
 | .ref _ _ _,_=>rfl
theorem U2{K:List Nat}:∀l:List SV,Cd [] l=true→Cd K l=true
 |[],_=>rfl
 |x::l,h=>by simp only[Cd,zE]at h⊢;exact⟨Ta x h.1,U2 l h.2⟩
end
def Afv(l:List Int)(c:Int→Int→Int)(Q:Int→Prop)(f:FuncId)(first cap:List SV)(hc:(SV.clo (.func f) first cap).inn []=true)(hf:∀a b,Q a→Q b→H3 prog f (first++[Aa a,Aa b]++cap) (Aa (c a b)))(hQ:∀a∈l,Q a)(hl:An l):Sq 338 [.osl 0,Aa 0,Aa l.length,.clo (.func f) first cap] [(0,.row 1 Aa l)] (.tup []) [(0,.row 1 Aa (W9 (λa b=>decide (c a b<0)) l))]:=cT F338 ntmps338 λF hF=>by
 unfold An at hl;have az:∀x y:Int,Cd [] (first++[Aa x,Aa y]++cap)=true:=λx y=>Dh hc rfl
 have fc:(SV.clo (.func f) first cap).inn [0]=true:=Ta _ hc;generalize ab:(λa b=>decide (c a b<0))=lt
 conv=>whnf
 (repeat' (refine⟨by (unfold I64;omega),?_⟩;((conv=>whnf))))
 refine A9 l.length (λ_=>True) (λj=>[(0,.osl 0),(1,Aa 0),(2,Aa l.length),(3,.clo (.func f) first cap),(8,Aa ((j:Int)+1))]) (λj=>[(0,.row 1 Aa ((Iq lt (l.take (j+1))).reverse++l.drop (j+1)))]) [] Y ⟨⟨E,E,E,E,E,E,Bj _,fc,E,E,Y⟩,⟨.inl (zH (Ob.row 1 Aa) ?_),E,Y⟩,E,E⟩ ?_
 ·cases l with
  |nil=>rfl
  |cons a l=>simp[Iq,U1]
 intro j hj _;refine oO ?_;constructor<;>intro h
 ·have cg:j+1<l.length:=qA h;have fp:l.drop (j+1)=l[j+1]::l.drop (j+1+1):=yP cg;have lr:=Aoz lt l (j+1) cg;have hr:(Iq lt (l.take (j+1))).length=j+1:=by rw[(Ot lt _).length_eq];simp;omega
  have hQx:Q l[j+1]:=hQ _ (zI cg);have hQr:∀z∈Iq lt (l.take (j+1)),Q z:=λz hz=>hQ z (wQ ((Ot lt _).mem_iff.1 hz))
  rw[fp];generalize l[j+1]=x at lr hQx;generalize Iq lt (l.take (j+1))=r at lr hr hQr;generalize hR:l.drop (j+1+1)=R at *;refine oO ?_;refine Vr (α:={p:List Int×List Int // U1 lt x r=p.2.reverse++U1 lt x p.1∧p.1.length+p.2.length=j+1∧∀z∈p.1,Q z}) (λp=>[(0,.osl 0),(1,Aa 0),(2,Aa l.length),(3,.clo (.func f) first cap),(8,Aa ((j:Int)+1)),(9,Aa p.1.1.length)]) (λp=>[(0,.row 1 Aa (p.1.1.reverse++x::(p.1.2++R)))]) (λp=>p.1.1.length) ⟨(r,[]),by simp,by simpa using hr,hQr⟩ []
   ⟨⟨rfl,rfl,rfl,rfl,rfl,rfl,Bj _,fc,rfl,rfl,zH Aa (by rw[hr];omega),rfl,trivial⟩,⟨.inl rfl,rfl,trivial⟩,rfl,rfl⟩ ?_
  rintro ⟨⟨A,B⟩,ig,ec,sw⟩;simp only at ig ec sw;dsimp only;cases A with
  |nil=>
   simp only[U1]at ig
   (refine rg ?_;(conv=>whnf);refine aF ?_;refine oD ?_)
   refine⟨z_,?_⟩
   ((conv=>whnf);refine aF ?_;refine rg ?_;conv=>whnf)
   refine iW ?_;refine A8 [] Y q_ Y ⟨⟨E,E,E,E,E,E,Bj _,fc,zH Aa q_,E,Y⟩,⟨.inl (zH (Ob.row 1 Aa) ?_),E,Y⟩,E,E⟩;show (Iq lt (l.take (j+1+1))).reverse++l.drop (j+1+1)=[].reverse++x::(B++R);rw[lr,ig,hR];simp
  |cons y A=>
   have hQy:=sw y y_;refine oO ?_;refine⟨λ_=>?_,λh=>zY (zQ h) y_⟩;refine oD ?_;have e1:((y::A).reverse++x::(B++R))[(((y::A).length:Nat):Int).toNat]'y_=x:=by simp
   have e2:((y::A).reverse++x::(B++R))[((((y::A).length:Nat):Int)-1).toNat]'y_=y:=by simp
   refine⟨by omega,by simp,?_⟩
   conv=>whnf
   refine⟨E,by simp,?_⟩;rw[e1]
   conv=>whnf
   refine⟨by unfold I64;simp at ec;simp;omega,?_⟩
   conv=>whnf
   refine⟨by simp,by simp,?_⟩
   conv=>whnf
   refine⟨E,by simp,?_⟩;rw[e2]
   conv=>whnf
   refine Aud (hf x y hQx hQy) E E E (by simp only[az];rfl) z_ E ?_;refine gH ?_;constructor<;>intro h2
   ·refine oO ?_;refine⟨by unfold I64;simp at ec;simp;omega,?_⟩
    conv=>whnf
    refine⟨by unfold I64;simp at ec;simp;omega,?_⟩
    conv=>whnf
    refine⟨by simp,by simp,?_⟩
    conv=>whnf
    refine⟨E,by simp,?_⟩;rw[e2]
    conv=>whnf
    refine⟨by omega,by simp,?_⟩
    conv=>whnf
    refine⟨E,by simp,?_⟩;rw[e1]
    conv=>whnf
    refine⟨by omega,by simp,?_⟩
    conv=>whnf
    refine⟨E,by simp,y,E,E,?_⟩
    conv=>whnf
    refine⟨by simp,by simp,?_⟩
    conv=>whnf
    refine⟨E,by simp,x,E,E,?_⟩
    conv=>whnf
    refine kW ?_;refine⟨by unfold I64;simp at ec;simp;omega,?_⟩
    conv=>whnf
    have oq:lt x y=true:=by rw[←ab];exact h2
    refine Xk (α:={p:List Int×List Int // U1 lt x r=p.2.reverse++U1 lt x p.1∧p.1.length+p.2.length=j+1∧∀z∈p.1,Q z}) (L:=λp=>[(0,.osl 0),(1,Aa 0),(2,Aa l.length),(3,.clo (.func f) first cap),(8,Aa ((j:Int)+1)),(9,Aa p.1.1.length)]) (O:=λp=>[(0,.row 1 Aa (p.1.1.reverse++x::(p.1.2++R)))]) (μ:=λp=>p.1.1.length) (x:=⟨(y::A,B),ig,ec,sw⟩)
     ⟨(A,y::B),by simp only[ig,U1,oq,if_true];simp,by simp at ec⊢;omega,λz hz=>sw z (by simp[hz])⟩ [] y_
     ⟨⟨rfl,rfl,rfl,rfl,rfl,rfl,Bj _,fc,rfl,rfl,zH Aa y_,rfl,trivial⟩,⟨.inl (zH (Ob.row 1 Aa) ?_),rfl,trivial⟩,rfl,rfl⟩
    simp
   ·refine oO ?_;have oq:lt x y=false:=by rw[←ab];exact h2
    refine iW ?_;refine A8 [] Y q_ Y ⟨⟨E,E,E,E,E,E,Bj _,fc,zH Aa q_,E,Y⟩,⟨.inl (zH (Ob.row 1 Aa) ?_),E,Y⟩,E,E⟩;show (Iq lt (l.take (j+1+1))).reverse++l.drop (j+1+1)=(y::A).reverse++x::(B++R);rw[lr,ig,hR,U1,oq];simp
 ·have h:=zQ h;have e:(Iq lt (l.take (j+1))).reverse++l.drop (j+1)=W9 lt l:=by
   rw[xK q_,List.drop_of_length_le q_,xC];rfl
  rw[e];refine oO ?_;exact A6 E .nil [] [(0,.row 1 Aa (W9 lt l))] (λ_ h=>h) E E kU
def A42(l:List Int)(c:Int→Int→Int)(Q:Int→Prop)(f:FuncId)(first cap:List SV)(hc:(SV.clo (.func f) first cap).inn []=true)(hf:∀a b,Q a→Q b→H3 prog f (first++[Aa a,Aa b]++cap) (Aa (c a b)))(hQ:∀a∈l,Q a)(hl:l.length<20):Sq 277 [.osl 0,Aa l.length,.clo (.func f) first cap] [(0,.row 1 Aa l)] (.tup []) [(0,.row 1 Aa (W9 (λa b=>decide (c a b<0)) l))]:=cT F277 ntmps277 λF hF=>by
 have fc:(SV.clo (.func f) first cap).inn [0]=true:=Ta _ hc;have wo:=Afv l c Q f first cap hc hf hQ (by unfold An;omega)
 generalize W9 (λa b=>decide (c a b<0)) l=l' at wo
 conv=>whnf
 refine A5 0 (λ j=>[(0,.osl 0),(1,Aa l.length),(2,.clo (.func f) first cap),(6,Aa 20),(7,Aa 0),(8,Aa 20)]) (λ _=>[(0,.row 1 Aa l)]) [] ⟨⟨E,E,E,E,Bj _,fc,E,E,E,E,E,E,Y⟩,⟨.inl E,E,Y⟩,E,E⟩ ?_;intro j hj;refine oO ?_;refine⟨λ h=>zY (zK h) q_,λ _=>?_⟩;refine oO ?_;refine Af (Ad [] E F338 wo (Jm _) ⟨E,Y⟩ (by
  have h0:Cd [0] [.osl 0,Aa 0,Aa l.length,.clo (.func f) first cap]=true:=by simp only[Cd,fc];rfl
  simp only[L6,Obs.keys,xV,vG,h0];rfl) ⟨.inl rfl,trivial⟩) rfl rfl ?_
 refine oO ?_;refine A5 0 (λj=>[(1,Aa l.length),(6,Aa 20)]) (λ_=>[(0,.row 1 Aa l')]) [] kU ?_;clear hj;intro j hj;refine oO ?_;refine⟨λh=>zY (zK h) q_,λ_=>?_⟩;refine oO ?_;exact A6 E .nil [] [(0,.row 1 Aa l')] (λ_ h=>h) E E kU
def Amy(l:List Int)(c:Int→Int→Int)(Q:Int→Prop)(f:FuncId)(first cap:List SV)(hc:(SV.clo (.func f) first cap).inn []=true)(hf:∀a b,Q a→Q b→H3 prog f (first++[Aa a,Aa b]++cap) (Aa (c a b)))(hQ:∀a∈l,Q a)(hl:l.length<20):Sq 201 [.osl 0,.clo (.func f) first cap] [(0,.row 1 Aa l)] (.tup []) [(0,.row 1 Aa (W9 (λa b=>decide (c a b<0)) l))]:=cT F201 ntmps201 λF hF=>by
 have fc:(SV.clo (.func f) first cap).inn [0]=true:=Ta _ hc;have cn:=A42 l c Q f first cap hc hf hQ hl
 generalize W9 (λa b=>decide (c a b<0)) l=l' at cn
 conv=>whnf
 refine Af (Ad [] E F277 cn (Jm _) ⟨E,Y⟩ (by
  have h0:Cd [0] [.osl 0,Aa l.length,.clo (.func f) first cap]=true:=by simp only[Cd,fc];rfl
  simp only[L6,Obs.keys,xV,vG,h0];rfl) ⟨.inl rfl,trivial⟩) rfl rfl ?_
 refine oO ?_;exact A6 E .nil [] [(0,.row 1 Aa l')] (λ_ h=>h) E E kU
def Aho(n:Net)(a b:Int):Int:=orI [cmpI (nth n.devices a).prio (nth n.devices b).prio,cmpI (nth n.devices a).mac (nth n.devices b).mac]
def ranks1(n:Net)(a b:Int)(ha:0≤a∧a<n.devices.length)(hb:0≤b∧b<n.devices.length):Sp 202 [Aa a,Aa b,.ref 8 (Am n) 0] (Aa (Aho n a b)):=cT F202 ntmps202 λF hF=>by
 have e1:Aho n a b=orI [cmpI (n.devices[a.toNat]'q_).prio (n.devices[b.toNat]'q_).prio,cmpI (n.devices[a.toNat]'q_).mac (n.devices[b.toNat]'q_).mac]:=by
  rw[Aho,Ai q_,Ai q_]
 rw[e1]
 conv=>whnf
 (repeat' (first|(refine At rfl (.cons .tmp .nil) ?_ rfl)|(refine⟨z_,?_⟩;((conv=>whnf)))|(refine⟨by (omega),by (omega),?_⟩;((conv=>whnf)))|(refine cD (J5 (n.devices[a.toNat]'q_).prio (n.devices[b.toNat]'q_).prio) F204 ?_;((refine rd z_ ?_);(conv=>whnf)))|(refine cD (Ap8 (n.devices[a.toNat]'q_).mac (n.devices[b.toNat]'q_).mac) F205 ?_;((refine rd z_ ?_);(conv=>whnf)))|(refine A30 [28] (orS [cmpI (n.devices[a.toNat]'q_).prio (n.devices[b.toNat]'q_).prio,cmpI (n.devices[a.toNat]'q_).mac (n.devices[b.toNat]'q_).mac] (by simp[An])) F203 rfl (.cons (.lit rfl rfl rfl) .nil) rfl z_ rfl ?_;((refine rd z_ ?_);(conv=>whnf)))))
 all_goals rfl
def Ze(m:Nat):List Int:=(List.range m).map λ(i:Nat)=>(i:Int)
def Aiq(m:Nat):Ze (m+1)=Ze m++[(m:Int)]:=by simp[Ze,wV]
def Lp(m:Nat):(Ze m).length=m:=by simp[Ze]
def Kb(ord:List Int):Nat→List Int
 |0=>List.replicate ord.length 0
 |j+1=>(Kb ord j).set (nth ord j).toNat j
def Jo(ord:List Int):∀j,(Kb ord j).length=ord.length
 |0=>by simp[Kb]
 |j+1=>by simp[Kb,Jo ord j]
def Hm(n:Net):List Int:=W9 (λa b=>decide (Aho n a b<0)) (Ze n.devices.length)
def Ha(n:Net):List Int:=Kb (Hm n) n.devices.length
def ranksS(n:Net)(hn:n.Fin):Sp 140 [Am n] (.sl 1 Aa (if Ac n then Ha n else [])):=cT F140 ntmps140 λF hF=>by
 have hl:=hn.devices;unfold An at hl
 conv=>whnf
 refine c0 (A1 n hn) F22 ?_;refine oO ?_;constructor<;>intro h
 ·have h:Ac n=false:=by simpa using h
  refine oO ?_;refine Au 2 1 Aa E ?_;exact At E (.cons .tmp .nil) (by rw[h];rfl) E
 have h:Ac n=true:=by simpa using h
 have h8:n.devices.length≤8:=by
  simp only[Ac,Aga,zE,zJ]at h;exact h.1.1.1.1.1.1.1.1.1.1.1.1.1.1.1
 rw[h,zG rfl,Ha];refine oO ?_;refine Bf 1 8 (Am n) E E E ?_;refine B7 3 1000 1 Aa E E ?_;refine A5 n.devices.length (λj=>[(1,.ref 8 (Am n) 0),(3,.osl 1000),(13,Aa n.devices.length),(14,Aa j)]) (λj=>[(1000,.row 1 Aa (Ze j))]) [] kU ?_;intro j hj;refine oO ?_;constructor<;>intro h2
 ·have ab:j<n.devices.length:=by simpa using h2
  refine oO ?_;refine Af (Ag Γ.toTy 20 E E E E E (.row E) (.lit (l:=[(j:Int)]) E E) y_ (by simp[Lp];omega) (by simp[Lp];omega)) E E ?_;refine gF ?_;exact Ay [(1000,20)] ab ⟨⟨E,E,E,E,E,E,E,E,Y⟩,⟨.inl (zH (Ob.row 1 Aa) (Aiq j)),E,Y⟩,E,E⟩
 have cg:j=n.devices.length:=by have:¬j<n.devices.length:=(by simpa using h2);omega
 subst cg;refine oO ?_;have ot:=Amy (Ze n.devices.length) (Aho n) (λ a=>0≤a∧a<n.devices.length) 202 [] [.ref 8 (Am n) 0] rfl (λ a b ha hb=>⟨⟨_,_,F202⟩,ranks1 n a b ha hb⟩) (λ a ha=>by
  obtain ⟨i,hi,rfl⟩:=yS.1 ha;have:=xA.1 hi;omega) (by rw[Lp];omega)
 have wq:(Hm n).length=n.devices.length:=by rw[Hm,(X3 _ _).length_eq,Lp]
 have jh:∀a∈Hm n,0≤a∧a<n.devices.length:=λa ha=>by
  have:=(X3 _ _).mem_iff.1 ha;obtain ⟨i,hi,rfl⟩:=yS.1 this;have:=xA.1 hi;omega
 change Sy.Spec _ _ _ _ _ [(0,.row 1 Aa (Hm n))]at ot;generalize Hm n=sl at ot wq jh;refine Af (Ad [(0,1000)] E F201 ot E ⟨E,Y⟩ E ⟨.inl E,Y⟩) E E ?_;refine oO ?_;refine Af (Ce Γ.toTy (d:=27) (n:=sl.length) Aa 0 E E E E E E E E q_ q_ E E E) E E ?_;refine oO ?_;refine A5 sl.length (λj=>[(5,.osl 27),(28,.osl 1000),(29,Aa sl.length),(30,Aa j)]) (λj=>[(1000,.row 1 Aa sl),(27,.row 1 Aa (Kb sl j))]) [] kU ?_;clear hj h2;intro j hj;refine oO ?_;constructor<;>intro h2
 ·have ab:j<sl.length:=by simpa using h2
  have pw:=jh _ (zI ab);have ep:nth sl j=sl[j]:=Ai (by simpa using ab);have il:=Jo sl j;refine oO ?_;refine⟨by omega,by omega,?_⟩
  conv=>whnf
  refine⟨E,by omega,?_⟩
  conv=>whnf
  refine⟨pw.1,by rw[il];exact(by omega:sl[j].toNat<sl.length),?_⟩
  conv=>whnf
  refine⟨E,by rw[il];exact(by omega:sl[j].toNat<sl.length),(j:Int),E,E,?_⟩
  conv=>whnf
  refine iW ?_;exact Ay [] ab ⟨⟨E,E,E,E,E,E,E,E,Y⟩,⟨.inl E,E,.inl (zH (Ob.row 1 Aa) (by rw[Kb,ep];rfl)),E,Y⟩,E,E⟩
 have cg:j=n.devices.length:=by
  have:¬j<sl.length:=by simpa using h2
  omega
 subst cg;refine oO ?_;refine Aj 27 E ?_;exact dN
def Do(n:Net)(a b:Int):Bool :=
 if (nth n.devices a).prio≠(nth n.devices b).prio then decide ((nth n.devices a).prio<(nth n.devices b).prio) else
  if (nth n.devices a).mac≠(nth n.devices b).mac then decide ((nth n.devices a).mac<(nth n.devices b).mac) else decide (a<b)
def Qp(n:Net):List Int:=(List.range n.devices.length).map λ(i:Nat)=>(((List.range n.devices.length).countP λk=>Do n (k:Nat) i:Nat):Int)
end Go.Sy.YticmobkdaneelaaGreatDoor
namespace Go.Sy.YticmobkdaneelaaGreatDoor
def key_lt(n:Net)(a b:Int):decide (Aho n a b<0)=if (nth n.devices a).prio≠(nth n.devices b).prio then decide ((nth n.devices a).prio<(nth n.devices b).prio) else
  if (nth n.devices a).mac≠(nth n.devices b).mac then decide ((nth n.devices a).mac<(nth n.devices b).mac) else false:=by
 rw[Aho,Sv,Sv];rfl
def Tk(n:Net)(a:Int):Do n a a=false:=by simp[Do]
def Ac7(n:Net){a b c:Int}(h1:Do n a b=true)(h2:Do n b c=true):Do n a c=true:=by
 unfold Do at *;generalize nth n.devices a=x at *;generalize nth n.devices b=y at *;generalize nth n.devices c=z at *
 grind
def Aqn(n:Net){a b:Int}(h1:Do n a b=true):Do n b a=false:=by
 cases h:Do n b a with
 |false=>rfl
 |true=>have:=Ac7 n h1 h;rw[Tk]at this;cases this
def Ai2(n:Net){x y:Int}(h:y<x):decide (Aho n x y<0)=Do n x y:=by
 rw[key_lt];unfold Do;generalize nth n.devices x=p at *;generalize nth n.devices y=q at *
 grind
def A5t(n:Net){x y:Int}(h:y<x)(hk:Do n x y=false):Do n y x=true:=by
 unfold Do at *;generalize nth n.devices x=p at *;generalize nth n.devices y=q at *
 grind
def Ai5(n:Net)(x:Int):∀(r:List Int),(∀y∈r,y<x)→r.Pairwise (λa b=>Do n b a=true)→(U1 (λa b=>decide (Aho n a b<0)) x r).Pairwise (λa b=>Do n b a=true)
 |[],_,_=>by simp[U1]
 |y::r,hx,hp=>by
  have hy:=hx y y_;rw[vO]at hp;rw[U1];split
  ·rename_i ab;rw[Ai2 n hy]at ab;rw[vO];refine⟨λz hz=>?_,Ai5 n x r (λz hz=>hx z (by simp[hz])) hp.2⟩;rcases yH.1 ((Aa8 _ x r).mem_iff.1 hz) with rfl|hz
   ·exact ab
   ·exact hp.1 z hz
  ·rename_i ab;rw[Ai2 n hy]at ab;have hyx:=A5t n hy (by simpa using ab);rw[vO,vO];refine⟨λz hz=>?_,hp⟩;rcases yH.1 hz with rfl|hz
   ·exact hyx
   ·exact Ac7 n (hp.1 z hz) hyx
def Ack(n:Net):∀m,(Iq (λa b=>decide (Aho n a b<0)) (Ze m)).Pairwise (λa b=>Do n b a=true)
 |0=>by simp[Iq,Ze]
 |m+1=>by
  rw[Aiq,Iq,xO];refine Ai5 n m _ (λy hy=>?_) (Ack n m);have:=(Ot _ _).mem_iff.1 hy;obtain ⟨i,hi,rfl⟩:=yS.1 this;have:=xA.1 hi;omega
def Aav(n:Net):(Hm n).Pairwise (λa b=>Do n a b=true):=by
 rw[Hm,W9,List.pairwise_reverse];exact Ack n _
def Akk(n:Net):(Hm n).Perm (Ze n.devices.length):=X3 _ _
def Ap7(n:Net){l:List Int}(hp:l.Pairwise (λa b=>Do n a b=true))(r:Nat)(hr:r<l.length):l.countP (λk=>Do n k l[r])=r:=by
 have gk:l=l.take r++l[r]::l.drop (r+1):=by
  rw[←yP hr,List.take_append_drop]
 have h1:(l.take r).countP (λk=>Do n k l[r])=r:=by
  rw[List.countP_eq_length.2 (λk hk=>?_),yA]
  ·omega
  ·obtain ⟨i,hi,rfl⟩:=yY.1 hk;simp only[yA]at hi;rw[wA];exact vH.1 hp i r q_ hr q_
 have h2:(l.drop (r+1)).countP (λk=>Do n k l[r])=0:=by
  rw[List.countP_eq_zero];intro k hk;obtain ⟨i,hi,rfl⟩:=yY.1 hk;simp only[yO]at hi;rw[vT];have:=vH.1 hp r (r+1+i) hr q_ q_;simp[Aqn n this]
 calc l.countP (λk=>Do n k l[r])=(l.take r++l[r]::l.drop (r+1)).countP (λk=>Do n k l[r]):=zH _ gk
  _=r:=by rw[List.countP_append,List.countP_cons,h1,h2,Tk];simp
def Y5(L:List Int)(hn:L.Nodup)(hm:∀a∈L,0≤a∧a<L.length):∀(j:Nat),j≤L.length→∀(r:Nat) (hr:r<L.length),r<j→(Kb L j)[L[r].toNat]? = some (r:Int)
 |0,_,r,_,h=>by omega
 |j+1,hj,r,hr,h=>by
  have hmr:=hm _ (zI hr);have hlen:=Jo L j;have ep:nth L (j:Int)=L[j]:=Ai (by simp;omega);rw[Kb,ep,tV];split
  ·rename_i he;have pw:=hm _ (zI (show j<L.length by omega));have hjr:L[j]=L[r]:=by omega
   have:j=r:=by
    have:=(List.getElem_inj (i:=j) (j:=r) (h₀:=by omega) (h₁:=hr) hn).1 hjr;exact this
   subst this;rw[zG q_]
  ·rename_i he;have ag:r≠j:=λe=>he (by subst e;rfl)
   exact Y5 L hn hm j q_ r hr q_
def Aso(m:Nat):(Ze m).Nodup:=by
 rw[Ze];exact List.Pairwise.map _ (λ(a b:Nat) (h:a≠b)=>by intro e;exact h q_) List.nodup_range
def Ank(n:Net):Ha n=Qp n:=by
 have hp:=Akk n;have hlen:(Hm n).length=n.devices.length:=by rw[hp.length_eq,Lp]
 have u9:(Hm n).Nodup:=hp.nodup_iff.2 (Aso _);have hm:∀a∈Hm n,0≤a∧a<(Hm n).length:=λa ha=>by
  obtain ⟨i,hi,rfl⟩:=yS.1 (hp.mem_iff.1 ha);have:=xA.1 hi;omega
 refine List.ext_getElem? λi=>?_
 rcases vM i n.devices.length with hi|hi
 ·have az:(i:Int)∈Hm n:=hp.mem_iff.2 (yS.2 ⟨i,xA.2 hi,rfl⟩);obtain ⟨r,hr,he⟩:=yY.1 az;have h1:=Y5 (Hm n) u9 hm n.devices.length q_ r hr q_;rw[he]at h1;have h2:=Ap7 n (Aav n) r hr;rw[he,hp.countP_eq]at h2;rw[Ha,Qp,uK,vW hi];simp only[zU]at h1;rw[h1];simp only[uM];congr 2;rw[←h2,Ze,List.countP_map];rfl
 ·rw[wP,wP]
  ·simp[Qp];omega
  ·rw[Ha,Jo];omega
def G_vw{C:Cx}{k:List KI}{s:SS}(d:Nat)(x:SV)(h:Vw s [] (s.σ d) x)(hg:G C k ⟨upd s.σ d x,s.h⟩):G C k s:=λκ a w hs=>
 hg κ a w ⟨hs.defers,hs.size,hs.inv,hs.ctx,λ i=>by
  show Rd κ w (upd s.σ d x i) _;by_cases hi:i=d
  ·subst hi;rw[B1];exact Vw.rd hs.inv (λ_ hn=>by cases hn) h (hs.slot i)
  ·rw[Cp _ _ hi];exact hs.slot i,hs.obj⟩
open Go.Proofs Go.Proofs.Tryz
attribute [local irreducible] Go.Sy.G Go.Sy.DR
set_option maxRecDepth 20000
set_option maxHeartbeats 4000000
def I2(p:Port):Bool:=decide (p.cost<1)||decide (p.cost>65535)
def costs1(p:Port):Sp 200 [A4 p] (Ab (I2 p)):=cT F200 ntmps200 λF hF=>by
 conv=>whnf
 (repeat' (first|(refine⟨λh=>?_,λh=>?_⟩<;>(repeat (first|simp only[zJ]at h|simp only[zX]at h))<;>((refine oO ?_)))|(refine At rfl (.cons .tmp .nil) ?_ rfl)))
 all_goals (refine zH Ab ?_;clear hF;grind [I2])
def Yi(l:List Port)(p:Port→Bool)(f:FuncId)(first cap:List SV)(hc:(SV.clo (.func f) first cap).inn []=true)(hf:∀x∈l,H3 prog f (first++[A4 x]++cap) (Ab (p x)))(hl:An l):Sp 199 [.sl 7 A4 l,.clo (.func f) first cap] (Ab (l.any p)):=cT F199 ntmps199 λF hF=>by
 have h0:Cd [] [.sl 7 A4 l,.clo (.func f) first cap]=true:=by simp only[Cd,hc];rfl
 conv=>whnf
 refine Oz (Tq l p f first cap hc hf hl) F276 E E (by simp only[h0];rfl) E E ?_;refine oO ?_;exact At E (.cons .tmp .nil) (zH Ab (Kl _ _).symm) E
def Dk(n:Net):Bool:=!(n.ports.any I2)
def A3y(n:Net)(hl:An n.ports):Sp 139 [Am n] (Ab (Dk n)):=cT F139 ntmps139 λF hF=>by
 conv=>whnf
 refine c0 (Yi n.ports I2 200 [] [] E (λx _=>⟨⟨_,_,F200⟩,costs1 x⟩) hl) F199 ?_;exact gE
def Js(n:Net):Bool :=
 decide (200<n.devices.length)||decide (200<n.ports.length)||decide (200<n.links.length)||decide (200<n.domains.length)||decide (200<n.statics.length)||decide (200<n.floods.length)||decide (200<n.vrfs.length)||decide (200<n.irbs.length) ||
  n.ports.any (λp=>decide (100<p.tagged.length))||n.domains.any (λd=>decide (100<d.peers.length))||n.floods.any (λf=>decide (100<f.addrs.length))||n.vrfs.any (λv=>decide (100<v.imports.length)||decide (100<v.exports.length))
def Alm{n:Net}(h:Js n=false):n.Fin:=by
 simp only[Js,xY,zX,wM,zJ,yM,uC]at h;obtain ⟨⟨⟨⟨⟨⟨⟨⟨⟨⟨⟨h1,h2⟩,h3⟩,h4⟩,h5⟩,h6⟩,h7⟩,h8⟩,h9⟩,mi⟩,tw⟩,vd⟩:=h;exact⟨by unfold An;omega,by unfold An;omega,by unfold An;omega,by unfold An;omega,by unfold An;omega,by unfold An;omega,by unfold An;omega,by unfold An;omega,
  λ p hp=>by have:=h9 p hp;unfold An;omega,λ p hp=>by have:=mi p hp;unfold An;omega,λ p hp=>by have:=tw p hp;unfold An;omega,λ p hp=>by have:=vd p hp;unfold An;omega,λ p hp=>by have:=vd p hp;unfold An;omega⟩
set_option maxRecDepth 100000
def Bo{α:Type}{l:List α}{i:Nat}{d:α}(h:i<l.length):l.getD i d=l[i]:=by simp[List.getD,h]
def Sm{n:Net}(h:Ac n=true){i:Nat}(hi:i<n.ports.length):Jd n i n.ports[i]=true:=by
 simp only[Ac,zE]at h;exact allB_iff.1 h.1.1.1.1.1.2 i hi
def Aev{n:Net}(h:Ac n=true){i:Nat}(hi:i<n.links.length):Tp n i n.links[i]=true:=by
 simp only[Ac,zE]at h;exact allB_iff.1 h.1.1.1.1.2 i hi
def H7{n:Net}(h:Ac n=true):n.devices.length≤8∧n.ports.length≤40∧n.links.length≤20:=by
 simp only[Ac,Aga,zE,zJ]at h;omega
def V0{n:Net}(h:Ac n=true){i:Nat}(hi:i<n.ports.length):n.ports[i].link=-1∨(0≤n.ports[i].link∧n.ports[i].link<n.links.length):=by
 have:=Sm h hi;simp only[Jd,Ah,zE,yM,yJ,zJ]at this;rcases this.2 with h1|h1
 ·exact .inl h1
 ·exact .inr h1.1
def Ur{n:Net}(h:Ac n=true){i:Nat}(hi:i<n.ports.length):0≤n.ports[i].dev∧n.ports[i].dev<n.devices.length:=by
 have:=Sm h hi;simp only[Jd,Ah,zE,zJ]at this;exact this.1.1.1.1.1.1.1.1
def Qw{n:Net}(h:Ac n=true){i:Nat}(hi:i<n.links.length):(0≤n.links[i].a∧n.links[i].a<n.ports.length)∧0≤n.links[i].b∧n.links[i].b<n.ports.length:=by
 have:=Aev h hi;simp only[Tp,Ah,zE,zJ]at this;exact⟨this.1.1.1.1,this.1.1.1.2⟩
def Ij(n:Net)(i:Nat):Int:=(nth n.ports i).dev
def Za(n:Net)(i:Nat):Int:=(nth n.ports i).cost
def Anv{n:Net}(aj:Dk n=true){i:Nat}(hi:i<n.ports.length):1≤Za n i∧Za n i≤65535:=by
 rw[Za,Ai (l:=n.ports) (i:=(i:Int)) (by simpa using hi)];simp only[Dk,yU,wM]at aj;have:=aj _ (zI hi);simp only[I2,yM,zJ,uC]at this;simp only[zU];omega
def A3s(d:Domain):SV:=.agg [Aa d.dev,Aa d.vlan,Aa d.vni,Aa d.irb,Aa d.row,.val (.slice none 0 0)]
def Ay7{M:Nat→Prop}{w:World}(p:Domain)(hp:p.peers=[]){v:Value}(h:RdD M w (A3s p) v):RdD M w (As p) v:=by
 simp only[A3s,As,RdD,RdDL,hp]at h⊢;obtain ⟨cs,h1,h2,v0,r0,h3,h4,v1,r1,h5,h6,v2,r2,h7,h8,v3,r3,h9,mi,v4,r4,tw,vd,v5,r5,zm,yx,zn⟩:=h;exact⟨cs,h1,h2,v0,r0,h3,h4,v1,r1,h5,h6,v2,r2,h7,h8,v3,r3,h9,mi,v4,r4,tw,vd,v5,r5,zm,.inl ⟨Y,none,0,yx⟩,zn⟩
end Go.Sy.YticmobkdaneelaaGreatDoor
