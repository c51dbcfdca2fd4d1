/- Parts of a proof. -/
import Derived.Test.YtodbnbfjhjcanaaGreatDoorXA41
set_option maxHeartbeats 4000000
set_option linter.all false
namespace Go.Sy.Zaa
open Go.Proofs Go.Proofs.Tryz
attribute [local irreducible]G DR
set_option maxRecDepth 100000
def Aau(l:List Hop)(p:Hop->Bool)(f:FuncId)(first cap:List SV)(hc:(SV.clo (.func f) first cap).inn []=true)(hf:∀x∈l,E4 prog f (first++[Dc x]++cap) (Ab (p x)))(hl:An l):Sp 201 [.sl 4 Dc l,.clo (.func f) first cap] (Aa (Bs p l)):=cT F201 ntmps201 λF hF=>by
 unfold An at hl;have az:∀x:Hop,B7 [] (first++[Dc x]++cap)=true:=λx=>C6 hc rfl
 refine fW ?_;refine A7 l.length (λj=>Ek (λ_ x=>!(p x)) l j) (λj=>[(0,.sl 4 Dc l),(1,.clo (.func f) first cap),(7,Aa l.length),(8,Aa j)]) (λ_=>[]) [] (Bh _ _) ⟨⟨E,E,Be _,hc,E,E,E,E,q_⟩,q_,E,E⟩ ?_;intro j hj hI;refine gK ?_ ?_<;>intro h
 .have h:=zO h;have cn:j<l.length:=by omega
  refine fU ?_;refine⟨E,by omega,by omega,?_⟩;refine fW ?_;refine D4 (hf l[j] (zI cn)) E E E (by simp only[az];rfl) E E ?_;refine fU ?_;constructor<;>intro h2
  .refine fU ?_;refine Aq E Ap (zH Aa ?_) E;exact Ct cn (λi hi cy=>kS (hI i hi cy)) h2
  .refine gG ?_;exact A6 [] hI cn (Bc hI cn (by simp[h2])) ⟨⟨E,E,Be _,hc,E,E,E,E,q_⟩,q_,E,E⟩
 .have h:=zQ h;refine fU ?_;refine Aq E Ap (zH Aa ?_) E;exact Df λi hi=>kS (hI i hi z_)
def Ane(h:Hop):Sp 202 [Dc h] (Ab (decide (h.kind=3))):=cT F202 ntmps202 λF hF=>by
 exact gA
def A18{a:Type}{p:a->Bool}{l:List a}{i:Int}(h:Bs p l=i)(h0:0<=i):∃hi:i.toNat<l.length,p l[i.toNat]=true:=by
 rcases T4 p l with ⟨h1,_⟩|⟨k,hk,h1,h2,_⟩
 .omega
 .have e:i.toNat=k:=by omega
  subst e;exact⟨hk,h2⟩
def A0n(a:Nat)(h:a<4294967296):PacketOK (fP a):=⟨by show 0<=255;decide,by show 0<=65535;decide,by show 64<=255;decide,by show 17<=255;decide,by show 1<4294967296;decide,h⟩
def Avh(a:Nat):(ipPutT (fP a)).1.length=20:=by
 rw[ipPutT,zD (by show ¬1480<0;decide)];show (Hi (fP a) _++[]).length=20;rw[xG];rfl
def Ajn{n:Net}(hu:C7 n)(d:Int):0<=(nth n.irbs d).addr/\(nth n.irbs d).addr<4294967296:=by
 rw[nth];cases h:n.irbs[d.toNat]? with
 |none=>exact⟨by decide,by decide⟩
 |some x=>exact hu x (List.mem_of_getElem? h)
def Aes{n:Net}(hu:C7 n)(l:List Hop):FrameOK (frameW n l):=by
 unfold frameW;split
 .have:=Ajn hu (nth n.domains (nth l (Yo l-1)).domain).irb;refine⟨?_,by show 2203318222849<281474976710656;decide,by show 2048<=65535;decide,?_⟩
  .show 2199023255552+(irbOf n l).addr.toNat<281474976710656;unfold irbOf;omega
  .show (ipPutT _).1.length<=1504;rw[Avh];decide
 .exact⟨by decide,by decide,by decide,by decide⟩
def Arw(n:Net)(hn:n.Fin)(hu:C7 n)(l:List Hop)(hl:An l)(gr:∀h∈l,0<=h.addr/\h.addr<4294967296):Sp 119 [Am n,.sl 4 Dc l] (.tup [.sl 1 Al (wayBytes n l).1,Aa (wayBytes n l).2]):=cT F119 ntmps119 λF hF=>by
 have aa:=wayBytes.eq_1 n l;generalize wayBytes n l=res at *;have hr:=A0 n hn;have gd:=hl;unfold An at gd;refine fW ?_;constructor<;>intro h
 .have h0:l=[]:=yB (qA h);rw[zD (λx=>x.2.1 h0)]at aa;subst aa;refine T ?_;exact Ao 4 1 Al E D
 have h0:0<l.length:=qB h;clear h;have ag:l≠[]:=λe=>by rw[e]at h0;simp at h0
 refine Ba 2 8 (Am n) E E E (gC hr F39 ?_);cases hb:Ac n
 .rw[zD (λx=>by rw[hb]at x;cases x.1)]at aa;subst aa;refine T ?_;exact Ao 4 1 Al E D
 refine T ?_;refine A7 l.length (λj=>Ek (stepB n l) l j) (λj=>[(1,.sl 4 Dc l),(2,.ref 8 (Am n) 0),(6,.ptr 6 0),(22,.sl 4 Dc l),(23,Aa l.length),(24,Aa j)]) (λ_=>[(6,.box [Bi 281474976710655,Bi 2203318222849,Aa 34997,svN])]) [] (Bh _ _) U ?_;intro j hj hI;refine gL ?_ ?_<;>intro h
 .have ab:j<l.length:=qA h;have aj:(j:Int).toNat<l.length:=kS ab;obtain ⟨x,dr⟩:=kE (l[j]);have e1:l[(j:Int).toNat]'aj=x:=dr;have br:=stepB.eq_1 n l j x;have ef:stepB n l j x=false->res=([],2):=λh2=>by
   rw[zD (λy=>by have:=allB_iff.1 y.2.2 j ab;rw[dr,h2]at this;cases this)]at aa;exact aa
  clear h;refine S ?_;refine⟨E,by omega,aj,?_⟩;rw[e1];by_cases s9:x.domain<0
  .have aa:=ef (by rw[br,Db z_,yC]);subst aa;refine T ?_;exact Ao 4 1 Al E D
  by_cases jc:(n.domains.length:Int)<=x.domain
  .have aa:=ef (by rw[br,Db z_,yC]);subst aa;refine T ?_;exact Ao 4 1 Al E D
  have bd:=Et (n:=n.domains.length) (i:=x.domain) z_;rw[bd,yD]at br;by_cases hk:x.kind=3;rotate_left
  .rw[zL hk,yC]at br;refine T ?_;exact A6 [] hI ab (Bc hI ab (by rw[dr];exact br)) U
  rw[zK hk,yD]at br;by_cases mf:j=0
  .have aa:=ef (by rw[br,zK mf];rfl);subst aa;refine T ?_;exact Ao 4 1 Al E D
  rw[zL mf,vY]at br;have dh:((j:Int)-1).toNat<l.length:=by omega
  have ru:=hI (j-1) z_ z_;have v7:Af (l[((j:Int)-1).toNat]'dh).domain n.domains.length=true:=by
   have e:((j:Int)-1).toNat=j-1:=by omega
   simp only[e];unfold stepB at ru;simp only[zG]at ru;exact ru.1
  have j0:=placeB_iff.1 v7;rw[Ag dh,Ag j0.2]at br;by_cases ox:(n.domains[(l[((j:Int)-1).toNat]'dh).domain.toNat]'j0.2).irb<0
  .have aa:=ef (by rw[br,zK ox];rfl);subst aa;refine T ?_;refine⟨λ_=>?_,λh=>zX ox (zQ h)⟩;refine T ?_;exact Ao 4 1 Al E D
  rw[zL ox]at br;refine T ?_;refine⟨λh=>zX (zO h) ox,λ_=>?_⟩;refine T ?_;exact A6 [] hI ab (Bc hI ab (by rw[dr];exact br)) U
 .have ej:j=l.length:=qB h;subst ej;clear h;have dp:H9 (stepB n l) l=true:=allB_iff.2 λi hi=>hI i hi hi
  rw[zE ⟨hb,ag,dp⟩]at aa;subst aa;have qi:=Aau l (λh=>decide (h.kind=3)) 202 [] [] rfl (λx hx=>⟨⟨_,_,F202⟩,Ane x⟩) hl;have hri:Bs (λh=>decide (h.kind=3)) l=Yo l:=rfl;rw[hri]at qi;have ab:=Il (λh:Hop=>decide (h.kind=3)) l;have his:=λh0=>A18 hri h0
  rw[hri]at ab;have q7:=Lh (frameW n l) (Aes hu l);have je:=frameW.eq_1 n l;have po:=irbOf.eq_1 n l;generalize irbOf n l=ib at *;generalize Yo l=r at *;refine gC qi F201 ?_;constructor<;>intro h
  .have h1:0<r:=zO h;rw[zE h1]at je;obtain ⟨js,hr3⟩:=his z_;have br:=allB_iff.1 dp r.toNat js;have dh:(r-1).toNat<l.length:=by omega
   have v7:Af (l[(r-1).toNat]'dh).domain n.domains.length=true:=by
    have ru:=allB_iff.1 dp (r-1).toNat dh;unfold stepB at ru;simp only[zG]at ru;exact ru.1
   have j0:=placeB_iff.1 v7;unfold stepB at br;rw[hr3,show ((r.toNat:Int)-1)=r-1 by omega,Ag dh,Ag j0.2]at br;simp only[zG,yD,xB,wG,zY]at br;have az:=(Auv hb j0.2).resolve_left z_;have kw:0<=(n.domains[(l[(r-1).toNat]'dh).domain.toNat]'j0.2).irb/\(n.domains[(l[(r-1).toNat]'dh).domain.toNat]'j0.2).irb.toNat<n.irbs.length:=by unfold InIrbs at az;omega
   rw[Ag dh,Ag j0.2,Ag kw.2]at po;rw[Ag js]at je;have ha:=gr _ (zI js);have vh:=yR ha.1;have hxa:=hu _ (zI kw.2);have lr:=yR hxa.1;have q5:Sp 203 [.agg [Aa 0,Aa 0,Aa 64,Aa 17,A9 1,A9 ((l[r.toNat]'js).addr.toNat:Nat),.sl 1 Al []]] (.tup [.sl 1 Al (ipPutT (fP (l[r.toNat]'js).addr.toNat)).1,Aa (ipPutT (fP (l[r.toNat]'js).addr.toNat)).2]):=Agt (fP (l[r.toNat]'js).addr.toNat) (A0n _ z_) (by show 0<100000;decide);rw[vh]at q5;have q6:=Ael (n.irbs[(n.domains[(l[(r-1).toNat]'dh).domain.toNat]'j0.2).irb.toNat]'kw.2).addr.toNat z_;rw[lr]at q6;subst po;rw[je]at q7|-;clear je;generalize (ipPutT (fP (l[r.toNat]'js).addr.toNat)).1=bo at *;refine T ?_;refine G_vw 74 (.agg [Aa 0,Aa 0,Aa 64,Aa 17,A9 1,A9 (l[r.toNat]'js).addr,.sl 1 Al []]) (.agg vL) (gI q5 F203 q6 F204 ?_);exact Ai (Ad [(0,999)] E F19 q7 E q_ E ⟨.inr E,q_⟩) E E (Aj 999 E gA)
  .have h1:¬0<r:=zQ h;rw[zD h1]at je;rw[je]at q7|-;clear je;refine T ?_;refine G_vw 99 (.agg [Bi 281474976710655,Bi Af3,Aa 34997,.sl 1 Al []]) (.agg vL) ?_;exact Ai (Ad [(0,999)] E F19 q7 E q_ E ⟨.inr E,q_⟩) E E (Aj 999 E gA)
end Go.Sy.Zaa
