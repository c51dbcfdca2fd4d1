/- Parts of a proof. -/
import Derived.Test.YticmobkdaneelaaGreatDoorYE40
import Derived.Test.YticmobkdaneelaaGreatDoorYE24
set_option linter.all false
set_option linter.unusedVariables false
set_option linter.unusedSimpArgs false
set_option linter.deprecated false
namespace Go.Sy.YticmobkdaneelaaGreatDoor
open Go.Proofs Go.Proofs.Tryz
attribute [local irreducible] Go.Sy.G Go.Sy.DR
set_option maxRecDepth 100000
set_option maxHeartbeats 4000000
def A41(now:Int)(hn:J6 now=true)(e:EntryM):Sp 236 [A7 e,.ref 1 (Aa now) 0] (Ab (decide (e.seen<now-4))):=cT F236 ntmps236 λF hF=>by
 have hn2:0≤now∧now≤1099511627776:=by simpa [J6] using hn
 conv=>whnf
 refine iW ?_;exact dN
def A40(t:List EntryM)(now:Int)(hl:An t)(ll:∀e∈t,e.mac<18446744073709551616):Sp 157 [.sl 3 A7 t,Aa now] (.sl 3 A7 (ageT t now)):=cT F157 ntmps157 λF hF=>by
 have gn:=hl;unfold An at gn;have aa:=ageT.eq_1 t now;generalize ageT t now=res at *;have q1:=Vx t hl ll;have q2:=Xq now
 conv=>whnf
 refine Af (Ad [(0,55)] E F233 (Vj t gn) E Y E ⟨.inr E,Y⟩) E E ?_;refine oO ?_;refine c0 q1 F219 ?_;cases h1:tableB t
 ·rw[zG (.inl h1)]at aa;subst aa
  (refine oT ?_;refine bT ?_)
  refine Aj 55 E ?_;exact dN
 refine oF ?_;refine c0 q2 F234 ?_;cases h2:J6 now
 ·rw[zG (.inr h2)]at aa;subst aa;refine oT ?_;refine Aj 55 E ?_;exact dN
 rw[zD (by simp[h1,h2])]at aa;refine oF ?_;refine Bf 3 1 (Aa now) E E E ?_;refine oO ?_;have q3:=Z4 t (λe=>decide (e.seen<now-4)) 236 [] [.ref 1 (Aa now) 0] rfl rfl (λx _=>⟨⟨_,_,F236⟩,A41 now h2 x⟩) hl;refine Af (Ad [(0,55),(1,56)] E F235 q3 E ⟨E,Y⟩ E ⟨.inl E,.inr E,Y⟩) E E ?_;refine oO ?_;refine Aj 56 E ?_;refine At E (.cons .tmp .nil) ?_ E;subst aa;refine zH (SV.sl 3 A7) (List.filter_congr λe _=>?_);rw[wN];simp
def Afc(t:List EntryM)(j:Nat)(h:0<t.length)(hj:j≤t.length):oldestU t j<t.length:=by
 induction j with
 |zero=>exact h
 |succ j ih=>
  rw[oldestU];split
  ·omega
  ·exact ih q_
def Aqz(t:List EntryM)(hl:An t)(h0:0<t.length):Sp 345 [.sl 3 A7 t] (Aa (oldestU t t.length:Nat)):=cT F345 ntmps345 λF hF=>by
 unfold An at hl
 conv=>whnf
 refine A5 t.length (λj=>[(0,.sl 3 A7 t),(3,Aa (oldestU t j:Nat)),(6,.sl 3 A7 t),(7,Aa t.length),(8,Aa j)]) (λ_=>[]) [] kU ?_;intro j hj;refine oO ?_;constructor<;>intro h
 ·have ab:j<t.length:=qA h;have mz:=Afc t j h0 q_;have hs:=oldestU.eq_2 t j;rw[zT ab,zT mz]at hs;obtain ⟨o,ho⟩:∃o,oldestU t j=o:=⟨_,rfl⟩
  simp only[ho]at hs mz⊢;have ly:oldestU t (j+1)=if t[j].seen<t[o].seen then j else o:=hs
  refine oO ?_;refine⟨E,by omega,by omega,?_⟩;rw[show t[(j:Int).toNat]'q_=t[j] from rfl]
  conv=>whnf
  refine⟨E,by omega,by omega,?_⟩;rw[show t[(o:Int).toNat]'q_=t[o] from rfl]
  conv=>whnf
  refine kW ?_;constructor<;>intro h2
  ·rw[zG (zK h2)]at ly;refine gF ?_;exact Ay [] q_ ⟨⟨E,E,zH (λz:Nat=>Aa z) ly,E,E,E,E,E,E,E,Y⟩,Y,E,E⟩
  ·rw[zD (zQ h2)]at ly;refine gF ?_;exact Ay [] q_ ⟨⟨E,E,zH (λz:Nat=>Aa z) ly,E,E,E,E,E,E,E,Y⟩,Y,E,E⟩
 ·have:j=t.length:=qB h;subst this;exact gE
def Aid(t:List EntryM)(m:Nat)(wh now:Int)(hl:An t)(ll:∀e∈t,e.mac<18446744073709551616)(uu:m<18446744073709551616):Sp 294 [.sl 3 A7 t,A2 m,Aa wh,Aa now] (.sl 3 A7 (learnT t m wh now)):=cT F294 ntmps294 λF hF=>by
 have gn:=hl;unfold An at gn;have aa:=learnT.eq_1 t m wh now;generalize learnT t m wh now=res at *;have q1:=Vx t hl ll;have q2:=Abv m uu;have q3:=Xq now;have q4:=Aar t m hl
 conv=>whnf
 refine Af (Ad [(0,55)] E F233 (Vj t gn) E Y E ⟨.inr E,Y⟩) E E ?_;refine oO ?_;refine c0 q1 F219 ?_;cases h1:tableB t
 ·rw[zG (.inl h1)]at aa;subst aa
  (refine oT ?_;refine bT ?_;refine bT ?_)
  refine Aj 55 E ?_;exact dN
 refine oF ?_;refine c0 q2 F292 ?_;cases h2:Ll m
 ·rw[zG (.inr (.inl h2))]at aa;subst aa
  (refine oT ?_;refine bT ?_)
  refine Aj 55 E ?_;exact dN
 refine oF ?_;refine c0 q3 F234 ?_;cases h3:J6 now
 ·rw[zG (.inr (.inr h3))]at aa;subst aa;refine oT ?_;refine Aj 55 E ?_;exact dN
 rw[zD (by simp[h1,h2,h3])]at aa;have ht8:t.length≤8:=by simp only[tableB,zE,zJ]at h1;exact h1.1
 have uv:∀hi:0≤It t m,∃h:(It t m).toNat<t.length,t[(It t m).toNat].mac=m:=λhi=>by
  rcases X6 (λe=>decide (EntryM.mac e=m)) t with ⟨h,_⟩|⟨k,hk,h,h2,_⟩
  ·rw[It,h]at hi;exact zY hi j_
  ·have e1:It t m=k:=h;simp only[e1,zU];exact⟨hk,zK h2⟩
 generalize It t m=i at *;refine oF ?_;refine c0 q4 F293 ?_;refine oO ?_;constructor<;>intro h4
 ·have h5:0≤i:=by simpa using h4
  obtain ⟨hi,sy⟩:=uv h5;rw[zG h5]at aa;refine oO ?_;have ag:t≠[]:=λh=>by rw[h]at hi;simp at hi
  refine⟨h5,by omega,?_⟩
  conv=>whnf
  refine⟨ag,?_⟩
  conv=>whnf
  refine⟨E,hi,⟨t[i.toNat].mac,wh,t[i.toNat].seen⟩,E,E,?_⟩
  conv=>whnf
  refine⟨h5,by simp;omega,?_⟩
  conv=>whnf
  refine⟨by simp;exact ag,?_⟩
  conv=>whnf
  refine⟨E,by simp;omega,⟨t[i.toNat].mac,wh,now⟩,by rw[uV];rfl,by rw[uV];rfl,?_⟩
  conv=>whnf
  refine Aj 55 E ?_;refine oO ?_;refine At E (.cons .tmp .nil) (zH (SV.sl 3 A7) ?_) E;rw[aa,List.set_set,sy]
 ·have h5:¬0≤i:=by simp at h4⊢;omega
  rw[zD h5]at aa;refine oO ?_;constructor<;>intro h6
  ·have h7:t.length=8:=by simp at h6;omega
   rw[zG h7]at aa;have q5:=Aqz t hl q_;have mz:=Afc t t.length q_ (yG _);refine oO ?_;refine Aqe [55] q5 F345 E (.cons (.row E E) .nil) E E E ?_;generalize oldestU t t.length=o at *;have q6:=Ah2 t o mz hl;refine gF ?_;refine Af (Ad [(0,55),(1,56)] E F346 q6 E ⟨E,Y⟩ E ⟨.inl E,.inr E,Y⟩) E E ?_;refine oO ?_;refine Af (Ag Γ.toTy 60 rfl rfl rfl rfl rfl (.row rfl) (.lit (e:=A7) (l:=[⟨m,wh,now⟩]) rfl rfl) (λj hj=>by cases hj;decide) (by simp;omega) (by simp;omega)) rfl rfl ?_;refine Aj 60 E ?_;refine oO ?_;refine At E (.cons .tmp .nil) (zH (SV.sl 3 A7) ?_) E;rw[aa,List.eraseIdx_eq_take_drop_succ]
  ·have h7:¬t.length=8:=by simp at h6;omega
   rw[zD h7]at aa;refine oO ?_;refine Af (Ag Γ.toTy 60 rfl rfl rfl rfl rfl (.row rfl) (.lit (e:=A7) (l:=[⟨m,wh,now⟩]) rfl rfl) (λj hj=>by cases hj;decide) (by simp;omega) (by simp;omega)) rfl rfl ?_;refine Aj 60 E ?_;refine oO ?_;exact At E (.cons .tmp .nil) (zH (SV.sl 3 A7) aa) E
def Al0(l:List Int)(hl:l.length<2147483648):Sq 91 [.sl 1 Aa l] [] (.osl 0) [(0,.row 1 Aa l)]:=cT F91 ntmps91 λF hF=>by
 conv=>whnf
 refine D1 E (.inl E) E E E .sl E E ?_;intro b hb;cases b
 ·refine oF ?_;refine Af (Ag Γ.toTy 7 E E E E E (.lit (e:=Aa) (l:=[]) E E) .sl y_ (by simp;omega) (by simp;omega)) E E ?_;refine oO ?_;exact done E (.cons .tmp .nil) [(0,7)] [(0,.row 1 Aa l)] (λ_ h=>h) E E kU
 ·have h0:l=[]:=zZ (hb rfl);subst h0;refine oT ?_;refine B7 2 1000 1 Aa E E ?_;exact done E (.cons .tmp .nil) [(0,1000)] [(0,.row 1 Aa [])] (λ_ h=>h) E E kU
def Adt(l:List Int)(p:Int→Bool)(f:FuncId)(first cap:List SV)(hc:(SV.clo (.func f) first cap).inn []=true)(d6:(SV.clo (.func f) first cap).inn [0]=true)(hf:∀x∈l,H3 prog f (first++[Aa x]++cap) (Ab (p x)))(hl:An l):Sq 343 [.osl 0,.clo (.func f) first cap] [(0,.row 1 Aa l)] (.osl 1) [(0,.non),(1,.row 1 Aa (l.filter λx=>!(p x)))]:=cT F343 ntmps343 λF hF=>by
 have qi:=M4 l p f first cap hc hf hl
 unfold An at hl;have az:∀x:Int,Cd [] (first++[Aa x]++cap)=true:=λx=>Dh hc rfl
 conv=>whnf
 refine Aqe [0] qi F364 E (.cons (.row E E) (.cons (.refl _) .nil)) (by simp only[Cd,hc,uG];rfl) E E ?_;rcases X6 p l with ⟨h1,h2⟩|⟨i,hi,h1,h2,h3⟩
 ·rw[h1];have e1:(l.filter λx=>!(p x))=l:=List.filter_eq_self.2 (λx hx=>by simp[h2 x hx]);rw[e1];refine oT ?_;refine Aup 0 1000 [0,4] E E j_ (by simp;exact⟨E,E⟩) ?_;exact done E (.cons .tmp .nil) [(0,0),(1,1000)] _ (λ_ h=>h) E E kU
 obtain ⟨f1,f2⟩:=Ajq (λx=>!(p x)) l i q_ (λk hk py=>by simp[h3 k hk py]);have g1:dfC (λx=>!(p x)) l (i+1+0)=l:=by
  show dfC (λx=>!(p x)) l (i+1)=l;simp only[dfC,zT hi];rw[zD (by simp[h2]),f1]
 have g2:I0 (λx=>!(p x)) l (i+1+0)=i:=by
  show I0 (λx=>!(p x)) l (i+1)=i;simp only[I0,zT hi];rw[zD (by simp[h2]),f2]
 rw[h1];refine oF ?_;refine iW ?_;refine A5 (l.length-(i+1)) (λj=>[(0,.osl 0),(1,.clo (.func f) first cap),(5,Aa (I0 (λx=>!(p x)) l (i+1+j))),(6,Aa ((i+1+j:Nat)))]) (λj=>[(0,.row 1 Aa (dfC (λx=>!(p x)) l (i+1+j)))]) []
  ⟨⟨rfl,rfl,Bj _,d6,zH Aa (zH Int.ofNat g2),rfl,zH (λz=>SV.val (.int .i64 z)) q_,rfl,trivial⟩,⟨.inl (zH (Ob.row 1 Aa) g1),rfl,trivial⟩,rfl,rfl⟩ ?_
 intro j hj;have j5:=Ad5 (λx=>!(p x)) l (i+1+j);have ga:=Yg (λx=>!(p x)) l (i+1+j);have bf:=Av0 (λx=>!(p x)) l (i+1+j) (i+1+j) (yG _);have s1:∀h:i+1+j<l.length,I0 (λx=>!(p x)) l (i+1+(j+1))=if (!(p l[i+1+j]))=true then I0 (λx=>!(p x)) l (i+1+j)+1 else I0 (λx=>!(p x)) l (i+1+j):=λab=>by
  show I0 (λx=>!(p x)) l (i+1+j+1)=_;simp only[I0,zT ab]
 have s2:∀h:i+1+j<l.length,dfC (λx=>!(p x)) l (i+1+(j+1))=if (!(p l[i+1+j]))=true then (dfC (λx=>!(p x)) l (i+1+j)).set (I0 (λx=>!(p x)) l (i+1+j)) l[i+1+j] else dfC (λx=>!(p x)) l (i+1+j):=λab=>by
  show dfC (λx=>!(p x)) l (i+1+j+1)=_;simp only[dfC,zT ab]
 have gh:=λh=>Ap3 (λx=>!(p x)) l (i+1+j) h
 obtain ⟨D,hD⟩:∃D,dfC (λx=>!(p x)) l (i+1+j)=D:=⟨_,rfl⟩
 obtain ⟨K,hK⟩:∃K,I0 (λx=>!(p x)) l (i+1+j)=K:=⟨_,rfl⟩
 rw[hD]at ga bf s2 gh⊢;rw[hK]at j5 s1 s2 gh⊢;refine oO ?_;constructor<;>intro h
 ·have ab:i+1+j<l.length:=qA h;have oc:=hf l[i+1+j] (zI ab);have s1:=s1 ab;have s2:=s2 ab;rw[zT ab,zT q_]at bf;have bf:=Option.some.inj bf;obtain ⟨x,hx⟩:∃x,l[i+1+j]=x:=⟨_,rfl⟩
  rw[hx]at oc s1 s2 bf;refine oO ?_;refine⟨by omega,by simp;omega,?_⟩
  conv=>whnf
  refine⟨E,by omega,?_⟩;rw[show D[((i+1+j:Nat):Int).toNat]'q_=x from bf]
  conv=>whnf
  refine D8 oc E E E (by simp only[az];rfl) E E ?_;cases yd:p x
  ·rw[yd]at s1 s2;refine oT ?_;refine⟨by omega,by simp;omega,?_⟩
   conv=>whnf
   refine⟨E,by omega,x,E,E,?_⟩
   conv=>whnf
   refine iW ?_;refine iW ?_;exact Ay [] q_ ⟨⟨E,E,Bj _,d6,zH Aa (zH Int.ofNat s1),E,zH (λz=>SV.val (.int .i64 z)) q_,E,Y⟩,⟨.inl (zH (Ob.row 1 Aa) s2),E,Y⟩,E,E⟩
  ·rw[yd]at s1 s2;refine oF ?_;refine iW ?_;exact Ay [] q_ ⟨⟨E,E,Bj _,d6,zH Aa (zH Int.ofNat s1),E,zH (λz=>SV.val (.int .i64 z)) q_,E,Y⟩,⟨.inl (zH (Ob.row 1 Aa) s2),E,Y⟩,E,E⟩
 ·have m6:i+1+j=l.length:=qB h;have ag:D≠[]:=λh=>by rw[h]at ga;simp at ga;omega
  have gh:=gh q_;rw[show l.take (i+1+j)=l from xK q_]at gh;refine Av9 0 [0] E ag (by simp;rfl) ?_;intro b dx jj;refine oO ?_;refine Af (Ed Γ.toTy E E E E (.inr ⟨_,_,E,E⟩) (.inl ⟨E,E⟩) q_ q_) E E ?_;refine oO ?_;refine Af (M6 Γ.toTy 0 (k:=K) E E E E j_ E E E q_ q_) E E ?_;refine oO ?_;refine Af (Ed Γ.toTy E E E E (.inl ⟨E,E⟩) (.inr ⟨_,_,E,E⟩) q_ q_) E E ?_;refine oO ?_;refine Ad8 0 1000 [4] K E E (by rw[yA];omega) (λi hi=>?_) ?_
  ·rw[yB]at hi;subst hi;show SV.val (.slice (some (if dx=0 then ⟨b,0,none⟩ else ⟨b,0*1,none⟩)) (K-0) (dx-0))=_;split<;>simp
  refine done E (.cons .tmp .nil) [(0,0),(1,1000)] _ (λ_ h=>h) E E ⟨Y,⟨.inl E,E,.inl ?_,E,Y⟩,E,E⟩;rw[←gh];exact zH (Ob.row 1 Aa) (by rw[List.take_take,Nat.min_self])
def Si(n:Net)(fw:List Bool)(at_ from_:Int)(ml:List Int):SV :=
 .agg [.sl 5 Ax n.devices,.sl 7 A4 n.ports,.sl 3 Bz n.links,.sl 6 As n.domains,.sl 4 A0 n.statics,.sl 4 Ba n.floods,.sl 5 Ca n.vrfs,.sl 5 B4 n.irbs,.sl 1 Ab fw,Aa at_,Aa from_,.sl 1 Aa ml]
def A4u(n:Net)(fw:List Bool)(p:Int)(h0:0≤p)(hp:p<n.ports.length)(hl:(nth n.ports p).link<fw.length):Sp 342 [Am n,.sl 1 Ab fw,Aa p] (Ab (usableB n fw p)):=cT F342 ntmps342 λF hF=>by
 have hk:p.toNat<n.ports.length:=by omega
 have e1:nth n.ports p=n.ports[p.toNat]:=Ai hk;have hu:=usableB.eq_1 n fw p;generalize usableB n fw p=res at *;rw[e1]at hu hl;obtain ⟨q,hq⟩:∃q,n.ports[p.toNat]'hk=q:=⟨_,rfl⟩
 rw[hq]at hu hl
 conv=>whnf
 refine⟨E,h0,hk,?_⟩;rw[hq]
 conv=>whnf
 constructor<;>intro h
 ·rw[h,vD]at hu;subst hu;exact gE
 ·rw[h,uH]at hu;have h1:¬q.link<0:=zQ h;have h2:q.link.toNat<fw.length:=by omega
  rw[zT h2]at hu;refine oO ?_;refine⟨E,by omega,h2,?_⟩
  conv=>whnf
  exact At E (.cons .tmp .nil) (zH Ab hu) E
def portsC(n:Net)(fw:List Bool)(at_ from_:Int)(ml:List Int)(p:Int)(h0:0≤p)(hp:p<n.ports.length)(hl:(nth n.ports p).link<fw.length):Sp 341 [Aa p,.ref 1 (.ref 12 (Si n fw at_ from_ ml) 0) 0] (Ab (decide (p=from_)||!(usableB n fw p))):=cT F341 ntmps341 λF hF=>by
 have q:=A4u n fw p h0 hp hl
 conv=>whnf
 constructor<;>intro h
 ·have h1:p=from_:=by simpa using h
  refine gH ?_;exact At E (.cons .tmp .nil) (zH Ab (by rw[zO h1,vD])) E
 ·have h1:¬p=from_:=by simpa using h
  refine oD ?_;refine cD q F342 ?_;refine gH ?_;exact At E (.cons .tmp .nil) (zH Ab (by rw[zL h1,uH])) E
def Av8(n:Net)(fw:List Bool)(l:List Int):Prop:=∀p∈l,0≤p∧p<n.ports.length∧(nth n.ports p).link<fw.length
def Asd(n:Net)(fw:List Bool)(at_ from_:Int)(ml l:List Int)(hl:An l)(hp:Av8 n fw l):Sp 290 [.ref 12 (Si n fw at_ from_ ml) 0,.sl 1 Aa l] (.sl 1 Aa (Hx n fw from_ l)):=cT F290 ntmps290 λF hF=>by
 have q:=Adt l (λp=>decide (p=from_)||!(usableB n fw p)) 341 [] [.ref 1 (.ref 12 (Si n fw at_ from_ ml) 0) 0] rfl rfl (λp h=>⟨⟨_,_,F341⟩,portsC n fw at_ from_ ml p (hp p h).1 (hp p h).2.1 (hp p h).2.2⟩) hl;unfold An at hl
 conv=>whnf
 refine Bf 2 1 (.ref 12 (Si n fw at_ from_ ml) 0) E E E ?_;refine oO ?_;refine Af (Ad [(0,55)] E F91 (Al0 l hl) E Y E ⟨.inr E,Y⟩) E E ?_;refine oO ?_;refine Af (Ad [(0,55),(1,56)] E F343 q E ⟨E,Y⟩ E ⟨.inl E,.inr E,Y⟩) E E ?_;refine oO ?_;refine Aj 56 E ?_;exact dN
def Au9(n:Net)(hn:n.Fin)(fw:List Bool)(dom from_:Int)(ml:List Int)(hd:Ah dom n.domains.length=true):Sp 291 [.ref 12 (Si n fw dom from_ ml) 0] (.sl 1 Aa (peersOut n dom from_)):=cT F291 ntmps291 λF hF=>by
 have l7:=Cc hd;have p5:0≤dom:=l7.1;have ck:dom.toNat<n.domains.length:=by omega
 have e2:nth n.domains dom=n.domains[dom.toNat]:=Ai ck;have gp:=hn.peers _ (zI ck);have aa:=peersOut.eq_1 n dom from_;generalize peersOut n dom from_=res at *;rw[e2]at aa;obtain ⟨d,d7⟩:∃d,n.domains[dom.toNat]'ck=d:=⟨_,rfl⟩
 rw[d7]at aa gp;have qc:=Es d.peers gp
 conv=>whnf
 constructor<;>intro h
 ·rw[zG (by simpa using h)]at aa;subst aa;refine oO ?_;refine Au 2 1 Aa E ?_;exact dN
 ·rw[zD (by simpa using h)]at aa;subst aa;refine oO ?_;refine⟨E,p5,ck,?_⟩;rw[d7]
  conv=>whnf
  refine cD qc F91 ?_;refine gH ?_;exact dN
def Vl(n:Net)(fw:List Bool)(dom:Int):Bool:=Ah dom n.domains.length&&decide (fw.length=n.links.length)&&Ac n
def Au1(n:Net)(hn:n.Fin)(fw:List Bool)(dom from_:Int)(h:Vl n fw dom=false):Sp 289 [Am n,.sl 1 Ab fw,Aa dom,Aa from_] (.tup [.val (.pointer none),Ab false]):=cT F289 ntmps289 λF hF=>by
 have qr:=A1 n hn
 conv=>whnf
 constructor<;>intro h1
 ·(refine oT ?_;refine bT ?_;refine bT ?_)
  exact dN
 refine oO ?_;constructor<;>intro h2
 ·(refine oT ?_;refine bT ?_)
  exact dN
 refine oO ?_;constructor<;>intro h3
 ·refine oT ?_;exact dN
 refine oO ?_;refine c0 qr F22 ?_;cases hbn:Ac n
 ·refine oT ?_;exact dN
 ·exfalso;have h4:Ah dom n.domains.length=true:=Ol ⟨by simp at h1;omega,by simp at h2;omega⟩;have h5:fw.length=n.links.length:=by simp at h3;omega
  simp[Vl,h4,h5,hbn]at h
def A0y(n:Net)(hn:n.Fin)(fw:List Bool)(dom from_:Int)(h:Vl n fw dom=true):Sp 289 [Am n,.sl 1 Ab fw,Aa dom,Aa from_] (.tup [.ref 12 (Si n fw dom from_ (Bk n dom)) 0,Ab (decide (from_=-1)||decide (from_=-2)||inB (Bk n dom) from_)]):=cT F289 ntmps289 λF hF=>by
 have qr:=A1 n hn;simp only[Vl,zE,zJ]at h;obtain ⟨⟨hd,mf⟩,hbn⟩:=h;rw[hbn]at qr;have l7:=Cc hd;have qm:=Qc n hn dom;have qc:=D7 (Bn n dom) from_ (Kh n hn dom);have vx:Bn n dom=Bk n dom:=by rw[Bn,zG ⟨⟨l7.1,l7.2⟩,hbn⟩]
 rw[vx]at qm qc;generalize Bk n dom=ml at *
 conv=>whnf
 refine⟨λh1=>zY h1 (by simp;omega),λ_=>?_⟩;refine oO ?_;refine⟨λh1=>zY h1 (by simp;omega),λ_=>?_⟩;refine oO ?_;refine⟨λh1=>zY h1 (by simp;omega),λ_=>?_⟩;refine oO ?_;refine c0 qr F22 ?_;refine oF ?_;refine cD qm F39 ?_;refine gH ?_;constructor<;>intro h1
 ·have h2:from_=-1:=by simpa using h1
  refine Bf 41 12 (Si n fw dom from_ ml) E E E ?_;refine oT ?_;exact At E (.cons .tmp (.cons .tmp .nil)) (zH (λz=>SV.tup [_,Ab z]) (by simp[h2])) E
 have h2:¬from_=-1:=by simpa using h1
 refine Bf 41 12 (Si n fw dom from_ ml) E E E ?_;refine oO ?_;constructor<;>intro h3
 ·have h4:from_=-2:=by simpa using h3
  refine oO ?_;exact At E (.cons .tmp (.cons .tmp .nil)) (zH (λz=>SV.tup [_,Ab z]) (by simp[h4])) E
 have h4:¬from_=-2:=by simpa using h3
 refine oO ?_;refine c0 qc F38 ?_;refine oO ?_;exact At E (.cons .tmp (.cons .tmp .nil)) (zH (λz=>SV.tup [_,Ab z]) (by simp[h2,h4])) E
def Ak0{n:Net}(hb:Ac n=true){p:Int}(h0:0≤p)(hp:p<n.ports.length):(nth n.ports p).link<n.links.length:=by
 have hk:p.toNat<n.ports.length:=by omega
 have e1:nth n.ports p=n.ports[p.toNat]:=Ai hk;rw[e1];by_cases hl:0≤n.ports[p.toNat].link
 ·have:=Ox hb hk hl;omega
 ·omega
def Ae4{n:Net}{fw:List Bool}(hb:Ac n=true)(hf:fw.length=n.links.length){l:List Int}(h:∀p∈l,0≤p∧p<n.ports.length):Av8 n fw l:=λp hp=>
 ⟨(h p hp).1,(h p hp).2,by rw[hf];exact Ak0 hb (h p hp).1 (h p hp).2⟩
def Ia{n:Net}{dom:Int}:∀p∈Bk n dom,0≤p∧p<n.ports.length:=λp hp=>by
 rw[Bk,filtI_mem]at hp;exact⟨hp.1,hp.2.1⟩
def Qd{n:Net}(hn:n.Fin)(dom:Int):An (Bk n dom):=by
 have h1:=Iz (Ts n (nth n.domains dom)) n.ports.length;have h2:=hn.ports;unfold An at *;rw[Bk];omega
def Ue(n:Net)(fw:List Bool)(dom from_:Int):Tn n fw dom from_=(Vl n fw dom&&(decide (from_=-1)||decide (from_=-2)||inB (Bk n dom) from_)):=rfl
def floodS(n:Net)(hn:n.Fin)(fw:List Bool)(dom from_:Int):Sp 218 [Am n,.sl 1 Ab fw,Aa dom,Aa from_] (.tup [.sl 1 Aa (floodT n fw dom from_).1,.sl 1 Aa (floodT n fw dom from_).2.1,Aa (floodT n fw dom from_).2.2]):=cT F218 ntmps218 λF hF=>by
 have aa:=floodT.eq_1 n fw dom from_;generalize floodT n fw dom from_=res at *;rw[Ue]at aa;cases cd:Vl n fw dom
 ·rw[cd,yE,zG rfl]at aa;subst aa;have q:=Au1 n hn fw dom from_ cd
  conv=>whnf
  refine c0 q F289 ?_;refine oT ?_;refine Au 8 1 Aa E ?_;refine Au 9 1 Aa E ?_;exact dN
 rw[cd,yF]at aa;have q:=A0y n hn fw dom from_ cd;have du:=cd;simp only[Vl,zE,zJ]at du;obtain ⟨⟨hd,mf⟩,hbn⟩:=du;have qp:=Asd n fw dom from_ (Bk n dom) (Bk n dom) (Qd hn dom) (Ae4 hbn mf Ia);have qe:=Au9 n hn fw dom from_ (Bk n dom) hd;generalize (decide (from_=-1)||decide (from_=-2)||inB (Bk n dom) from_)=ok at *;generalize Bk n dom=ml at *
 conv=>whnf
 refine c0 q F289 ?_;cases ok
 ·rw[zG rfl]at aa;subst aa;refine oT ?_;refine Au 8 1 Aa E ?_;refine Au 9 1 Aa E ?_;exact dN
 rw[zD j_]at aa;subst aa;refine oF ?_;refine c0 qp F290 ?_;refine oO ?_;refine c0 qe F291 ?_;exact gE
def Zp(l:List Static)(p:Static→Bool)(f:FuncId)(first cap:List SV)(hc:(SV.clo (.func f) first cap).inn []=true)(hf:∀x∈l,H3 prog f (first++[A0 x]++cap) (Ab (p x)))(hl:An l):Sp 332 [.sl 4 A0 l,.clo (.func f) first cap] (Aa (Bv p l)):=cT F332 ntmps332 λF hF=>by
 unfold An at hl;have az:∀x:Static,Cd [] (first++[A0 x]++cap)=true:=λx=>Dh hc rfl
 conv=>whnf
 refine A9 l.length (λj=>En (λ_ x=>!(p x)) l j) (λj=>[(0,.sl 4 A0 l),(1,.clo (.func f) first cap),(7,Aa l.length),(8,Aa j)]) (λ_=>[]) [] (Bl _ _) ⟨⟨E,E,Bj _,hc,E,E,E,E,Y⟩,Y,E,E⟩ ?_;intro j hj hI;refine oO ?_;constructor<;>intro h
 ·have h:=zK h;have an:j<l.length:=by omega
  refine oO ?_;refine⟨E,by omega,by omega,?_⟩
  conv=>whnf
  refine D8 (hf l[j] (zI an)) E E E (by simp only[az];rfl) E E ?_;refine oO ?_;constructor<;>intro h2
  ·refine oO ?_;refine At E (.cons .tmp .nil) (zH Aa ?_) E;exact C7 an (λi hi br=>by simpa using hI i hi br) h2
  ·refine gF ?_;exact A8 [] hI an (Bi hI an (by simp[h2])) ⟨⟨E,E,Bj _,hc,E,E,E,E,Y⟩,Y,E,E⟩
 ·have h:=zQ h;refine oO ?_;refine At E (.cons .tmp .nil) (zH Aa ?_) E;exact D4 (λi hi=>by simpa using hI i hi q_)
def entryC(dom:Int)(m:Nat)(s:Static):Sp 333 [A0 s,.ref 1 (Aa dom) 0,.ref 1 (A2 m) 0] (Ab (decide (s.domain=dom)&&decide (s.mac=(m:Int)))):=cT F333 ntmps333 λF hF=>by
 conv=>whnf
 constructor<;>intro h
 ·refine oO ?_;refine At E (.cons .tmp .nil) (zH Ab ?_) E;have h1:s.domain=dom:=by simpa using h
  rw[zO h1,yF,wN];simp
 ·refine oO ?_;refine At E (.cons .tmp .nil) (zH Ab ?_) E;have h1:¬s.domain=dom:=by simpa using h
  rw[zL h1,yE]
def entryI(n:Net)(hn:n.Fin)(dom:Int)(m:Nat):Sp 263 [Am n,Aa dom,A2 m] (Aa (E2 n dom m)):=cT F263 ntmps263 λF hF=>by
 have q:=Zp n.statics (λs:Static=>decide (s.domain=dom)&&decide (s.mac=(m:Int))) 333 [] [.ref 1 (Aa dom) 0,.ref 1 (A2 m) 0] rfl (λx _=>⟨⟨_,_,F333⟩,entryC dom m x⟩) hn.statics
 conv=>whnf
 refine Bf 4 1 (Aa dom) E E E ?_;refine Bf 5 1 (A2 m) E E E ?_;refine oO ?_;refine c0 q F332 ?_;exact gE
def staticP(n:Net)(dom:Int)(m:Nat):Int:=if 0≤E2 n dom m then (nth n.statics (E2 n dom m)).port else -1
def At6(n:Net)(hn:n.Fin)(hb:Ac n=true)(dom:Int)(m:Nat):Sp 355 [Am n,Aa dom,A2 m] (Aa (staticP n dom m)):=cT F355 ntmps355 λF hF=>by
 have q:=entryI n hn dom m;have qr:=A1 n hn;rw[hb]at qr;have ab:E2 n dom m<n.statics.length:=Iy _ _;have aa:=staticP.eq_1 n dom m;generalize staticP n dom m=res at *;generalize E2 n dom m=i at *
 conv=>whnf
 refine c0 q F263 ?_;refine oO ?_;constructor<;>intro h
 ·rw[zD (by simp at h;omega)]at aa;subst aa;refine oT ?_;exact dN
 ·have h0:0≤i:=by simp at h;omega
  have hk:i.toNat<n.statics.length:=by omega
  have e1:nth n.statics i=n.statics[i.toNat]:=Ai hk;rw[zG h0,e1]at aa;refine oO ?_;refine c0 qr F22 ?_;refine oF ?_;refine⟨E,h0,hk,?_⟩
  conv=>whnf
  exact At E (.cons .tmp .nil) (zH Aa aa) E
def knownT(n:Net)(fw:List Bool)(t:List EntryM)(dom from_:Int)(m:Nat):List Int×List Int×Bool :=
 if 0≤staticP n dom m then (Hx n fw from_ [staticP n dom m],[],true)
 else if (findE t m).2=false then ([],[],false)
 else if 0≤(findE t m).1∧inB (Bk n dom) (findE t m).1=true then (Hx n fw from_ [(findE t m).1],[],true)
 else if (findE t m).1<0∧inB (nth n.domains dom).peers (-1-(findE t m).1)=true then (if from_=-1 then ([],[],true) else ([],[-1-(findE t m).1],true))
 else ([],[],false)
def Aby{n:Net}(hb:Ac n=true)(dom:Int)(m:Nat)(h:0≤staticP n dom m):staticP n dom m<n.ports.length:=by
 unfold staticP at h⊢;split at h
 ·rename_i h0;rw[zG h0];have ab:E2 n dom m<n.statics.length:=Iy _ _;have hk:(E2 n dom m).toNat<n.statics.length:=by omega
  simp only[Ac,zE]at hb;have:=allB_iff.1 hb.1.1.1.2 _ hk;simp only[Lb,zE,Ah,zJ]at this;rw[Ai hk];exact this.1.1.2.2
 ·omega
def knownS(n:Net)(hn:n.Fin)(fw:List Bool)(t:List EntryM)(dom from_:Int)(m:Nat)(hl:An t)(hw:I64 (-1-(findE t m).1))(cd:Vl n fw dom=true):Sp 298 [.ref 12 (Si n fw dom from_ (Bk n dom)) 0,.sl 3 A7 t,A2 m] (.tup [.sl 1 Aa (knownT n fw t dom from_ m).1,.sl 1 Aa (knownT n fw t dom from_ m).2.1,Ab (knownT n fw t dom from_ m).2.2]):=cT F298 ntmps298 λF hF=>by
 simp only[Vl,zE,zJ]at cd;obtain ⟨⟨hd,mf⟩,hbn⟩:=cd;have l7:=Cc hd;have p5:0≤dom:=l7.1;have ck:dom.toNat<n.domains.length:=by omega
 have e2:nth n.domains dom=n.domains[dom.toNat]:=Ai ck;have gp:=hn.peers _ (zI ck);have aa:=knownT.eq_1 n fw t dom from_ m;have qs:=At6 n hn hbn dom m;have yf:=Aby hbn dom m;have qf:=A0e t m hl;have qp:∀p:Int,0≤p→p<n.ports.length→_:=λp h0 h1=>Asd n fw dom from_ (Bk n dom) [p] (by unfold An;simp) (Ae4 hbn mf (l:=[p]) (λx hx=>by rw[yB]at hx;subst hx;exact⟨h0,h1⟩))
 have gx:∀p,inB (Bk n dom) p=true→0≤p∧p<n.ports.length:=λp hp=>Ia p (inB_mem.1 hp)
 have qc:=λx=>D7 (Bk n dom) x (Qd hn dom)
 rw[e2]at aa;obtain ⟨d,d7⟩:∃d,n.domains[dom.toNat]'ck=d:=⟨_,rfl⟩
 rw[d7]at aa gp;have qc2:=λx=>D7 d.peers x gp
 generalize knownT n fw t dom from_ m=res at *;generalize staticP n dom m=sp at *;generalize findE t m=fe at *;obtain ⟨w,ok⟩:=fe;dsimp only at aa hw qf;generalize Bk n dom=ml at *
 conv=>whnf
 refine cD qs F355 ?_;refine gH ?_;constructor<;>intro h1
 ·have h2:0≤sp:=by simpa using h1
  rw[zG h2]at aa;subst aa;refine oO ?_;refine Vs 25 Aa [sp] E E ?_;refine Aj 25 E ?_;refine c0 (qp sp h2 (yf h2)) F290 ?_;refine oO ?_;refine Au 7 1 Aa E ?_;exact dN
 have h2:¬0≤sp:=by simp at h1;omega
 rw[zD h2]at aa;refine oO ?_;refine c0 qf F356 ?_;cases ok
 ·rw[zG rfl]at aa;subst aa;refine oT ?_;refine Au 6 1 Aa E ?_;refine Au 7 1 Aa E ?_;exact dN
 rw[zD j_]at aa;refine oF ?_;constructor<;>intro h3
 ·have h4:0≤w:=by simpa using h3
  refine oO ?_;refine c0 (qc w) F38 ?_;cases az:inB ml w
  ·rw[zD (by simp[az]),zD q_]at aa;subst aa;refine oF ?_;refine⟨λh5=>zY h5 (by simp;omega),λ_=>?_⟩;refine oD ?_;refine⟨z_,?_⟩
   ((conv=>whnf);refine aF ?_;refine rg ?_;conv=>whnf)
   refine Au 6 1 Aa E ?_;refine Au 7 1 Aa E ?_;exact dN
  ·rw[zG ⟨h4,az⟩]at aa;subst aa;refine oT ?_;refine Vs 49 Aa [w] E E ?_;refine Aj 49 E ?_;refine c0 (qp w h4 (gx w az).2) F290 ?_;refine oO ?_;refine Au 7 1 Aa E ?_;exact dN
 have h4:¬0≤w:=by simp at h3;omega
 rw[zD q_]at aa;refine oF ?_;refine⟨λh5=>?_,λh5=>zY h5 (by simp;omega)⟩;refine oD ?_;refine⟨E,p5,ck,?_⟩;rw[d7]
 conv=>whnf
 refine⟨hw,?_⟩
 conv=>whnf
 refine cD (qc2 (-1-w)) F38 ?_;cases az:inB d.peers (-1-w)
 ·rw[zD (by simp[az])]at aa;subst aa;refine oD ?_;refine⟨z_,?_⟩
  ((conv=>whnf);refine aF ?_;refine rg ?_;conv=>whnf)
  refine Au 6 1 Aa E ?_;refine Au 7 1 Aa E ?_;exact dN
 rw[zG ⟨by omega,az⟩]at aa;refine oD ?_;refine⟨z_,?_⟩
 ((conv=>whnf);refine aT ?_;refine rg ?_;conv=>whnf)
 constructor<;>intro h6
 ·rw[zG (by simpa using h6)]at aa;subst aa;refine oO ?_;refine Au 6 1 Aa E ?_;refine Au 7 1 Aa E ?_;exact dN
 ·rw[zD (by simpa using h6)]at aa;subst aa;refine oO ?_;refine⟨hw,?_⟩
  conv=>whnf
  refine Au 6 1 Aa E ?_;refine Vs 78 Aa [-1-w] E E ?_;refine Aj 78 E ?_;exact dN
def Yv{n:Net}(hb:Ac n=true)(dom:Int)(m:Nat):(0≤staticP n dom m↔0≤E2 n dom m)∧(0≤E2 n dom m→staticP n dom m=(nth n.statics (E2 n dom m)).port):=by
 refine⟨⟨λh=>?_,λh=>?_⟩,λh=>by rw[staticP,zG h]⟩
 ·unfold staticP at h;split at h
  ·assumption
  ·omega
 ·rw[staticP,zG h];have ab:E2 n dom m<n.statics.length:=Iy _ _;have hk:(E2 n dom m).toNat<n.statics.length:=by omega
  simp only[Ac,zE]at hb;have:=allB_iff.1 hb.1.1.1.2 _ hk;simp only[Lb,zE,Ah,zJ]at this;rw[Ai hk];exact this.1.1.2.1
def A6a{n:Net}{fw:List Bool}{t:List EntryM}{dom from_:Int}{m:Nat}(hb:Ac n=true)(hr:Tn n fw dom from_=true)(hg:Ex m=false):D6 n fw t dom from_ m=if (knownT n fw t dom from_ m).2.2=true then ((knownT n fw t dom from_ m).1,(knownT n fw t dom from_ m).2.1,0) else (Hx n fw from_ (Bk n dom),peersOut n dom from_,0):=by
 obtain ⟨h1,h2⟩:=Yv hb dom m;rw[D6,zD (by rw[hr];decide),zD (by rw[hg];decide)];unfold knownT;by_cases hs:0≤E2 n dom m
 ·rw[zG hs,zG (h1.2 hs),h2 hs];rfl
 rw[zD hs,zD (λh=>hs (h1.1 h))];generalize findE t m=fe;obtain ⟨w,ok⟩:=fe;cases ok
 ·simp
 simp only[Bool.true_eq_false,if_false,true_and];by_cases ha:0≤w∧inB (Bk n dom) w=true
 ·rw[zG ha,zG ha];rfl
 rw[zD ha,zD ha];by_cases hc:w<0∧inB (nth n.domains dom).peers (-1-w)=true
 ·rw[zG hc,zG hc];split<;>rfl
 ·rw[zD hc,zD hc];rfl
def A6b(n:Net)(hn:n.Fin)(fw:List Bool)(t:List EntryM)(dom from_:Int)(m:Nat)(hl:An t)(hw:I64 (-1-(findE t m).1))(uu:m<18446744073709551616):Sp 224 [Am n,.sl 1 Ab fw,.sl 3 A7 t,Aa dom,Aa from_,A2 m] (.tup [.sl 1 Aa (D6 n fw t dom from_ m).1,.sl 1 Aa (D6 n fw t dom from_ m).2.1,Aa (D6 n fw t dom from_ m).2.2]):=cT F224 ntmps224 λF hF=>by
 cases cd:Vl n fw dom
 ·have aa:D6 n fw t dom from_ m=([],[],2):=by
   rw[D6,zG (by rw[Ue,cd];rfl)]
  rw[aa];have q:=Au1 n hn fw dom from_ cd;refine fW ?_;refine c0 q F289 ?_;refine fU ?_;refine Au 12 1 Aa E ?_;refine Au 13 1 Aa E ?_;exact dN
 have q:=A0y n hn fw dom from_ cd;have qk:=knownS n hn fw t dom from_ m hl hw cd;have qg:=Mz m uu;have du:=cd;simp only[Vl,zE,zJ]at du;obtain ⟨⟨hd,mf⟩,hbn⟩:=du;have qp:=Asd n fw dom from_ (Bk n dom) (Bk n dom) (Qd hn dom) (Ae4 hbn mf Ia);have qe:=Au9 n hn fw dom from_ (Bk n dom) hd;have bz:=Ue n fw dom from_;rw[cd,yF]at bz;have df:Tn n fw dom from_=false→D6 n fw t dom from_ m=([],[],2):=λh=>by rw[D6,zG h]
 have hgrp:Tn n fw dom from_=true→Ex m=true→D6 n fw t dom from_ m=(Hx n fw from_ (Bk n dom),peersOut n dom from_,0):=λh h2=>by
  rw[D6,zD (by rw[h];decide),zG h2]
 have jn:=λh h2=>@A6a n fw t dom from_ m hbn h h2
 generalize D6 n fw t dom from_ m=res at *;generalize knownT n fw t dom from_ m=kn at *;obtain ⟨kp,ke,ko⟩:=kn;generalize Tn n fw dom from_=rm at *;generalize (decide (from_=-1)||decide (from_=-2)||inB (Bk n dom) from_)=ok at *;subst bz;generalize Bk n dom=ml at *;dsimp only at jn qk;refine fW ?_;refine c0 q F289 ?_;cases rm
 ·rw[df rfl];refine fU ?_;refine Au 12 1 Aa E ?_;refine Au 13 1 Aa E ?_;exact dN
 refine fU ?_;refine c0 qg F172 ?_;cases hg:Ex m
 ·have jn:=jn rfl hg;refine fU ?_;refine c0 qk F298 ?_;cases ko
  ·rw[zD j_]at jn;subst jn;refine fU ?_;refine c0 qp F290 ?_;refine fU ?_;refine c0 qe F291 ?_;exact gC
  ·rw[zG rfl]at jn;subst jn;exact gC
 ·rw[hgrp rfl hg];refine fU ?_;refine c0 qp F290 ?_;refine fU ?_;refine c0 qe F291 ?_;exact gC
end Go.Sy.YticmobkdaneelaaGreatDoor
namespace Go.Sy.YticmobkdaneelaaGreatDoor
open Go.Proofs Go.Proofs.Tryz
structure TabOK(t:List EntryM):Prop where
 short:An t
 mac:∀e∈t,e.mac<18446744073709551616
 wh:∀e∈t,I64 e.where_
structure QueuedOK(q:QueuedM):Prop where
 frame:FrameOK q.frame
 from_:-2≤q.from_∧q.from_<1099511627776
 peer:0≤q.peer∧q.peer<1099511627776
def Ku(l:List QueuedM):Prop:=l.length≤64∧∀q∈l,QueuedOK q
structure MacOK(n:Net)(m:MacM)(J D:Int):Prop where
 up:m.up.length=n.links.length
 tabs:m.tables.length=n.domains.length
 ques:m.queues.length=n.domains.length
 tab:∀t∈m.tables,TabOK t
 que:∀l∈m.queues,Ku l
 now:0≤m.now∧m.now≤1099511627776
 inj:0≤m.injected∧m.injected≤J
 drp:∀i,0≤m.drops i∧m.drops i≤D
def Jw{f:FrameM}(hf:FrameOK f){a b:Int}(c:Int)(h1:-2≤a∧a<1099511627776)(h2:0≤b∧b<1099511627776):QueuedOK ⟨a,b,c,f⟩:=⟨hf,h1,h2⟩
def A1x:QueuedOK noQ:=⟨Hb,by decide,by decide⟩
def Aa4:TabOK []:=⟨by unfold An;decide,λ_ h=>(by cases h),λ_ h=>(by cases h)⟩
def Acf:Ku []:=⟨by decide,λ_ h=>(by cases h)⟩
def Zj{α:Type}{l:List α}{i:Nat}{x y:α}(h:y∈l.set i x):y=x∨y∈l:=by
 rcases uW h with h|h
 ·exact .inr h
 ·exact .inl h
def Q2{α:Type}{l:List α}{i:Nat}{d:α}(h:i<l.length):(l[i]?).getD d∈l:=by
 rw[zT h];exact zI h
def Jy{n:Net}{m:MacM}{J D:Int}(h:MacOK n m J D)(dom:Int):Ku (queueL m dom):=by
 unfold queueL;by_cases hd:dom.toNat<m.queues.length
 ·exact h.que _ (Q2 hd)
 ·rw[wP q_];exact Acf
def Aaq{n:Net}{m:MacM}{J D:Int}(h:MacOK n m J D)(dom:Int):TabOK (tableL m dom):=by
 unfold tableL;by_cases hd:dom.toNat<m.tables.length
 ·exact h.tab _ (Q2 hd)
 ·rw[wP q_];exact Aa4
theorem MacOK.mono{n:Net}{m:MacM}{J D J' D':Int}(h:MacOK n m J D)(h1:J≤J')(h2:D≤D'):MacOK n m J' D' :=
 ⟨h.up,h.tabs,h.ques,h.tab,h.que,h.now,⟨h.inj.1,by have:=h.inj.2;omega⟩,λi=>⟨(h.drp i).1,by have:=(h.drp i).2;omega⟩⟩
def Vg{n:Net}{m:MacM}{J D:Int}(h:MacOK n m J D)(_hD:0≤D)(e:Int):MacOK n (C4 m e) J (D+1):=by
 refine⟨h.up,h.tabs,h.ques,h.tab,h.que,h.now,h.inj,λi=>?_⟩;have:=h.drp i;show 0≤(if i=e.toNat then m.drops i+1 else m.drops i)∧(if i=e.toNat then m.drops i+1 else m.drops i)≤D+1;split<;>omega
def Auz{n:Net}{m:MacM}{J D:Int}(h:MacOK n m J D)(dom:Int){l:List QueuedM}(hl:Ku l):MacOK n (setQ m dom l) J D:=by
 refine⟨h.up,h.tabs,by rw[setQ];simp[h.ques],h.tab,λx hx=>?_,h.now,h.inj,h.drp⟩;rcases Zj hx with rfl|hx
 ·exact hl
 ·exact h.que x hx
def Akn{n:Net}{m:MacM}{J D:Int}(h:MacOK n m J D)(dom:Int){l:List EntryM}(hl:TabOK l):MacOK n (Il m dom l) J D:=by
 refine⟨h.up,by rw[Il];simp[h.tabs],h.ques,λx hx=>?_,h.que,h.now,h.inj,h.drp⟩;rcases Zj hx with rfl|hx
 ·exact hl
 ·exact h.tab x hx
def A06{l:List QueuedM}(hl:Ku l){q:QueuedM}(hq:QueuedOK q):Ku (pushT l q).1:=by
 unfold pushT;split
 ·exact hl
 ·refine⟨by simp;omega,λx hx=>?_⟩;rcases yI.1 hx with hx|hx
  ·exact hl.2 x hx
  ·rw[yB.1 hx];exact hq
def Az9{l:List QueuedM}(hl:Ku l)(at_:Int):QueuedOK (takeT l at_).1∧Ku (takeT l at_).2.1:=by
 unfold takeT;split
 ·exact⟨A1x,hl⟩
 ·rename_i h;refine⟨hl.2 _ (Q2 q_),?_,λx hx=>hl.2 x (uI hx)⟩;have:=List.length_eraseIdx_le l at_.toNat;have:=hl.1;show (l.eraseIdx at_.toNat).length≤64;omega
def Z7{n:Net}{m:MacM}{J D:Int}(h:MacOK n m J D)(hD:0≤D)(dom:Int){q:QueuedM}(hq:QueuedOK q)(e:Int):MacOK n (comeM m dom q e) J (D+1):=by
 unfold comeM;split
 ·exact Vg h hD e
 split
 ·exact(Auz h dom (A06 (Jy h dom) hq)).mono (xU _) q_
 ·exact Vg h hD 3
def Aee{n:Net}{m:MacM}{J D:Int}(h:MacOK n m J D)(dom at_:Int):MacOK n (takeM m dom at_).1 J D∧QueuedOK (takeM m dom at_).2.1:=by
 unfold takeM;split
 ·exact⟨h,A1x⟩
 ·have:=Az9 (Jy h dom) at_;exact⟨Auz h dom this.2,this.1⟩
def Ath{n:Net}(hn:n.Fin){m:MacM}{J D:Int}(h:MacOK n m J D)(_hJ:0≤J)(hD:0≤D)(port:Int)(b:List UInt8):MacOK n (injectT n m port b) (J+1) (D+1):=by
 unfold injectT;split
 ·exact h.mono q_ q_
 ·rename_i hc;have hp:Ah port n.ports.length=true:=by cases hx:Ah port n.ports.length;exact zY (.inl hx) hc;rfl
  have s9:=Cc hp;have hs:=hn.ports;unfold An at hs;have h1:=h.inj;have hm:MacOK n ⟨m.up,m.tables,m.queues,m.now,m.injected+1,m.drops⟩ (J+1) D:=⟨h.up,h.tabs,h.ques,h.tab,h.que,h.now,(by show 0≤m.injected+1∧m.injected+1≤J+1;omega),h.drp⟩
  exact Z7 hm hD _ (Jw (Abf _ _ _) _ q_ q_) _
structure OutOK(n:Net)(o:OutM):Prop where
 kind:1≤o.kind∧o.kind≤5
 bytes:o.bytes.length≤1518
 frame:o.kind=4→FrameOK o.frame∧DomIn n o.domain
 err:o.kind=5→B9 o.error
def Axp{n:Net}(hn:n.Fin)(port:Int):-1≤C5 n port∧C5 n port<2147483648:=by
 unfold C5;split
 ·rename_i h;obtain ⟨⟨h1,h2⟩,h3,hb⟩:=h;have hk:port.toNat<n.ports.length:=by omega
  rw[Ai hk]at h3⊢;have hl:=(Ox hb hk h3).1;rw[Ai hl];simp only[Ac,zE]at hb;have v7:=allB_iff.1 hb.1.1.1.1.2 _ hl;simp only[Tp,zE]at v7;have ha:=Cc v7.1.1.1.1;have du:=Cc v7.1.1.1.2;have hs:=hn.ports;unfold An at hs;split<;>omega
 ·omega
def Aor{n:Net}(hn:n.Fin)(port:Int)(b:List UInt8):0≤(linkT n port b).1∧(linkT n port b).1<1099511627776:=by
 have:=Axp hn port;unfold linkT;split<;>dsimp only<;>omega
def Ago{n:Net}(hn:n.Fin)(b:List UInt8):0≤(comeT n b).1∧(comeT n b).1<1099511627776:=by
 by_cases h:(comeT n b).2.2.2=0
 ·have:=(Abl h).1;have hs:=hn.domains;unfold An at hs;unfold DomIn at this;omega
 ·unfold comeT at h⊢;split
  ·decide
  rename_i h1;rw[zD h1]at h;split
  ·exact⟨xU _,by dsimp only;omega⟩
  rename_i h1;rw[zD h1]at h;split
  ·decide
  rename_i h1;rw[zD h1]at h;split
  ·decide
  rename_i h1;rw[zD h1]at h;exact zY E h
def A3e{n:Net}(hn:n.Fin){m:MacM}{J D:Int}(h:MacOK n m J D)(hD:0≤D){o:OutM}(ho:OutOK n o)(origin:Int):MacOK n (goesM n m o origin).1 J (D+1):=by
 unfold goesM;split
 ·exact h.mono (xU _) q_
 split
 ·have:=Aor hn o.port o.bytes;exact Z7 h hD _ (Jw (Aos _ _ _) _ q_ q_) _
 split
 ·exact Z7 h hD _ (Jw (Ap9 _ _) _ q_ (Ago hn o.bytes)) _
 split
 ·rename_i h4;exact Z7 h hD o.domain (Jw (a:=-2) (b:=0) (ho.frame h4).1 origin j_ j_) 0
 ·exact Vg h hD _
def U9{n:Net}(hn:n.Fin)(origin:Int):∀(l:List OutM) {m:MacM} {J D:Int},MacOK n m J D→0≤D→(∀o∈l,OutOK n o)→MacOK n (goesL n m origin l).1 J (D+l.length)
 |[],m,J,D,h,_,_=>by
  rw[goesL];exact h.mono (xU _) y_
 |o::l,m,J,D,h,hD,ho=>by
  rw[goesL];have:=U9 hn origin l (A3e hn h hD (ho o y_) origin) q_ (λx hx=>ho x (by simp[hx]));exact this.mono (xU _) (by simp only[yL];omega)
def Aok{n:Net}{o:OutM}{r:List UInt8×Int}(hk:1≤o.kind∧o.kind≤3)(hr:r.1.length≤1518)(he:B9 r.2):OutOK n (Qt o r):=by
 unfold Qt;split
 ·exact⟨⟨by dsimp only;omega,by dsimp only;omega⟩,by simp,λh=>zY h (by dsimp only;omega),λ_=>he⟩
 ·exact⟨⟨hk.1,by have:=hk.2;dsimp only;omega⟩,hr,λh=>by have:=hk.2;dsimp only at h;omega,λh=>by have:=hk.2;dsimp only at h;omega⟩
def Ayi{t:List EntryM}(h:TabOK t){m:Nat}(hm:m<18446744073709551616){wh:Int}(hw:I64 wh)(now:Int):TabOK (learnT t m wh now):=by
 have hs:=h.short;unfold An at hs;have key:∀e:EntryM,e∈learnT t m wh now→e∈t∨e=⟨m,wh,now⟩:=λe he=>by
  unfold learnT at he;split at he
  ·exact .inl he
  split at he
  ·rcases Zj he with h|h
   ·exact .inr h
   ·exact .inl h
  ·rcases yI.1 he with h|h
   ·split at h
    ·exact .inl (uI h)
    ·exact .inl h
   ·exact .inr (yB.1 h)
 refine⟨?_,λe he=>?_,λe he=>?_⟩
 ·unfold learnT;split
  ·exact h.short
  rename_i hb;have h8:t.length≤8:=by
   have:tableB t=true:=by cases hx:tableB t;exact zY (.inl hx) hb;rfl
   simp only[tableB,zE,zJ]at this;exact this.1
  split
  ·unfold An;simp;omega
  ·unfold An;split
   ·have:=List.length_eraseIdx_le t (oldestU t t.length);simp only[zW,yL,xM];omega
   ·simp only[zW,yL,xM];omega
 ·rcases key e he with h1|rfl
  ·exact h.mac e h1
  ·exact hm
 ·rcases key e he with h1|rfl
  ·exact h.wh e h1
  ·exact hw
def V5{t:List EntryM}(h:TabOK t){q:QueuedM}(hq:QueuedOK q)(now:Int):TabOK (learnQ t q now):=by
 unfold learnQ;split
 ·exact h
 ·have hs:=hq.frame.src;refine Ayi h q_ ?_ now;have h1:=hq.from_;have h2:=hq.peer;unfold I64;split<;>omega
def A6j{t:List EntryM}(h:TabOK t)(now:Int):TabOK (ageT t now):=by
 unfold ageT;split
 ·exact h
 ·have hs:=h.short;unfold An at hs;refine⟨?_,λe he=>h.mac e (tR.1 he).1,λe he=>h.wh e (tR.1 he).1⟩;unfold An;exact Nat.lt_of_le_of_lt (uT _ _) hs
def Aod(n:Net)(dom:Int):(Bk n dom).length≤n.ports.length:=by
 rw[Bk];have:=Iz (Ts n (nth n.domains dom)) n.ports.length;exact this
attribute [local irreducible] Go.Sy.G Go.Sy.DR
set_option maxRecDepth 100000
set_option maxHeartbeats 4000000
def Al5(t:List EntryM)(q:QueuedM)(now:Int)(ht:TabOK t)(hq:QueuedOK q):Sp 220 [.sl 3 A7 t,Cb q,Aa now] (.sl 3 A7 (learnQ t q now)):=cT F220 ntmps220 λF hF=>by
 have aa:=learnQ.eq_1 t q now;generalize learnQ t q now=res at *;have hl:=ht.short;have gn:=hl;unfold An at gn;have hs:=hq.frame.src;have h1:=hq.peer
 conv=>whnf
 constructor<;>intro h
 ·rw[zG (by simpa using h)]at aa;subst aa;refine oO ?_;refine Af (Ad [(0,55)] E F233 (Vj res gn) E Y E ⟨.inr E,Y⟩) E E ?_;refine Aj 55 E ?_;exact gE
 rw[zD (by simpa using h)]at aa;clear h;refine oO ?_;constructor<;>intro h
 ·rw[zG (by simpa using h)]at aa;subst aa;refine gF ?_;refine c0 (Aid t q.frame.src (-1-q.peer) now hl ht.mac q_) F294 ?_;exact gE
 rw[zD (by simpa using h)]at aa;subst aa;refine oO ?_;refine c0 (Aid t q.frame.src q.from_ now hl ht.mac q_) F294 ?_;exact gE
def Axo(k p d:Int):OutM:=⟨k,p,d,[],noF,0⟩
def A5p(k p d:Int)(b:List UInt8)(e:Int):Qt (Axo k p d) (b,e)=if e≠0 then ⟨5,p,d,[],noF,e⟩ else ⟨k,p,d,b,noF,0⟩:=rfl
def Yl(l:List OutM)(k p d:Int)(b:List UInt8)(e:Int)(hl:l.length<100000000000):Sq 223 [Hy (Axo k p d),.sl 1 Al b,Aa e,.ptr 0 0] [(0,.box [.osl 1]),(1,.row 9 Hy l)] (.tup []) [(0,.box [.osl 2]),(1,.non),(2,.row 9 Hy (l++[Qt (Axo k p d) (b,e)]))]:=cT F223 ntmps223 λF hF=>by
 have aa:=A5p k p d b e;generalize Qt (Axo k p d) (b,e)=res at *
 conv=>whnf
 constructor<;>intro h
 ·rw[zG (by simpa using h)]at aa;refine oO ?_;refine A4n 17 [Hy ⟨5,p,d,[],noF,e⟩] E (.cons (.agg vL) .nil) E ?_;refine Af (Ag Γ.toTy 18 E E E E E (.row E) (.lit (e:=Hy) (l:=[res]) E (by rw[aa];rfl)) j_ (by simp;omega) (by simp;omega)) E E ?_;refine oO ?_;exact A6 E .nil [(2,18)] [(0,.box [.osl 2]),(1,.non),(2,.row 9 Hy (l++[res]))] (λ_ h=>h) E E kU
 ·rw[zD (by simpa using h)]at aa;refine oO ?_;refine Af (Ag Γ.toTy 18 E E E E E (.row E) (.lit (e:=Hy) (l:=[res]) E (by rw[aa];rfl)) j_ (by simp;omega) (by simp;omega)) E E ?_;refine oO ?_;exact A6 E .nil [(2,18)] [(0,.box [.osl 2]),(1,.non),(2,.row 9 Hy (l++[res]))] (λ_ h=>h) E E kU
def A53{t:List EntryM}(ht:TabOK t)(m:Nat):I64 (findE t m).1:=by
 unfold findE;split
 ·unfold I64;dsimp only;omega
 ·rename_i h;have ab:It t m<t.length:=Iy _ _;have hk:(It t m).toNat<t.length:=by omega
  dsimp only;rw[zT hk];exact ht.wh _ (zI hk)
def Mh{n:Net}{fw:List Bool}{fr:Int}{l:List Int}{p:Int}(h:p∈Hx n fw fr l):p∈l:=(tR.1 h).1
def Alx{n:Net}(hb:Ac n=true)(fw:List Bool)(t:List EntryM)(dom fr:Int)(m:Nat):∀p∈(D6 n fw t dom fr m).1,0≤p∧p<n.ports.length:=by
 intro p hp;unfold D6 at hp;split at hp
 ·cases hp
 split at hp
 ·exact Ia p (Mh hp)
 split at hp
 ·rename_i h1;obtain ⟨xn,ly⟩:=Yv hb dom m;have h2:=xn.2 h1;have h3:=Aby hb dom m h2;have h4:=yB.1 (Mh hp);rw[h4,←ly h1];exact⟨h2,h3⟩
 split at hp
 ·rename_i h1;rw[yB.1 (Mh hp)];exact Ia _ (inB_mem.1 h1.2.2)
 split at hp
 ·cases hp
 ·exact Ia p (Mh hp)
def Akz(n:Net)(fw:List Bool)(fr:Int)(l:List Int):(Hx n fw fr l).length≤l.length:=uT _ _
def Ak1{n:Net}(hn:n.Fin)(dom fr:Int)(hd:Ah dom n.domains.length=true):(peersOut n dom fr).length<2147483648:=by
 unfold peersOut;split
 ·decide
 ·have h:=K2 hd;rw[Ai h.2];exact hn.peers _ (zI h.2)
def Agm{n:Net}(hn:n.Fin)(fw:List Bool)(t:List EntryM)(dom fr:Int)(m:Nat):(D6 n fw t dom fr m).1.length<2147483648∧(D6 n fw t dom fr m).2.1.length<2147483648:=by
 have h1:=Aod n dom;have h2:=hn.ports;unfold An at h2;have h3:=λl=>Akz n fw fr l
 unfold D6;split
 ·decide
 rename_i h;have hd:Ah dom n.domains.length=true:=by
  cases hx:Ah dom n.domains.length
  ·exact zY (by rw[Tn,hx];rfl) h
  ·rfl
 have h4:=Ak1 hn dom fr hd;split
 ·have:=h3 (Bk n dom);exact⟨by dsimp only;omega,h4⟩
 split
 ·have:=h3 [(nth n.statics (E2 n dom m)).port];simp only[yL,xM]at this;exact⟨by dsimp only;omega,by show (0:Nat)<2147483648;decide⟩
 split
 ·have:=h3 [(findE t m).1];simp only[yL,xM]at this;exact⟨by dsimp only;omega,by show (0:Nat)<2147483648;decide⟩
 split
 ·refine⟨by show (0:Nat)<2147483648;decide,?_⟩;dsimp only;split<;>simp
 ·have:=h3 (Bk n dom);exact⟨by dsimp only;omega,h4⟩
def Aqh(n:Net)(hn:n.Fin)(a8:n.Num)(fw:List Bool)(t:List EntryM)(dom:Int)(q:QueuedM)(now:Int)(ht:TabOK t)(hq:QueuedOK q):Sp 151 [Am n,.sl 1 Ab fw,.sl 3 A7 t,Aa dom,Cb q,Aa now] (.tup [.sl 3 A7 (bridgeT n fw t dom q now).1,.sl 9 Hy (bridgeT n fw t dom q now).2.1,Aa (bridgeT n fw t dom q now).2.2]):=cT F151 ntmps151 λF hF=>by
 have aa:=bridgeT.eq_1 n fw t dom q now;generalize bridgeT n fw t dom q now=res at *;have qf:=floodS n hn fw dom q.from_;have qr:=Vx t ht.short ht.mac
 conv=>whnf
 refine Bf 6 8 (Am n) E E E ?_;refine Bf 10 7 (Cb q) E E E ?_;refine oO ?_;cases bz:Tn n fw dom q.from_
 ·rw[zG (.inl bz)]at aa;subst aa;rw[floodT,zG bz]at qf;refine c0 qf F218 ?_
  (refine oT ?_;refine bT ?_)
  refine Ak 13 [.sl 9 Hy []] E (.cons .nil .nil) ?_;refine Au 12 3 A7 E ?_;exact dN
 rw[floodT,zD (by rw[bz];decide)]at qf;refine c0 qf F218 ?_;refine oF ?_;refine c0 qr F219 ?_;cases iq:tableB t
 ·rw[zG (.inr iq)]at aa;subst aa;refine oT ?_;refine Ak 13 [.sl 9 Hy []] E (.cons .nil .nil) ?_;refine Au 12 3 A7 E ?_;exact dN
 rw[zD (by simp[bz,iq])]at aa;have ql:=Al5 t q now ht hq;have hu:=V5 ht hq now;generalize learnQ t q now=u at *;have qro:=Amg n hn a8 dom q.frame.dst;generalize routerT n dom q.frame.dst=ro at *;obtain ⟨irb,ok⟩:=ro;dsimp only at aa qro;have hbn:Ac n=true:=by
  simp only[Tn,zE]at bz;exact bz.1.2
 refine oF ?_;refine c0 ql F220 ?_;refine oO ?_;refine c0 qro F221 ?_;cases ok;rotate_left
 ·rw[zG rfl]at aa;have qh:=Aw9 n hn a8 irb q.frame hq.frame;generalize hopT n irb q.frame=hp at *;obtain ⟨to,g,e⟩:=hp;dsimp only at aa qh;refine oT ?_;refine c0 qh F222 ?_;refine oO ?_;constructor<;>intro h
  ·rw[zG (by simpa using h)]at aa;subst aa;refine oO ?_;refine Ak 13 [.sl 9 Hy []] E (.cons .nil .nil) ?_;exact dN
  ·rw[zD (by simpa using h)]at aa;subst aa;refine oO ?_;refine kW ?_;refine A4n 84 [Hy ⟨4,0,to,[],g,0⟩] E (.cons (.agg vL) .nil) E ?_;refine Vs 84 Hy [⟨4,0,to,[],g,0⟩] E E ?_;refine Aj 84 E ?_;exact dN
 rw[zD j_]at aa;have hs:=hq.frame.src;have jc:=hq.frame.dst;have mf:=A53 hu q.frame.dst;have qd:=A6b n hn fw u dom q.from_ q.frame.dst hu.short (by unfold I64 at *;omega) q_;have po:=Alx hbn fw u dom q.from_ q.frame.dst;have m5:=Agm hn fw u dom q.from_ q.frame.dst;generalize D6 n fw u dom q.from_ q.frame.dst=dc at *;obtain ⟨ports,peers,e0⟩:=dc;dsimp only at aa qd po m5;obtain ⟨vr,o8⟩:=m5;refine oF ?_;refine c0 qd F224 ?_;refine oO ?_;refine Q9 13 0 1000 9 Hy E E E E ?_;refine A5 ports.length (λj=>[(3,Aa dom),(6,.ref 8 (Am n) 0),(10,.ref 7 (Cb q) 0),(12,.sl 3 A7 u),(13,.ptr 13 0),(23,.clo (.func 223) [] [.ptr 13 0]),(25,.sl 1 Aa peers),(100,.sl 1 Aa ports),(101,Aa ports.length),(102,Aa j)])
  (λj=>[(13,.box [.osl 1000]),(1000,.row 9 Hy ((ports.take j).map (Aa3 n dom q.frame)))]) [(13,13),(1000,1000)] kU ?_
 intro j hj;refine oO ?_;constructor<;>intro h
 ·have ab:j<ports.length:=qA h;have ai:(j:Int).toNat<ports.length:=by simpa using ab
  obtain ⟨p,hp⟩:∃p,ports[j]=p:=⟨_,rfl⟩
  have e1:ports[(j:Int).toNat]'ai=p:=hp;have hs:(ports.take (j+1)).map (Aa3 n dom q.frame)=(ports.take j).map (Aa3 n dom q.frame)++[Aa3 n dom q.frame p]:=by
   rw[yD ab,wU,hp];rfl
  have ku:((ports.take j).map (Aa3 n dom q.frame)).length=j:=by rw[xF,yA];omega
  have s9:=po p (by rw[←hp];exact zI ab);have x8:p.toNat<n.ports.length:=by omega
  have ql:=A2t n hn p dom q.frame hq.frame;have hop:Aa3 n dom q.frame p=Qt (Axo (if (nth n.ports p).link<0 then 1 else 2) p 0) ((leaveT n p dom q.frame).1,(leaveT n p dom q.frame).2):=rfl;rw[hop,Ai x8]at hs;clear hop;obtain ⟨acc,gy⟩:∃acc,(ports.take j).map (Aa3 n dom q.frame)=acc:=⟨_,rfl⟩
  rw[gy]at hs ku⊢;obtain ⟨x,hx⟩:∃x,n.ports[p.toNat]'x8=x:=⟨_,rfl⟩
  rw[hx]at hs;clear h;refine oO ?_;refine⟨E,by omega,ai,?_⟩;rw[e1]
  conv=>whnf
  refine⟨E,s9.1,x8,?_⟩;rw[hx]
  conv=>whnf
  constructor<;>intro h
  ·rw[zD (qA h)]at hs;refine oO ?_;refine c0 ql F225 ?_;refine oO ?_;refine Af (Ov [(0,13),(1,1000),(2,1001)] [] (Aq E E F223) (Yl acc 2 p 0 (leaveT n p dom q.frame).1 (leaveT n p dom q.frame).2 q_) (.cons (.agg vL) vL) ⟨E,E,Y⟩ E ⟨.inl E,.inl E,.inr E,Y⟩ E) E E ?_;refine gF ?_;exact Ay [(13,13),(1000,1001)] ab ⟨⟨E,E,E,E,E,E,E,E,E,E,E,E,E,E,E,E,E,E,E,E,Y⟩,⟨.inl E,E,.inl (zH (Ob.row 9 Hy) hs),E,Y⟩,E,E⟩
  ·rw[zG (qB h)]at hs;refine oO ?_;refine c0 ql F225 ?_;refine oO ?_;refine Af (Ov [(0,13),(1,1000),(2,1001)] [] (Aq E E F223) (Yl acc 1 p 0 (leaveT n p dom q.frame).1 (leaveT n p dom q.frame).2 q_) (.cons (.agg vL) vL) ⟨E,E,Y⟩ E ⟨.inl E,.inl E,.inr E,Y⟩ E) E E ?_;refine gF ?_;exact Ay [(13,13),(1000,1001)] ab ⟨⟨E,E,E,E,E,E,E,E,E,E,E,E,E,E,E,E,E,E,E,E,Y⟩,⟨.inl E,E,.inl (zH (Ob.row 9 Hy) hs),E,Y⟩,E,E⟩
 have gg:j=ports.length:=qB h;subst gg;clear h;rw[yN];obtain ⟨kh,tr⟩:∃kh,ports.map (Aa3 n dom q.frame)=kh:=⟨_,rfl⟩
 have hal0:kh.length=ports.length:=by rw[←tr,xF]
 rw[tr]at aa⊢;refine oO ?_;refine A5 peers.length (λj=>[(3,Aa dom),(6,.ref 8 (Am n) 0),(10,.ref 7 (Cb q) 0),(12,.sl 3 A7 u),(13,.ptr 13 0),(23,.clo (.func 223) [] [.ptr 13 0]),(130,.sl 1 Aa peers),(131,Aa peers.length),(132,Aa j)])
  (λj=>[(13,.box [.osl 1000]),(1000,.row 9 Hy (kh++(peers.take j).map (Ae9 n dom q.frame)))]) [(13,13),(1000,1000)] ⟨⟨rfl,rfl,rfl,rfl,rfl,rfl,rfl,rfl,rfl,rfl,rfl,rfl,rfl,rfl,rfl,rfl,rfl,rfl,trivial⟩,⟨.inl rfl,rfl,.inl (zH (Ob.row 9 Hy) y_),rfl,trivial⟩,rfl,rfl⟩ ?_
 intro j hj;refine oO ?_;constructor<;>intro h
 ·have ab:j<peers.length:=qA h;have ai:(j:Int).toNat<peers.length:=by simpa using ab
  obtain ⟨p,hp⟩:∃p,peers[j]=p:=⟨_,rfl⟩
  have e1:peers[(j:Int).toNat]'ai=p:=hp;have hs:kh++(peers.take (j+1)).map (Ae9 n dom q.frame)=(kh++(peers.take j).map (Ae9 n dom q.frame))++[Ae9 n dom q.frame p]:=by
   rw[yD ab,wU,hp,xJ];rfl
  have ku:(kh++(peers.take j).map (Ae9 n dom q.frame)).length≤ports.length+j:=by rw[zW,xF,yA];omega
  have ql:=As5 n hn a8 dom p q.frame hq.frame;have hop:Ae9 n dom q.frame p=Qt (Axo 3 0 p) ((meshT n dom p q.frame).1,(meshT n dom p q.frame).2):=rfl;rw[hop]at hs;clear hop;obtain ⟨acc,gy⟩:∃acc,kh++(peers.take j).map (Ae9 n dom q.frame)=acc:=⟨_,rfl⟩
  rw[gy]at hs ku⊢;clear h;refine oO ?_;refine⟨E,by omega,ai,?_⟩;rw[e1]
  conv=>whnf
  refine c0 ql F226 ?_;refine oO ?_;refine Af (Ov [(0,13),(1,1000),(2,1001)] [] (Aq E E F223) (Yl acc 3 0 p (meshT n dom p q.frame).1 (meshT n dom p q.frame).2 q_) (.cons (.agg vL) vL) ⟨E,E,Y⟩ E ⟨.inl E,.inl E,.inr E,Y⟩ E) E E ?_;refine gF ?_;exact Ay [(13,13),(1000,1001)] ab ⟨⟨E,E,E,E,E,E,E,E,E,E,E,E,E,E,E,E,E,E,Y⟩,⟨.inl E,E,.inl (zH (Ob.row 9 Hy) hs),E,Y⟩,E,E⟩
 have gg:j=peers.length:=qB h;subst gg;clear h;rw[yN];subst aa;refine oO ?_;refine kW ?_;refine Aj 1000 E ?_;exact dN
def Agx(m:Nat)(h:m<4294967296):bits .and .u64 (m:Int) 4294967295=(m:Int):=by
 have:=bits_and_u64_nat m 4294967295 q_ j_;rw[show ((4294967295:Nat):Int)=4294967295 from rfl]at this;rw[this];have h2:=uE m 32;rw[show 2^32-1=4294967295 from rfl,show 2^32=4294967296 from rfl]at h2;rw[h2,xH h]
def Aru(m:Nat)(h:m<4294967296):(m:Int).fdiv (2^(min (Int.toNat 32) IntKind.u64.bits))=0:=by
 show (m:Int).fdiv 4294967296=0;rw[xW _ j_];omega
def mul64S(m:Nat)(h:m<4294967296):Sp 138 [A2 1,A2 m] (.tup [A2 0,A2 m]):=cT F138 ntmps138 λF hF=>by
 have e0:bits .and .u64 1 4294967295=1:=Agx 1 j_;have e1:(1:Int).fdiv (2^(min (Int.toNat 32) IntKind.u64.bits))=0:=Aru 1 j_;have e2:=Agx m h;have e3:=Aru m h;have w1:IntKind.u64.wrap (1*(m:Int))=m:=by rw[IntKind.wrap_u64];omega
 have w0:IntKind.u64.wrap (0*(m:Int))=0:=by rw[IntKind.wrap_u64];omega
 have z0:IntKind.u64.wrap (0+0)=0:=rfl;have a0:bits .and .u64 0 4294967295=0:=Agx 0 j_;have s0:(0:Int).fdiv (2^(min (Int.toNat 32) IntKind.u64.bits))=0:=Aru 0 j_
 conv=>whnf
 rw[e0];refine⟨by decide,?_⟩;rw[e1]
 conv=>whnf
 rw[e2];refine⟨by decide,?_⟩;rw[e3]
 conv=>whnf
 rw[w1,w0];refine⟨by decide,?_⟩;rw[e3]
 conv=>whnf
 rw[z0,a0];refine⟨by decide,?_⟩;rw[s0]
 conv=>whnf
 refine⟨by decide,?_⟩
 conv=>whnf
 refine At E (.cons .tmp (.cons .tmp .nil)) ?_ E;refine zH (λz:Int=>SV.tup [A2 0,A2 z]) ?_;exact w1.symm
def mulS(m:Nat)(h:m<4294967296):Sp 80 [A2 1,A2 m] (.tup [A2 0,A2 m]):=cT F80 ntmps80 λF hF=>by
 ((conv=>whnf);refine aF ?_;refine rg ?_;conv=>whnf)
 refine c0 (mul64S m h) F138 ?_;exact gE
def Mt(m k:Nat):List Bool:=List.replicate k true++List.replicate (m-k) false
def Um(m k:Nat)(h:k≤m):(Mt m k).length=m:=by simp[Mt];omega
def A00(m:Nat):Mt m m=List.replicate m true:=by simp[Mt]
def Axc(m k c:Nat)(_h:k≤m)(hc:c=min k (m-k)):(Mt m k).take k++(Mt m k).take c++(Mt m k).drop (k+c)=Mt m (k+c):=by
 have e1:(Mt m k).take k=List.replicate k true:=by
  rw[Mt,uJ y_];simp
 have e2:(Mt m k).take c=List.replicate c true:=by
  rw[Mt,uJ (by simp;omega)];simp;omega
 have e3:(Mt m k).drop (k+c)=List.replicate (m-(k+c)) false:=by
  rw[Mt,List.drop_append,uQ y_,wC];simp;omega
 rw[e1,e2,e3,Mt,List.replicate_append_replicate]
def Au3(m:Nat)(h:m<2147483648):Sp 28 [.sl 1 Ab [true],Aa m] (.sl 1 Ab (List.replicate m true)):=cT F28 ntmps28 λF hF=>by
 have hw:IntKind.u64.wrap (m:Int)=m:=by rw[IntKind.wrap_u64];omega
 have zt:IntKind.i64.wrap (m:Int)=m:=by rw[IntKind.wrap_i64];omega
 have q:=mulS m q_;rw[←hw]at q
 ((conv=>whnf);refine aF ?_;refine rg ?_;conv=>whnf)
 refine c0 q F80 ?_;rw[hw];refine oF ?_;refine⟨λh1=>zY (zK h1) q_,λ_=>?_⟩;refine oO ?_;rw[zt];refine Af (Ce Γ.toTy (d:=30) (n:=m) Ab false E E E E E E E E q_ q_ E E E) E E ?_;refine oO ?_;refine Af (Aba Γ.toTy (l:=List.replicate m false) (m:=[true]) E E E E E .sl) E E ?_;have e0:[true].take (List.replicate m false).length++(List.replicate m false).drop [true].length=Mt m (min 1 m):=by
  cases m with
  |zero=>rfl
  |succ m=>simp[Mt,Nat.min_eq_left,List.replicate_succ]
 have e1:min [true].length (List.replicate m false).length=min 1 m:=by simp
 rw[e0,e1];refine oO ?_;refine C3 (λk:Nat=>min 1 m≤k∧k≤m) (λk=>[(7,.osl 30),(8,Aa k)]) (λk=>[(30,.row 1 Ab (Mt m k))]) (λk=>m-k) (min 1 m) [] q_ kU ?_;intro k hk;have hl:=Um m k hk.2;refine oO ?_;constructor<;>intro h1
 ·have ab:k<m:=by have:=zK h1;rw[hl]at this;omega
  clear h1;have fg:1≤k:=by omega
  have ag:Mt m k≠[]:=λe=>by rw[e]at hl;simp at hl;omega
  refine Av9 30 [7] E ag (λi hi=>by simp at hi;subst hi;rfl) ?_;intro b cap hc;rw[hl]at hc⊢;have j5:¬cap=k:=by omega
  have tc:=Axc m k (min k (m-k)) hk.2 rfl;refine oO ?_;refine Bw (Ed (lo:=k) (hi:=m) Γ.toTy E E E E (.inr ⟨_,_,E,E⟩) (.inl ⟨E,E⟩) q_ q_) z_ E ?_;refine oD ?_;refine Bw (Ed (lo:=0) (hi:=k) Γ.toTy E E E E (.inl ⟨E,E⟩) (.inr ⟨_,_,E,E⟩) q_ q_) z_ E ?_;refine oD ?_;refine Bw (Ahx Γ.toTy 30 (lo:=k) (k:=k) E E E E (by rw[zD j5,Nat.mul_one]) E (by rw[zD q_,Nat.zero_mul]) E hl q_ q_) z_ E ?_;refine oD ?_;refine iW ?_;refine kW ?_;refine Ad8 30 31 [7] m E E (by rw[tc,Um m _ q_];exact yG _) (λi hi=>by simp at hi;subst hi;rfl) ?_;have gv:((Mt m k).take k++(Mt m k).take (min k (m-k))++(Mt m k).drop (k+min k (m-k))).take m=Mt m (k+min k (m-k)):=by
   rw[tc,xK (by rw[Um m _ q_];exact yG _)]
  exact Be (k+min k (m-k)) [(30,31)] q_ q_ ⟨⟨E,E,E,E,Y⟩,⟨.inl (zH (Ob.row 1 Ab) gv.symm),E,Y⟩,E,E⟩
 ·have hkm:k=m:=by have:=zQ h1;rw[hl]at this;omega
  subst hkm;rw[A00];refine oO ?_;refine Aj 30 E ?_;exact dN
end Go.Sy.YticmobkdaneelaaGreatDoor
