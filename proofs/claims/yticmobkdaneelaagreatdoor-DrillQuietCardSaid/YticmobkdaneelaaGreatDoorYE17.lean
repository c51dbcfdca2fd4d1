/- Parts of a proof. -/
import Derived.Test.YticmobkdaneelaaGreatDoorYE15
set_option linter.all false
set_option linter.unusedVariables false
set_option linter.unusedSimpArgs false
set_option linter.deprecated false
namespace Go.Sy.YticmobkdaneelaaGreatDoor
open Go.Proofs Go.Proofs.Tryz
attribute [local irreducible] Go.Sy.G Go.Sy.DR
set_option maxRecDepth 100000
set_option maxHeartbeats 4000000
def M3(one:ByteArray→Int×Bool)(out:List Int)(s:ByteArray)(b:Bool):List Int×Bool:=if b=true then Iw one out (Ct 44 s) else (out,true)
def A2y{c:UInt8}:∀{l:List UInt8},0≤Lib.indexByte l c→c∈l
 |[],h=>by simp[Lib.indexByte]at h
 |b::l,h=>by
  unfold Lib.indexByte at h;by_cases hb:(b==c)=true
  ·simp at hb;simp[hb]
  ·rw[zD hb]at h;by_cases h1:(Lib.indexByte l c == -1)=true
   ·rw[zG h1]at h;omega
   ·rw[zD h1]at h;have:=Kk l c;have h2:Lib.indexByte l c≠-1:=by simpa using h1
    exact List.mem_cons_of_mem _ (A2y q_)
def Aft(one:ByteArray→Int×Bool)(out:List Int)(s:ByteArray):M3 one out s true=(if (one (cutT 44 s).1).2=false∨out.length=16∨(∃x,out.getLast? = some x∧(one (cutT 44 s).1).1≤x) then ([],false) else M3 one (out++[(one (cutT 44 s).1).1]) (cutT 44 s).2.1 (cutT 44 s).2.2):=by
 rw[M3,zG rfl,Aig];have bg:s.data.toList.length=s.size:=rfl;have tk:∀i,s.extract 0 i=mkT (s.data.toList.take i):=λi=>by rw[←Kf s,Eu,Kg];simp
 by_cases h:0≤Lib.indexByte s.data.toList 44
 ·have hm:=A2y h;have e2:s.extract (Ls 44 s.data.toList+1) s.size=mkT (s.data.toList.drop (Ls 44 s.data.toList+1)):=by
   have:=Eu s.data.toList (Ls 44 s.data.toList+1) s.size;rw[Kf]at this;rw[this,←bg,yN]
  rw[cutT,zG h,Se 44 _ _ hm,wC,Iw,tk,e2];dsimp only;rw[M3,zG rfl,Aig,Kg]
 ·have hm:(44:UInt8)∉s.data.toList:=λhh=>h (J2 hh).1
  rw[cutT,zD h,Sf 44 _ _ hm,wC,Kf,Iw];simp only[M3,zD (show ¬(false=true) by simp),Iw]
def Ajs(s:ByteArray):(cutT 44 s).1.size≤s.size∧(cutT 44 s).2.1.size≤s.size∧((cutT 44 s).2.2=true→(cutT 44 s).2.1.size<s.size):=by
 have bg:s.data.toList.length=s.size:=rfl;have ab:=Tb s.data.toList 44;have ex:∀i j,(s.extract i j).size=((s.data.toList.take j).drop i).length:=λi j=>by
  have:=Eu s.data.toList i j;rw[Kf]at this;rw[this,Ip]
 rw[cutT];split
 ·rename_i h;refine⟨?_,?_,λ_=>?_⟩
  ·rw[ex,yO,yA];omega
  ·rw[ex,yO,yA];omega
  ·rw[ex,yO,yA];have:Ls 44 s.data.toList+1≤s.data.toList.length:=by unfold Ls;omega
   omega
 ·exact⟨yG _,vA _,λe=>by cases e⟩
def An6(one:ByteArray→Int×Bool)(f:FuncId)(first cap:List SV)(hc:(SV.clo (.func f) first cap).inn []=true)(hr:∀ρ:Nat→Nat,(SV.clo (.func f) first cap).ren ρ=.clo (.func f) first cap)(s0:ByteArray)(hs:s0.size≤10000)(hf:∀p:ByteArray,p.size≤s0.size→H3 prog f (first++[Aw p]++cap) (.tup [Aa (one p).1,Ab (one p).2])):Sp 174 [Aw s0,.clo (.func f) first cap] (.tup [.sl 1 Aa (Ie one s0).1,Ab (Ie one s0).2]):=cT F174 ntmps174 λF hF=>by
 have aa:Ie one s0=M3 one [] s0 true:=rfl;generalize Ie one s0=res at *;have fc:(SV.clo (.func f) first cap).inn [1000]=true:=Ta _ hc;have az:∀y:SV,y.inn []=true→Cd [] (first++[y]++cap)=true:=λy hy=>by
  simp only[SV.inn,zE]at hc;rw[Is,Is,hc.1,hc.2];simp[Cd,hy]
 refine T ?_;refine B7 6 1000 1 Aa E E ?_;refine T ?_;refine C3 (λx:ByteArray×Bool×List Int=>res=M3 one x.2.2 x.1 x.2.1∧x.1.size≤s0.size∧x.2.2.length≤16) (λx=>[(0,Aw x.1),(1,.clo (.func f) first cap),(6,.osl 1000),(7,Ab x.2.1)]) (λx=>[(1000,.row 1 Aa x.2.2)]) (λx=>if x.2.1=true then x.1.size+1 else 0) (s0,true,[]) [] ⟨aa,yG _,by simp⟩ ⟨⟨E,E,Bj _,fc,E,E,E,E,Y⟩,⟨.inl E,E,Y⟩,E,E⟩ ?_;rintro ⟨s,b,out⟩ ⟨hI,bg,iv⟩;dsimp only at hI bg iv⊢;cases b with
 |false=>
  rw[M3,zD y_]at hI;subst hI;refine T ?_;refine Aj 1000 E ?_;exact gA
 |true=>
  have q1:=Adw s 44 q_;have jh:=Ajs s;rw[Aft]at hI;generalize cutT 44 s=ct at *;obtain ⟨p,r,m⟩:=ct;dsimp only at hI jh q1;have q2:=hf p q_;generalize one p=op at *;obtain ⟨v,ok⟩:=op;dsimp only at hI q2;refine gD q1 F60 ?_;refine D8 q2 E E E (by simp only[az (Aw p) E];rfl) E E ?_;cases ok with
  |false=>
   rw[zG (.inl rfl)]at hI;subst hI;refine T ?_;refine Au 4 1 Aa E ?_;exact gA
  |true=>
   by_cases c1:out.length=16
   ·rw[zG (.inr (.inl c1))]at hI;subst hI;refine T ?_;refine Au 4 1 Aa E ?_;exact gA
   ·by_cases c2:out.length=0
    ·have hn:out=[]:=zZ c2;rw[zD (by rw[hn];simp)]at hI;refine T ?_;refine X (Ag Γ.toTy 49 E E E E E (.row E) (.lit (e:=Aa) (l:=[v]) E E) y_ (by simp;omega) (by simp;omega)) ?_;refine Be (r,m,out++[v]) [(1000,49)] ⟨hI,by dsimp only;omega,by simp;omega⟩ (by
      have h3:=jh.2.2;cases m
      ·simp
      ·have:=h3 rfl;simp;omega) ⟨⟨rfl,rfl,hr _,fc,rfl,rfl,rfl,rfl,trivial⟩,⟨.inl rfl,rfl,trivial⟩,rfl,rfl⟩
    ·have hk:((out.length:Int)-1).toNat<out.length:=by omega
     have es:out.getLast? = some (out[((out.length:Int)-1).toNat]'hk):=by
      rw[List.getLast?_eq_getElem?,zT q_];congr 1;have:out.length-1=((out.length:Int)-1).toNat:=by omega
      simp only[this]
     have f2:decide ((out.length:Int)>0)=true:=zO q_;by_cases c3:v≤out[((out.length:Int)-1).toNat]'hk
     ·have f3:decide (out[((out.length:Int)-1).toNat]'hk≥v)=true:=zO c3;rw[zG (.inr (.inr ⟨_,es,c3⟩))]at hI;subst hI;refine T ?_;refine Au 4 1 Aa E ?_;exact gA
     ·have f3:decide (out[((out.length:Int)-1).toNat]'hk≥v)=false:=zL c3;rw[zD (by
       rintro (hh|hh|⟨x,hx,hh⟩)
       ·cases hh
       ·exact c1 hh
       ·rw[es]at hx;simp only[Option.some.injEq]at hx;rw[← hx]at hh;exact c3 hh)]at hI
      refine T ?_;refine X (Ag Γ.toTy 49 E E E E E (.row E) (.lit (e:=Aa) (l:=[v]) E E) y_ (by simp;omega) (by simp;omega)) ?_;refine Be (r,m,out++[v]) [(1000,49)] ⟨hI,by dsimp only;omega,by simp;omega⟩ (by
      have h3:=jh.2.2;cases m
      ·simp
      ·have:=h3 rfl;simp;omega) ⟨⟨rfl,rfl,hr _,fc,rfl,rfl,rfl,rfl,trivial⟩,⟨.inl rfl,rfl,trivial⟩,rfl,rfl⟩
def An4(one:ByteArray→Int×Bool)(f:FuncId)(first cap:List SV)(hc:(SV.clo (.func f) first cap).inn []=true)(hr:∀ρ:Nat→Nat,(SV.clo (.func f) first cap).ren ρ=.clo (.func f) first cap)(s0:ByteArray)(hs:s0.size≤10000)(hf:∀p:ByteArray,p.size≤s0.size→H3 prog f (first++[Aw p]++cap) (.tup [Bb (one p).1,Ab (one p).2])):Sp 128 [Aw s0,.clo (.func f) first cap] (.tup [.sl 1 Bb (Ie one s0).1,Ab (Ie one s0).2]):=cT F128 ntmps128 λF hF=>by
 have aa:Ie one s0=M3 one [] s0 true:=rfl;generalize Ie one s0=res at *;have fc:(SV.clo (.func f) first cap).inn [1000]=true:=Ta _ hc;have az:∀y:SV,y.inn []=true→Cd [] (first++[y]++cap)=true:=λy hy=>by
  simp only[SV.inn,zE]at hc;rw[Is,Is,hc.1,hc.2];simp[Cd,hy]
 refine T ?_;refine B7 6 1000 1 Bb E E ?_;refine T ?_;refine C3 (λx:ByteArray×Bool×List Int=>res=M3 one x.2.2 x.1 x.2.1∧x.1.size≤s0.size∧x.2.2.length≤16) (λx=>[(0,Aw x.1),(1,.clo (.func f) first cap),(6,.osl 1000),(7,Ab x.2.1)]) (λx=>[(1000,.row 1 Bb x.2.2)]) (λx=>if x.2.1=true then x.1.size+1 else 0) (s0,true,[]) [] ⟨aa,yG _,by simp⟩ ⟨⟨E,E,Bj _,fc,E,E,E,E,Y⟩,⟨.inl E,E,Y⟩,E,E⟩ ?_;rintro ⟨s,b,out⟩ ⟨hI,bg,iv⟩;dsimp only at hI bg iv⊢;cases b with
 |false=>
  rw[M3,zD y_]at hI;subst hI;refine T ?_;refine Aj 1000 E ?_;exact gA
 |true=>
  have q1:=Adw s 44 q_;have jh:=Ajs s;rw[Aft]at hI;generalize cutT 44 s=ct at *;obtain ⟨p,r,m⟩:=ct;dsimp only at hI jh q1;have q2:=hf p q_;generalize one p=op at *;obtain ⟨v,ok⟩:=op;dsimp only at hI q2;refine gD q1 F60 ?_;refine D8 q2 E E E (by simp only[az (Aw p) E];rfl) E E ?_;cases ok with
  |false=>
   rw[zG (.inl rfl)]at hI;subst hI;refine T ?_;refine Au 4 1 Bb E ?_;exact gA
  |true=>
   by_cases c1:out.length=16
   ·rw[zG (.inr (.inl c1))]at hI;subst hI;refine T ?_;refine Au 4 1 Bb E ?_;exact gA
   ·by_cases c2:out.length=0
    ·have hn:out=[]:=zZ c2;rw[zD (by rw[hn];simp)]at hI;refine T ?_;refine X (Ag Γ.toTy 49 E E E E E (.row E) (.lit (e:=Bb) (l:=[v]) E E) y_ (by simp;omega) (by simp;omega)) ?_;refine Be (r,m,out++[v]) [(1000,49)] ⟨hI,by dsimp only;omega,by simp;omega⟩ (by
      have h3:=jh.2.2;cases m
      ·simp
      ·have:=h3 rfl;simp;omega) ⟨⟨rfl,rfl,hr _,fc,rfl,rfl,rfl,rfl,trivial⟩,⟨.inl rfl,rfl,trivial⟩,rfl,rfl⟩
    ·have hk:((out.length:Int)-1).toNat<out.length:=by omega
     have es:out.getLast? = some (out[((out.length:Int)-1).toNat]'hk):=by
      rw[List.getLast?_eq_getElem?,zT q_];congr 1;have:out.length-1=((out.length:Int)-1).toNat:=by omega
      simp only[this]
     have f2:decide ((out.length:Int)>0)=true:=zO q_;by_cases c3:v≤out[((out.length:Int)-1).toNat]'hk
     ·have f3:decide (out[((out.length:Int)-1).toNat]'hk≥v)=true:=zO c3;rw[zG (.inr (.inr ⟨_,es,c3⟩))]at hI;subst hI;refine T ?_;refine Au 4 1 Bb E ?_;exact gA
     ·have f3:decide (out[((out.length:Int)-1).toNat]'hk≥v)=false:=zL c3;rw[zD (by
       rintro (hh|hh|⟨x,hx,hh⟩)
       ·cases hh
       ·exact c1 hh
       ·rw[es]at hx;simp only[Option.some.injEq]at hx;rw[← hx]at hh;exact c3 hh)]at hI
      refine T ?_;refine X (Ag Γ.toTy 49 E E E E E (.row E) (.lit (e:=Bb) (l:=[v]) E E) y_ (by simp;omega) (by simp;omega)) ?_;refine Be (r,m,out++[v]) [(1000,49)] ⟨hI,by dsimp only;omega,by simp;omega⟩ (by
      have h3:=jh.2.2;cases m
      ·simp
      ·have:=h3 rfl;simp;omega) ⟨⟨rfl,rfl,hr _,fc,rfl,rfl,rfl,rfl,trivial⟩,⟨.inl rfl,rfl,trivial⟩,rfl,rfl⟩
def Ak5(p:ByteArray)(lo hi:Int):Sp 175 [Aw p,.ref 1 (Aa lo) 0,.ref 1 (Aa hi) 0] (.tup [Aa (numR p lo hi).1,Ab (numR p lo hi).2]):=cT F175 ntmps175 λF hF=>by
 have q:=An5 p lo hi;generalize numR p lo hi=r at *;refine gD q F122 ?_;exact D
def Ak4(s:ByteArray)(hi:Int)(hs:s.size≤10000):Sp 129 [Aw s,Aa 1,Aa hi] (.tup [.sl 1 Aa (Ie (λp=>numR p 1 hi) s).1,Ab (Ie (λp=>numR p 1 hi) s).2]):=cT F129 ntmps129 λF hF=>by
 have q:=An6 (λp=>numR p 1 hi) 175 [] [.ref 1 (Aa 1) 0,.ref 1 (Aa hi) 0] rfl (λ_=>rfl) s hs (λp _=>⟨⟨_,_,F175⟩,Ak5 p 1 hi⟩);generalize Ie (λp=>numR p 1 hi) s=r at *;refine T ?_;refine Bf 4 1 (Aa 1) E E E ?_;refine Bf 5 1 (Aa hi) E E E ?_;refine gD q F174 ?_;exact D
def Ahj(s:ByteArray)(hs:s.size≤10000):Sp 74 [Aw s] (.tup [.sl 1 Bb (Ea s).1,Ab (Ea s).2]):=cT F74 ntmps74 λF hF=>by
 have q:=An4 Dy 71 [] [] rfl (λ_=>rfl) s hs (λp hp=>⟨⟨_,_,F71⟩,Abo p q_⟩);unfold Ea;generalize Ie Dy s=r at *;refine gD q F128 ?_;exact D
def Aqp(s:ByteArray)(hs:s.size≤10000):Sp 76 [Aw s] (.tup [Mx (prefixR s).1.1 (prefixR s).1.2,Ab (prefixR s).2]):=cT F76 ntmps76 λF hF=>by
 have q1:=Adw s 47 q_;have aa:=prefixR.eq_1 s;have jh:(cutT 47 s).1.size≤s.size:=by
  rw[cutT];split
  ·have:=Eu s.data.toList 0 (Ls 47 s.data.toList);rw[Kf]at this;rw[this,Ip,yO,yA];have:s.data.toList.length=s.size:=rfl;omega
  ·exact yG _
 generalize cutT 47 s=ct at *;obtain ⟨p,r,m⟩:=ct;dsimp only at aa jh q1;have q2:=Abo p q_;have q3:=Ag0 r 32;generalize prefixR s=res at *;generalize Dy p=a at *;generalize smallT r 32=b at *;obtain ⟨av,ao⟩:=a;obtain ⟨bv,bo⟩:=b;dsimp only at aa q2 q3;cases m<;>cases ao<;>cases bo
 all_goals (simp at aa;subst aa)
 all_goals (refine T ?_;refine C q1 F60 ?_;refine C q2 F71 ?_;refine C q3 F127 ?_;exact D)
abbrev rdO(w:List ByteArray)(i:Nat)(e:Int):Obs:=[(0,.box [.sl 1 Aw w,Aa i,Aa e])]
def D0{w:List ByteArray}{i:Nat}(h:i<w.length):wdT w i=w[i]:=by rw[wdT,zT h];rfl
def Ok(w:List ByteArray)(i:Nat)(e:Int)(hi:i<w.length)(hw:w.length≤1000000):Sq 72 [.ptr 0 0] (rdO w i e) (Aw (wdT w i)) (rdO w (i+1) e):=cT F72 ntmps72 λF hF=>by
 have hk:((i:Int)+1-1).toNat<w.length:=by omega
 have hx:wdT w i=w[((i:Int)+1-1).toNat]'hk:=by
  rw[D0 hi];have:((i:Int)+1-1).toNat=i:=by omega
  simp only[this]
 rw[hx];refine T ?_;exact done E (.cons .tmp .nil) [] (rdO w (i+1) e) (λ_ h=>h) E E U
def Jn(w:List ByteArray)(i:Nat)(e:Int)(b:Bool)(c:Int):Sq 69 [.ptr 0 0,Ab b,Aa c] (rdO w i e) (.tup []) (rdO w i (Av e b c)):=cT F69 ntmps69 λF hF=>by
 cases b with
 |false=>
  have hf:Av e false c=e:=by rw[Av,zD y_]
  rw[hf];refine T ?_;exact A6 E .nil [] (rdO w i e) (λ_ h=>h) E E U
 |true=>
  by_cases h:e=0
  ·have hf:Av e true c=c:=by rw[Av,zG ⟨rfl,h⟩]
   rw[hf];subst h;refine T ?_;exact A6 E .nil [] (rdO w i c) (λ_ h=>h) E E U
  ·have hf:Av e true c=e:=by rw[Av,zD (λx=>h x.2)]
   rw[hf];have hb:(e==0)=false:=by simpa using h
   refine T ?_;exact A6 E .nil [] (rdO w i e) (λ_ h=>h) E E U
def E3(w:List ByteArray)(i:Nat)(e:Int)(hi:i<w.length)(hw:w.length≤1000000)(hs:∀s∈w,s.size≤40):Sq 65 [.ptr 0 0] (rdO w i e) (Aw (wdT w i)) (rdO w (i+1) (Av e (!(Bc (wdT w i))) 20)):=cT F65 ntmps65 λF hF=>by
 have hwd:(wdT w i).size≤40:=by rw[D0 hi];exact hs _ (zI hi)
 have q1:=Ok w i e hi hw;have q2:=Kc (wdT w i) q_;have q3:=Jn w (i+1) e (!(Bc (wdT w i))) 20;generalize Bc (wdT w i)=nb at *;generalize wdT w i=x at *;refine T ?_;refine X (Ad [] E F72 q1 E W E V) ?_;refine C q2 F121 ?_;refine X (Ad [] E F69 q3 E W E V) ?_;exact done E (.cons .tmp .nil) [] (rdO w (i+1) (Av e (!nb) 20)) (λ_ h=>h) E E U
def Vz(w:List ByteArray)(i:Nat)(e lo xf:Int)(hi:i<w.length)(hw:w.length≤1000000):Sq 67 [.ptr 0 0,Aa lo,Aa xf] (rdO w i e) (Aa (numR (wdT w i) lo xf).1) (rdO w (i+1) (Av e (!(numR (wdT w i) lo xf).2) 21)):=cT F67 ntmps67 λF hF=>by
 have q1:=Ok w i e hi hw;have q2:=An5 (wdT w i) lo xf;generalize numR (wdT w i) lo xf=r at *;have q3:=Jn w (i+1) e (!r.2) 21;generalize wdT w i=x at *;refine T ?_;refine X (Ad [] E F72 q1 E W E V) ?_;refine C q2 F122 ?_;refine X (Ad [] E F69 q3 E W E V) ?_;exact done E (.cons .tmp .nil) [] (rdO w (i+1) (Av e (!r.2) 21)) (λ_ h=>h) E E U
def Y4(w:List ByteArray)(i:Nat)(e:Int)(hi:i<w.length)(hw:w.length≤1000000):Sq 66 [.ptr 0 0] (rdO w i e) (Aa (Cw (wdT w i)).1) (rdO w (i+1) (Av e (!(Cw (wdT w i)).2) 21)):=cT F66 ntmps66 λF hF=>by
 have q:=Vz w i e 1 4094 hi hw;unfold Cw;generalize numR (wdT w i) 1 4094=r at *;refine T ?_;refine X (Ad [] E F67 q E W E V) ?_;exact done E (.cons .tmp .nil) [] (rdO w (i+1) (Av e (!r.2) 21)) (λ_ h=>h) E E U
def A03(w:List ByteArray)(i:Nat)(e:Int)(hi:i<w.length)(hw:w.length≤1000000):Sq 73 [.ptr 0 0] (rdO w i e) (Aa (Sb (wdT w i)).1) (rdO w (i+1) (Av e (!(Sb (wdT w i)).2) 21)):=cT F73 ntmps73 λF hF=>by
 have q:=Vz w i e 1 16777215 hi hw;unfold Sb;generalize numR (wdT w i) 1 16777215=r at *;refine T ?_;refine X (Ad [] E F67 q E W E V) ?_;exact done E (.cons .tmp .nil) [] (rdO w (i+1) (Av e (!r.2) 21)) (λ_ h=>h) E E U
def Ay0(e c:Int):Av e false c=e:=by rw[Av,zD y_]
def Adx(w:List ByteArray)(i:Nat)(e bd:Int)(hi:i<w.length)(hw:w.length≤1000000)(hs:∀s∈w,s.size≤40):Sq 75 [.ptr 0 0,Aa bd] (rdO w i e) (.sl 1 Aa (listR bd (wdT w i)).1) (rdO w (i+1) (Av e (!(listR bd (wdT w i)).2) 21)):=cT F75 ntmps75 λF hF=>by
 have hwd:(wdT w i).size≤40:=by rw[D0 hi];exact hs _ (zI hi)
 have q1:=Ok w i e hi hw;have q2:=Ak4 (wdT w i) bd q_;have aa:=listR.eq_1 bd (wdT w i);generalize listR bd (wdT w i)=res at *;by_cases hd:wdT w i=A6c
 ·rw[zG hd]at aa;subst aa;have hb:(wdT w i==(⟨#[45]⟩:ByteArray))=true:=(Lj _ _).2 hd;rw[show (!(([]:List Int),true).2)=false from rfl,Ay0];refine T ?_;refine X (Ad [] E F72 q1 E W E V) ?_;refine Au 4 1 Aa E ?_;refine T ?_;exact done E (.cons .tmp .nil) [] (rdO w (i+1) e) (λ_ h=>h) E E U
 ·rw[zD hd]at aa;have hb:(wdT w i==(⟨#[45]⟩:ByteArray))=false:=by
   cases hx:(wdT w i==(⟨#[45]⟩:ByteArray))
   ·rfl
   ·exact zY ((Lj _ _).1 hx) hd
  rw[←aa]at q2;have q3:=Jn w (i+1) e (!res.2) 21;clear aa;refine T ?_;refine X (Ad [] E F72 q1 E W E V) ?_;refine C q2 F129 ?_;refine X (Ad [] E F69 q3 E W E V) ?_;exact done E (.cons .tmp .nil) [] (rdO w (i+1) (Av e (!res.2) 21)) (λ_ h=>h) E E U
def Asx(s:ByteArray):∃m:Nat,(macR s).1=m∧m<281474976710656:=by
 rw[macR];split
 ·rename_i h;have:=X0 (s:=s) (j:=6) (λi hi=>by have:=h.2;rw[yZ]at this;exact this i (xA.2 hi));refine⟨(Wj s 6).toNat,?_,?_⟩
  ·rw[xD this.1]
  ·have h2:Wj s 6<281474976710656:=this.2;omega
 ·exact⟨0,E,by decide⟩
def macE(s:ByteArray):Bool:=!((macR s).2&&statB (macR s).1)
def A04(w:List ByteArray)(i:Nat)(e:Int)(hi:i<w.length)(hw:w.length≤1000000)(hs:∀s∈w,s.size≤40):Sq 68 [.ptr 0 0] (rdO w i e) (A2 (macR (wdT w i)).1) (rdO w (i+1) (Av e (macE (wdT w i)) 21)):=cT F68 ntmps68 λF hF=>by
 have hwd:(wdT w i).size≤40:=by rw[D0 hi];exact hs _ (zI hi)
 have q1:=Ok w i e hi hw;have q2:=A2j (wdT w i) q_;obtain ⟨m,dt,de⟩:=Asx (wdT w i);have q4:=Aei m q_;have aa:=macE.eq_1 (wdT w i);rw[dt]at aa;generalize macE (wdT w i)=be at *;have q3:=Jn w (i+1) e be 21;generalize macR (wdT w i)=r at *;obtain ⟨rv,rb⟩:=r;dsimp only at dt;subst dt;generalize statB (m:Int)=sb at *;cases rb with
 |false=>
  simp at aa;subst aa;refine T ?_;refine X (Ad [] E F72 q1 E W E V) ?_;refine C q2 F123 ?_;refine X (Ad [] E F69 q3 E W E V) ?_;exact done E (.cons .tmp .nil) [] (rdO w (i+1) (Av e true 21)) (λ_ h=>h) E E U
 |true=>
  simp at aa;subst aa;refine T ?_;refine X (Ad [] E F72 q1 E W E V) ?_;refine gJ q2 F123 q4 F124 ?_;refine X (Ad [] E F69 q3 E W E V) ?_;exact done E (.cons .tmp .nil) [] (rdO w (i+1) (Av e (!sb) 21)) (λ_ h=>h) E E U
def Ja{a b:ByteArray}(h:a≠b):(a==b)=false:=by
 cases hx:(a==b)
 ·rfl
 ·exact zY ((Lj _ _).1 hx) h
def Ht{a b:ByteArray}(h:a=b):(a==b)=true:=(Lj _ _).2 h
def Al6{a b:ByteArray}(h:a≠b):(!(a==b))=true:=by rw[Ja h];rfl
def Ad6{a b:ByteArray}(h:a=b):(!(a==b))=false:=by rw[Ht h];rfl
def H6(s:ByteArray):Sp 64 [Aw s] (Aa (kindL s)):=cT F64 ntmps64 λF hF=>by
 have hk:=kindL.eq_1 s;generalize kindL s=k at *;by_cases c1:s=(⟨#[100,101,118,105,99,101]⟩:ByteArray)
 ·have b1:=Ht c1;rw[zG c1]at hk;subst hk;exact gA
 have b1:=Ja c1;rw[zD c1]at hk;by_cases c2:s=(⟨#[112,111,114,116]⟩:ByteArray)
 ·have b2:=Ht c2;rw[zG c2]at hk;subst hk;exact gA
 have b2:=Ja c2;rw[zD c2]at hk;by_cases c3:s=(⟨#[108,105,110,107]⟩:ByteArray)
 ·have b3:=Ht c3;rw[zG c3]at hk;subst hk;exact gA
 have b3:=Ja c3;rw[zD c3]at hk;by_cases c4:s=(⟨#[115,116,97,116,105,99]⟩:ByteArray)
 ·have b4:=Ht c4;rw[zG c4]at hk;subst hk;exact gA
 have b4:=Ja c4;rw[zD c4]at hk;by_cases c5:s=(⟨#[118,116,101,112]⟩:ByteArray)
 ·have b5:=Ht c5;rw[zG c5]at hk;subst hk;exact gA
 have b5:=Ja c5;rw[zD c5]at hk;by_cases c6:s=(⟨#[118,110,105]⟩:ByteArray)
 ·have b6:=Ht c6;rw[zG c6]at hk;subst hk;exact gA
 have b6:=Ja c6;rw[zD c6]at hk;by_cases c7:s=(⟨#[102,108,111,111,100]⟩:ByteArray)
 ·have b7:=Ht c7;rw[zG c7]at hk;subst hk;exact gA
 have b7:=Ja c7;rw[zD c7]at hk;by_cases c8:s=(⟨#[118,114,102]⟩:ByteArray)
 ·have b8:=Ht c8;rw[zG c8]at hk;subst hk;exact gA
 have b8:=Ja c8;rw[zD c8]at hk;by_cases c9:s=(⟨#[105,114,98]⟩:ByteArray)
 ·have b9:=Ht c9;rw[zG c9]at hk;subst hk;exact gA
 have b9:=Ja c9;rw[zD c9]at hk;subst hk;exact gA
def H5(k:Int)(hk:0≤k∧k≤9)(w:List ByteArray)(hw:w.length≤1000000):Sp 63 [Aa k,.sl 1 Aw w] (Ab (manyB k w)):=cT F63 ntmps63 λF hF=>by
 have de:=manyB.eq_1 k w;generalize manyB k w=r at *;rcases (by omega:k=0∨k=1∨k=2∨k=3∨k=4∨k=5∨k=6∨k=7∨k=8∨k=9) with h|h|h|h|h|h|h|h|h|h
 ·subst h;have hr:r=false:=by rw[de];simp
  subst hr;exact gA
 ·subst h;have hr:r=decide (w.length=4):=by rw[de];simp
  subst hr;refine T ?_;refine At E (.cons .tmp .nil) (zH Ab ?_) E;by_cases hn:w.length=4
  ·rw[hn];rfl
  ·rw[zL hn];symm;simp;omega
 ·subst h;rw[zD j_,zG rfl]at de;by_cases h6:w.length<6
  ·rw[zG h6]at de;subst de;exact gA
  ·rw[zD h6]at de;have f6:decide ((w.length:Int)<6)=false:=zL q_;have h4:(4:Int).toNat<w.length:=by show 4<w.length;omega
   have hx:wdT w 4=w[(4:Int).toNat]'h4:=D0 q_;rw[hx]at de;by_cases ca:w[(4:Int).toNat]'h4=Hu
   ·have ba:(w[(4:Int).toNat]'h4==(⟨#[97,99,99,101,115,115]⟩:ByteArray))=true:=Ht ca;have bt:(w[(4:Int).toNat]'h4==(⟨#[116,114,117,110,107]⟩:ByteArray))=false:=Ja (by rw[ca];exact Aj4);have na:(!(w[(4:Int).toNat]'h4==(⟨#[97,99,99,101,115,115]⟩:ByteArray)))=false:=Ad6 ca;rw[zG ca]at de;by_cases hn:w.length=6
    ·rw[zO hn]at de;subst de;exact gA
    ·rw[zL hn]at de;have fb:((w.length:Int)==6)=false:=by rw[zR];omega
     subst de;exact gA
   ·have ba:(w[(4:Int).toNat]'h4==(⟨#[97,99,99,101,115,115]⟩:ByteArray))=false:=Ja ca;have na:(!(w[(4:Int).toNat]'h4==(⟨#[97,99,99,101,115,115]⟩:ByteArray)))=true:=Al6 ca;rw[zD ca]at de;by_cases pz:w[(4:Int).toNat]'h4=E6
    ·have bt:(w[(4:Int).toNat]'h4==(⟨#[116,114,117,110,107]⟩:ByteArray))=true:=Ht pz;have nt:(!(w[(4:Int).toNat]'h4==(⟨#[116,114,117,110,107]⟩:ByteArray)))=false:=Ad6 pz;rw[zG pz]at de;by_cases hn:w.length=7
     ·rw[zO hn]at de;subst de;exact gA
     ·rw[zL hn]at de;have fb:((w.length:Int)==7)=false:=by rw[zR];omega
      subst de;exact gA
    ·have bt:(w[(4:Int).toNat]'h4==(⟨#[116,114,117,110,107]⟩:ByteArray))=false:=Ja pz;have nt:(!(w[(4:Int).toNat]'h4==(⟨#[116,114,117,110,107]⟩:ByteArray)))=true:=Al6 pz;rw[zD pz]at de;subst de;refine T ?_;refine At E (.cons .tmp .nil) (zH Ab ?_) E;exact decide_eq_decide.2 q_
 ·subst h;have hr:r=decide (w.length=5):=by rw[de];simp
  subst hr;refine T ?_;refine At E (.cons .tmp .nil) (zH Ab ?_) E;by_cases hn:w.length=5
  ·rw[hn];rfl
  ·rw[zL hn];symm;simp;omega
 ·subst h;have hr:r=decide (w.length=5):=by rw[de];simp
  subst hr;refine T ?_;refine At E (.cons .tmp .nil) (zH Ab ?_) E;by_cases hn:w.length=5
  ·rw[hn];rfl
  ·rw[zL hn];symm;simp;omega
 ·subst h;have hr:r=decide (w.length=3):=by rw[de];simp
  subst hr;refine T ?_;refine At E (.cons .tmp .nil) (zH Ab ?_) E;by_cases hn:w.length=3
  ·rw[hn];rfl
  ·rw[zL hn];symm;simp;omega
 ·subst h;have hr:r=decide (w.length=4):=by rw[de];simp
  subst hr;refine T ?_;refine At E (.cons .tmp .nil) (zH Ab ?_) E;by_cases hn:w.length=4
  ·rw[hn];rfl
  ·rw[zL hn];symm;simp;omega
 ·subst h;have hr:r=decide (w.length=4):=by rw[de];simp
  subst hr;refine T ?_;refine At E (.cons .tmp .nil) (zH Ab ?_) E;by_cases hn:w.length=4
  ·rw[hn];rfl
  ·rw[zL hn];symm;simp;omega
 ·subst h;have hr:r=decide (w.length=5):=by rw[de];simp
  subst hr;refine T ?_;refine At E (.cons .tmp .nil) (zH Ab ?_) E;by_cases hn:w.length=5
  ·rw[hn];rfl
  ·rw[zL hn];symm;simp;omega
 ·subst h;have hr:r=decide (w.length=5):=by rw[de];simp
  subst hr;refine T ?_;refine At E (.cons .tmp .nil) (zH Ab ?_) E;by_cases hn:w.length=5
  ·rw[hn];rfl
  ·rw[zL hn];symm;simp;omega
def Abw(a:Nat)(b:Int)(ha:a<4294967296):Sp 77 [Mx a b] (Ab (subnetB a b)):=cT F77 ntmps77 λF hF=>by
 have q1:=Yn a b ha;have q2:=Abp a b ha;have hs:=subnetB.eq_1 (a:Int) b;generalize subnetB (a:Int) b=r at *;generalize Dg (a:Int) b=fi at *;generalize Hz (a:Int) b=la at *;by_cases h1:1≤b
 ·by_cases h2:b≤30
  ·by_cases h3:(a:Int)=fi
   ·have f3:((a:Int) != fi)=false:=by rw[bne_eq_false_iff_eq];exact h3
    have hr:r=false:=by rw[hs];simp[h3]
    subst hr;refine gD q1 F130 ?_;exact D
   ·have f3:((a:Int) != fi)=true:=by rw[xG];exact h3
    by_cases h4:(a:Int)=la
    ·have f4:((a:Int) != la)=false:=by rw[bne_eq_false_iff_eq];exact h4
     have hr:r=false:=by rw[hs];simp[h4]
     subst hr;refine gB q1 F130 q2 F131 ?_;refine At E (.cons .tmp .nil) (zH Ab f4.symm) E
    ·have f4:((a:Int) != la)=true:=by rw[xG];exact h4
     have hr:r=true:=by rw[hs];simp[h1,h2,h3,h4]
     subst hr;refine gB q1 F130 q2 F131 ?_;refine At E (.cons .tmp .nil) (zH Ab f4.symm) E
  ·have hr:r=false:=by rw[hs];simp[h2]
   subst hr;exact gA
 ·have hr:r=false:=by rw[hs];simp[h1]
  subst hr;exact gA
def Ao5(l:List Int)(v:Int):l.contains v=inB l v:=by
 induction l with
 |nil=>rfl
 |cons x l ih=>
  rw[List.contains_cons,ih,inB,inB,List.any_cons];congr 1;exact Bool.beq_comm
def J8(l:LineM)(hl:An l.tagged):Sp 125 [A3 l] (Ab (membersB l.vlan l.tagged)):=cT F125 ntmps125 λF hF=>by
 have q:=D7 l.tagged l.vlan hl;have de:=membersB.eq_1 l.vlan l.tagged;rw[Ao5]at de;generalize membersB l.vlan l.tagged=r at *;generalize inB l.tagged l.vlan=ib at *;unfold An at hl;by_cases h1:0<l.vlan
 ·have hr:r=!ib:=by rw[de];simp[h1]
  subst hr;refine gD q F38 ?_;exact D
 ·by_cases h2:l.tagged.length=0
  ·have hr:r=false:=by
    rw[de,zL h1,zZ h2];rfl
   subst hr;exact gA
  ·have hr:r=!ib:=by
    rw[de];have:l.tagged.isEmpty=false:=by cases ht:l.tagged<;>simp_all
    simp[this]
   have f2:decide ((l.tagged.length:Int)>0)=true:=zO q_;subst hr;refine gD q F38 ?_;exact D
def Lv(e:Int)(l:List (Bool×Int)):Int:=l.foldl (λe x=>Av e x.1 x.2) e
def Acu:∀(l:List (Bool×Int)) (e:Int),(∀x∈l,x.2≠0)→Lv e l=if e=0 then Bs l else e
 |[],e,_=>by
  show e=_;split
  ·rename_i h;rw[h];rfl
  ·rfl
 |(b,c)::l,e,h=>by
  have hc:=h (b,c) y_;have ih:=Acu l (Av e b c) (λx hx=>h x (by simp[hx]));show Lv (Av e b c) l=_;rw[ih,Bs];dsimp only at hc;by_cases he:e=0
  ·subst he;cases b with
   |true=>simp[Av,hc]
   |false=>simp[Av]
  ·have:Av e b c=e:=by rw[Av,zD (λx=>he x.2)]
   rw[this,zD he,zD he]
def Du(l:List (Bool×Int))(h:∀x∈l,x.2≠0):Bs l=Lv 0 l:=by rw[Acu l 0 h,zG rfl]
def V9(e:Int)(a b:List (Bool×Int)):Lv e (a++b)=Lv (Lv e a) b:=xO
abbrev rlO(w:List ByteArray)(i:Nat)(e:Int)(l:LineM):Obs:=[(0,.box [.sl 1 Aw w,Aa i,Aa e]),(1,.box (Cf l))]
def A09(w:List ByteArray):Nat:=if wdT w 4=Hu then 6 else if wdT w 4=E6 then 7 else 5
def Acg(bd:Int)(s:ByteArray):(listR bd s).1.length≤16:=by
 rw[listR];split
 ·simp
 ·rw[Ie];cases h:Iw (λp=>numR p 1 bd) [] (Ct 44 s) with
  |mk l b=>
   cases b with
   |true=>exact(Qy _ _ _ _ h List.Pairwise.nil j_).2.1
   |false=>
    have:∀(ps:List ByteArray) (out r:List Int),Iw (λp=>numR p 1 bd) out ps=(r,false)→r=[]:=by
     intro ps
     induction ps with
     |nil=>intro out r h;rw[Iw]at h;simp at h
     |cons p ps ih=>
      intro out r h;rw[Iw]at h;split at h
      ·simp at h;exact h
      ·exact ih _ _ h
    rw[this _ _ _ h];simp
set_option maxRecDepth 100000 in
def A46(w:List ByteArray)(e:Int)(l:LineM)(hw:w.length≤1000000)(hs:∀s∈w,s.size≤40)(h4:4<w.length)(ha:wdT w 4=Hu→5<w.length)(htr:wdT w 4=E6→6<w.length)(hl0:l.vlan=0∧l.tagged=[]):Sq 70 [.ptr 0 0,.ptr 1 0] (rlO w 4 e l) (.tup []) (rlO w (A09 w) (Lv e ((Ef w).2.2++[(!(membersB (Ef w).1 (Ef w).2.1),21)])) {l with vlan:=(Ef w).1,tagged:=(Ef w).2.1}):=cT F70 ntmps70 λF hF=>by
 obtain ⟨row,kind,dev,port,peer,far,name,mac,addr,bits,vlan,num,cost,tagged,imports,exports,addrs⟩:=l;obtain ⟨g1,g2⟩:=hl0;dsimp only at g1 g2;subst g1 g2;have q0:Sq 72 [.ptr 0 0] (rdO w 4 e) (Aw (wdT w 4)) (rdO w 5 e):=Ok w 4 e h4 hw;rw[A09,Ef,V9];by_cases c1:wdT w 4=Hu
 ·have b1:(wdT w 4==(⟨#[97,99,99,101,115,115]⟩:ByteArray))=true:=Ht c1;have q1:=Y4 w 5 e (ha c1) hw;rw[zG c1,zG c1];have q2:=J8 ⟨row,kind,dev,port,peer,far,name,mac,addr,bits,(Cw (wdT w 5)).1,num,cost,[],imports,exports,addrs⟩ (by simp[An]);dsimp only at q2⊢;have vr:Lv e [(!(Cw (wdT w 5)).2,21)]=Av e (!(Cw (wdT w 5)).2) 21:=rfl;rw[vr];have q3:=λb=>Jn w 6 (Av e (!(Cw (wdT w 5)).2) 21) b 21
  generalize Av e (!(Cw (wdT w 5)).2) 21=e1 at *;generalize (Cw (wdT w 5)).1=v at *;have o8:Lv e1 [(!(membersB v []),21)]=Av e1 (!(membersB v [])) 21:=rfl;rw[o8];have q3:=q3 (!(membersB v []));generalize Av e1 (!(membersB v [])) 21=e2 at *;generalize membersB v []=mb at *;refine T ?_;refine X (Ad [] E F72 q0 E W E V) ?_;refine X (Ad [] E F66 q1 E W E V) ?_;refine C q2 F125 ?_;refine X (Ad [] E F69 q3 E W E V) ?_;exact A6 E .nil [] (rlO w 6 e2 ⟨row,kind,dev,port,peer,far,name,mac,addr,bits,v,num,cost,[],imports,exports,addrs⟩) (λ_ h=>h) E E U
 ·have b1:(wdT w 4==(⟨#[97,99,99,101,115,115]⟩:ByteArray))=false:=Ja c1;rw[zD c1,zD c1];by_cases c2:wdT w 4=E6
  ·have b2:(wdT w 4==(⟨#[116,114,117,110,107]⟩:ByteArray))=true:=Ht c2;have h6:=htr c2;have h5:((5:Nat):Int).toNat<w.length:=by show 5<w.length;omega
   have e5:w[((5:Nat):Int).toNat]'h5=wdT w 5:=(D0 q_).symm;rw[zG c2,zG c2];by_cases c3:wdT w 5=A6c
   ·have b3:(w[((5:Nat):Int).toNat]'h5==(⟨#[45]⟩:ByteArray))=true:=Ht (by rw[e5];exact c3);rw[zG c3];have q1:=Adx w 6 e 4094 h6 hw hs;have q2:=J8 ⟨row,kind,dev,port,peer,far,name,mac,addr,bits,0,num,cost,(listR 4094 (wdT w 6)).1,imports,exports,addrs⟩ (by have:=Acg 4094 (wdT w 6);simp only[An];omega);dsimp only at q2⊢;have vr:Lv e [(!(listR 4094 (wdT w 6)).2,21)]=Av e (!(listR 4094 (wdT w 6)).2) 21:=rfl;rw[vr];have q3:=λb=>Jn w 7 (Av e (!(listR 4094 (wdT w 6)).2) 21) b 21
    generalize Av e (!(listR 4094 (wdT w 6)).2) 21=e1 at *;generalize (listR 4094 (wdT w 6)).1=v at *;have o8:Lv e1 [(!(membersB 0 v),21)]=Av e1 (!(membersB 0 v)) 21:=rfl;rw[o8];have q3:=q3 (!(membersB 0 v));generalize Av e1 (!(membersB 0 v)) 21=e2 at *;generalize membersB 0 v=mb at *;refine T ?_;refine X (Ad [] E F72 q0 E W E V) ?_;refine X (Ad [] E F75 q1 E W E V) ?_;refine C q2 F125 ?_;refine X (Ad [] E F69 q3 E W E V) ?_;exact A6 E .nil [] (rlO w 7 e2 ⟨row,kind,dev,port,peer,far,name,mac,addr,bits,0,num,cost,v,imports,exports,addrs⟩) (λ_ h=>h) E E U
   ·have b3:(w[((5:Nat):Int).toNat]'h5==(⟨#[45]⟩:ByteArray))=false:=Ja (by rw[e5];exact c3);rw[zD c3];have q4:=Y4 w 5 e q_ hw;have vr:Lv e [(!(Cw (wdT w 5)).2,21),(!(listR 4094 (wdT w 6)).2,21)]=Av (Av e (!(Cw (wdT w 5)).2) 21) (!(listR 4094 (wdT w 6)).2) 21:=rfl;dsimp only;rw[vr];generalize Av e (!(Cw (wdT w 5)).2) 21=e0 at *;have q1:=Adx w 6 e0 4094 h6 hw hs;have q2:=J8 ⟨row,kind,dev,port,peer,far,name,mac,addr,bits,(Cw (wdT w 5)).1,num,cost,(listR 4094 (wdT w 6)).1,imports,exports,addrs⟩ (by have:=Acg 4094 (wdT w 6);simp only[An];omega);dsimp only at q2;have q3:=λb=>Jn w 7 (Av e0 (!(listR 4094 (wdT w 6)).2) 21) b 21
    generalize Av e0 (!(listR 4094 (wdT w 6)).2) 21=e1 at *;generalize (listR 4094 (wdT w 6)).1=v at *;generalize (Cw (wdT w 5)).1=u at *;have o8:Lv e1 [(!(membersB u v),21)]=Av e1 (!(membersB u v)) 21:=rfl;rw[o8];have q3:=q3 (!(membersB u v));generalize Av e1 (!(membersB u v)) 21=e2 at *;generalize membersB u v=mb at *;refine T ?_;refine X (Ad [] E F72 q0 E W E V) ?_;refine X (Ad [] E F66 q4 E W E V) ?_;refine X (Ad [] E F75 q1 E W E V) ?_;refine C q2 F125 ?_;refine X (Ad [] E F69 q3 E W E V) ?_;exact A6 E .nil [] (rlO w 7 e2 ⟨row,kind,dev,port,peer,far,name,mac,addr,bits,u,num,cost,v,imports,exports,addrs⟩) (λ_ h=>h) E E U
  ·have b2:(wdT w 4==(⟨#[116,114,117,110,107]⟩:ByteArray))=false:=Ja c2;rw[zD c2,zD c2];have q2:=J8 ⟨row,kind,dev,port,peer,far,name,mac,addr,bits,0,num,cost,[],imports,exports,addrs⟩ (by simp[An]);dsimp only at q2⊢;have o8:Lv (Lv e []) [(!(membersB 0 []),21)]=Av e (!(membersB 0 [])) 21:=rfl;rw[o8];have q3:=Jn w 5 e (!(membersB 0 [])) 21;generalize Av e (!(membersB 0 [])) 21=e2 at *;generalize membersB 0 []=mb at *;refine T ?_;refine X (Ad [] E F72 q0 E W E V) ?_;refine C q2 F125 ?_;refine X (Ad [] E F69 q3 E W E V) ?_;exact A6 E .nil [] (rlO w 5 e2 ⟨row,kind,dev,port,peer,far,name,mac,addr,bits,0,num,cost,[],imports,exports,addrs⟩) (λ_ h=>h) E E U
end Go.Sy.YticmobkdaneelaaGreatDoor
