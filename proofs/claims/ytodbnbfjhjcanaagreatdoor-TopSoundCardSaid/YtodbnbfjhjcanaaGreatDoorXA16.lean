/- Parts of a proof. -/
import Derived.Test.YtodbnbfjhjcanaaGreatDoorXA14
set_option maxHeartbeats 4000000
set_option linter.all false
namespace Go.Sy.Zaa
open Go.Proofs Go.Proofs.Tryz
attribute [local irreducible]G DR
set_option maxRecDepth 100000
def Oi(one:ByteArray->Int×Bool)(out:List Int)(s:ByteArray)(b:Bool):List Int×Bool:=if b=true then I6 one out (Cy 44 s) else (out,true)
def Ay4{c:UInt8}:∀{l:List UInt8},0<=Lib.indexByte l c->c∈l
 |[],h=>by simp[Lib.indexByte]at h
 |b::l,h=>by
  unfold Lib.indexByte at h;by_cases hb:(b==c)=true
  .simp at hb;simp[hb]
  .rw[zD hb]at h;by_cases h1:(Lib.indexByte l c == -1)=true
   .rw[zE h1]at h;omega
   .rw[zD h1]at h;have:=Kz l c;have h2:Lib.indexByte l c≠-1:=kS h1;exact List.mem_cons_of_mem _ (Ay4 z_)
def Aan(one:ByteArray->Int×Bool)(out:List Int)(s:ByteArray):Oi one out s true=(if (one (cutT 44 s).1).2=false\/out.length=16\/(∃x,out.getLast? = some x/\(one (cutT 44 s).1).1<=x) then ([],false) else Oi one (out++[(one (cutT 44 s).1).1]) (cutT 44 s).2.1 (cutT 44 s).2.2):=by
 rw[Oi,zE rfl,Ado];have bg:s.data.toList.length=s.size:=rfl;have tk:∀i,s.extract 0 i=mkT (s.data.toList.take i):=λi=>by rw[<-Ku s,Ex,Kv];simp
 by_cases h:0<=Lib.indexByte s.data.toList 44
 .have hm:=Ay4 h;have e2:s.extract (Ly 44 s.data.toList+1) s.size=mkT (s.data.toList.drop (Ly 44 s.data.toList+1)):=by
   have:=Ex s.data.toList (Ly 44 s.data.toList+1) s.size;rw[Ku]at this;rw[this,<-bg,yM]
  rw[cutT,zE h,Tb 44 _ _ hm,wC,I6,tk,e2];dsimp only;rw[Oi,zE rfl,Ado,Kv]
 .have hm:(44:UInt8)∉s.data.toList:=λhh=>h (Ke hh).1
  rw[cutT,zD h,Tc 44 _ _ hm,wC,Ku,I6];simp only[Oi,zD (show ¬(false=true) by simp),I6]
def Ae4(s:ByteArray):(cutT 44 s).1.size<=s.size/\(cutT 44 s).2.1.size<=s.size/\((cutT 44 s).2.2=true->(cutT 44 s).2.1.size<s.size):=by
 have bg:s.data.toList.length=s.size:=rfl;have ab:=T3 s.data.toList 44;have ex:∀i j,(s.extract i j).size=((s.data.toList.take j).drop i).length:=λi j=>by
  have:=Ex s.data.toList i j;rw[Ku]at this;rw[this,It]
 rw[cutT];split
 .rename_i h;refine⟨?_,?_,λ_=>?_⟩
  .rw[ex,yP,zW];omega
  .rw[ex,yP,zW];omega
  .rw[ex,yP,zW];have:Ly 44 s.data.toList+1<=s.data.toList.length:=by unfold Ly;omega
   omega
 .exact⟨yG _,xX _,λe=>by cases e⟩
theorem iC(v0:Int->SV){f0 m0:Nat}{g0:Func}(F0:fT f0 g0)(n0:g0.ntmps=m0)(h:let v0:Int->SV:=v0;fT f0 g0->g0.ntmps=m0->∀ (one:ByteArray->Int × Bool) (f:FuncId) (first cap:List SV) (hc:(SV.clo (.func f) first cap).inn []=true) (hr:∀ k:Nat->Nat,(SV.clo (.func f) first cap).ren k=.clo (.func f) first cap) (s0:ByteArray) (hs:s0.size<=10000) (hf:∀ p:ByteArray,p.size<=s0.size->E4 prog f (first++[Ar p]++cap) (.tup [v0 (one p).1,Ab (one p).2])),Sp f0 [Ar s0,.clo (.func f) first cap] (.tup [.sl 1 v0 (Ii one s0).1,Ab (Ii one s0).2]):=by
 intro v0 F0 n0 one f first cap hc hr s0 hs hf
 refine cT F0 n0 λF hF=>?_
 have aa:Ii one s0=Oi one [] s0 true:=rfl;generalize Ii one s0=res at *;have fu:(SV.clo (.func f) first cap).inn [1000]=true:=T1 _ hc;have az:∀y:SV,y.inn []=true->B7 [] (first++[y]++cap)=true:=λy hy=>by
  simp only[SV.inn,zG]at hc;rw[Iw,Iw,hc.1,hc.2];simp[B7,hy]
 refine T ?_;refine B6 6 1000 1 v0 E E (T ?_);refine Ci (λx:ByteArray×Bool×List Int=>res=Oi one x.2.2 x.1 x.2.1/\x.1.size<=s0.size/\x.2.2.length<=16) (λx=>[(0,Ar x.1),(1,.clo (.func f) first cap),(6,.osl 1000),(7,Ab x.2.1)]) (λx=>[(1000,.row 1 v0 x.2.2)]) (λx=>if x.2.1=true then x.1.size+1 else 0) (s0,true,[]) [] ⟨aa,yG _,by simp⟩ ⟨⟨E,E,Be _,fu,E,E,E,E,q_⟩,⟨.inl E,E,q_⟩,E,E⟩ ?_;rintro ⟨s,b,out⟩ ⟨hI,bg,kq⟩;dsimp only at hI bg kq|-;cases b with
 |false=>
  rw[Oi,zD qq]at hI;subst hI;refine T ?_;exact Aj 1000 E gA
 |true=>
  have q1:=Zl s 44 z_;have jx:=Ae4 s;rw[Aan]at hI;generalize cutT 44 s=ct at *;obtain ⟨p,r,m⟩:=ct;dsimp only at hI jx q1;have q2:=hf p z_;generalize one p=op at *;obtain ⟨v,ok⟩:=op;dsimp only at hI q2;refine gC q1 F68 ?_;refine D4 q2 E E E (by simp only[az (Ar p) E];rfl) E E ?_;cases ok with
  |false=>
   rw[zE (.inl rfl)]at hI;subst hI;refine T ?_;exact Ao 4 1 v0 E gA
  |true=>
   by_cases c1:out.length=16
   .rw[zE (.inr (.inl c1))]at hI;subst hI;refine T ?_;exact Ao 4 1 v0 E gA
   .by_cases c2:out.length=0
    .have hn:out=[]:=yB c2;rw[zD (by rw[hn];simp)]at hI;refine T ?_;refine X (Ah Γ.toTy 49 E E E E E (.row E) (.lit (e:=v0) (l:=[v]) E E) qq kO kO) ?_;refine Ay (r,m,out++[v]) [(1000,49)] ⟨hI,by dsimp only;omega,by simp;omega⟩ (by
      have h3:=jx.2.2;cases m
      .simp
      .have:=h3 rfl;simp;omega) ⟨⟨rfl,rfl,hr _,fu,rfl,rfl,rfl,rfl,trivial⟩,⟨.inl rfl,rfl,trivial⟩,rfl,rfl⟩
    .have hk:((out.length:Int)-1).toNat<out.length:=by omega
     have iv:out.getLast? = some (out[((out.length:Int)-1).toNat]'hk):=by
      rw[List.getLast?_eq_getElem?,zR z_];congr 1;have:out.length-1=((out.length:Int)-1).toNat:=by omega
      simp only[this]
     have f2:decide ((out.length:Int)>0)=true:=zK z_;by_cases c3:v<=out[((out.length:Int)-1).toNat]'hk
     .have f3:decide (out[((out.length:Int)-1).toNat]'hk>=v)=true:=zK c3;rw[zE (.inr (.inr ⟨_,iv,c3⟩))]at hI;subst hI;refine T ?_;exact Ao 4 1 v0 E gA
     .have f3:decide (out[((out.length:Int)-1).toNat]'hk>=v)=false:=zL c3;rw[zD (by
       rintro (hh|hh|⟨x,hx,hh⟩)
       .cases hh
       .exact c1 hh
       .rw[iv]at hx;simp only[Option.some.injEq]at hx;rw[<- hx]at hh;exact c3 hh)]at hI
      refine T ?_;refine X (Ah Γ.toTy 49 E E E E E (.row E) (.lit (e:=v0) (l:=[v]) E E) qq kO kO) ?_;refine Ay (r,m,out++[v]) [(1000,49)] ⟨hI,by dsimp only;omega,by simp;omega⟩ (by
      have h3:=jx.2.2;cases m
      .simp
      .have:=h3 rfl;simp;omega) ⟨⟨rfl,rfl,hr _,fu,rfl,rfl,rfl,rfl,trivial⟩,⟨.inl rfl,rfl,trivial⟩,rfl,rfl⟩):∀ (one:ByteArray->Int × Bool) (f:FuncId) (first cap:List SV) (hc:(SV.clo (.func f) first cap).inn []=true) (hr:∀ k:Nat->Nat,(SV.clo (.func f) first cap).ren k=.clo (.func f) first cap) (s0:ByteArray) (hs:s0.size<=10000) (hf:∀ p:ByteArray,p.size<=s0.size->E4 prog f (first++[Ar p]++cap) (.tup [v0 (one p).1,Ab (one p).2])),Sp f0 [Ar s0,.clo (.func f) first cap] (.tup [.sl 1 v0 (Ii one s0).1,Ab (Ii one s0).2]):=h F0 n0
def Ajk:=iC Aa F266 ntmps266
def Aji:=iC A9 F212 ntmps212
def Agl(p:ByteArray)(lo hi:Int):Sp 267 [Ar p,.ref 1 (Aa lo) 0,.ref 1 (Aa hi) 0] (.tup [Aa (numR p lo hi).1,Ab (numR p lo hi).2]):=cT F267 ntmps267 λF hF=>by
 have q:=Ajj p lo hi;generalize numR p lo hi=r at *;refine gC q F206 ?_;exact D
def Agk(s:ByteArray)(hi:Int)(hs:s.size<=10000):Sp 213 [Ar s,Aa 1,Aa hi] (.tup [.sl 1 Aa (Ii (λp=>numR p 1 hi) s).1,Ab (Ii (λp=>numR p 1 hi) s).2]):=cT F213 ntmps213 λF hF=>by
 have q:=Ajk (λp=>numR p 1 hi) 267 [] [.ref 1 (Aa 1) 0,.ref 1 (Aa hi) 0] rfl (λ_=>rfl) s hs (λp _=>⟨⟨_,_,F267⟩,Agl p 1 hi⟩);generalize Ii (λp=>numR p 1 hi) s=r at *;refine T ?_;refine Ba 4 1 (Aa 1) E E E ?_;refine Ba 5 1 (Aa hi) E E E (gC q F266 ?_);exact D
def Acn(s:ByteArray)(hs:s.size<=10000):Sp 133 [Ar s] (.tup [.sl 1 A9 (D6 s).1,Ab (D6 s).2]):=cT F133 ntmps133 λF hF=>by
 have q:=Aji Dy 130 [] [] rfl (λ_=>rfl) s hs (λp hp=>⟨⟨_,_,F130⟩,dM p z_⟩);unfold D6;generalize Ii Dy s=r at *;refine gC q F212 ?_;exact D
def Aly(s:ByteArray)(hs:s.size<=10000):Sp 135 [Ar s] (.tup [M8 (prefixR s).1.1 (prefixR s).1.2,Ab (prefixR s).2]):=cT F135 ntmps135 λF hF=>by
 have q1:=Zl s 47 z_;have aa:=prefixR.eq_1 s;have jx:(cutT 47 s).1.size<=s.size:=by
  rw[cutT];split
  .have:=Ex s.data.toList 0 (Ly 47 s.data.toList);rw[Ku]at this;rw[this,It,yP,zW];have:s.data.toList.length=s.size:=rfl;omega
  .exact yG _
 generalize cutT 47 s=ct at *;obtain ⟨p,r,m⟩:=ct;dsimp only at aa jx q1;have q2:=dM p z_;have q3:=Abz r 32;generalize prefixR s=res at *;generalize Dy p=a at *;generalize smallT r 32=b at *;obtain ⟨av,ao⟩:=a;obtain ⟨bv,bo⟩:=b;dsimp only at aa q2 q3;cases m<;>cases ao<;>cases bo
 all_goals (simp at aa;subst aa)
 all_goals (refine T ?_;refine C q1 F68 ?_;refine C q2 F130 ?_;refine C q3 F211 ?_;exact D)
abbrev rdO(w:List ByteArray)(i:Nat)(e:Int):Obs:=[(0,.box [.sl 1 Ar w,Aa i,Aa e])]
def Dk{w:List ByteArray}{i:Nat}(h:i<w.length):wdT w i=w[i]:=by rw[wdT,zR h];rfl
def O8(w:List ByteArray)(i:Nat)(e:Int)(hi:i<w.length)(hw:w.length<=1000000):Sq 131 [.ptr 0 0] (rdO w i e) (Ar (wdT w i)) (rdO w (i+1) e):=cT F131 ntmps131 λF hF=>by
 have hk:((i:Int)+1-1).toNat<w.length:=by omega
 have hx:wdT w i=w[((i:Int)+1-1).toNat]'hk:=by
  rw[Dk hi];have:((i:Int)+1-1).toNat=i:=by omega
  simp only[this]
 rw[hx];refine T ?_;exact done E Ap [] (rdO w (i+1) e) (λ_ h=>h) E E U
def Jy(w:List ByteArray)(i:Nat)(e:Int)(b:Bool)(c:Int):Sq 128 [.ptr 0 0,Ab b,Aa c] (rdO w i e) (.tup []) (rdO w i (Au e b c)):=cT F128 ntmps128 λF hF=>by
 cases b with
 |false=>
  have hf:Au e false c=e:=by rw[Au,zD qq]
  rw[hf];refine T ?_;exact A2 E .nil [] (rdO w i e) (λ_ h=>h) E E U
 |true=>
  by_cases h:e=0
  .have hf:Au e true c=c:=by rw[Au,zE ⟨rfl,h⟩]
   rw[hf];subst h;refine T ?_;exact A2 E .nil [] (rdO w i c) (λ_ h=>h) E E U
  .have hf:Au e true c=e:=by rw[Au,zD (λx=>h x.2)]
   rw[hf];have hb:(e==0)=false:=kS h;refine T ?_;exact A2 E .nil [] (rdO w i e) (λ_ h=>h) E E U
def E9(w:List ByteArray)(i:Nat)(e:Int)(hi:i<w.length)(hw:w.length<=1000000)(hs:∀s∈w,s.size<=40):Sq 124 [.ptr 0 0] (rdO w i e) (Ar (wdT w i)) (rdO w (i+1) (Au e (!(A1 (wdT w i))) 20)):=cT F124 ntmps124 λF hF=>by
 have hwd:(wdT w i).size<=40:=by rw[Dk hi];exact hs _ (zI hi)
 have q1:=O8 w i e hi hw;have q2:=Ew (wdT w i) z_;have q3:=Jy w (i+1) e (!(A1 (wdT w i))) 20;generalize A1 (wdT w i)=nb at *;generalize wdT w i=x at *;refine T ?_;refine X (Ad [] E F131 q1 E W E V) ?_;refine C q2 F71 ?_;refine X (Ad [] E F128 q3 E W E V) ?_;exact done E Ap [] (rdO w (i+1) (Au e (!nb) 20)) (λ_ h=>h) E E U
def Wq(w:List ByteArray)(i:Nat)(e lo yf:Int)(hi:i<w.length)(hw:w.length<=1000000):Sq 126 [.ptr 0 0,Aa lo,Aa yf] (rdO w i e) (Aa (numR (wdT w i) lo yf).1) (rdO w (i+1) (Au e (!(numR (wdT w i) lo yf).2) 21)):=cT F126 ntmps126 λF hF=>by
 have q1:=O8 w i e hi hw;have q2:=Ajj (wdT w i) lo yf;generalize numR (wdT w i) lo yf=r at *;have q3:=Jy w (i+1) e (!r.2) 21;generalize wdT w i=x at *;refine T ?_;refine X (Ad [] E F131 q1 E W E V) ?_;refine C q2 F206 ?_;refine X (Ad [] E F128 q3 E W E V) ?_;exact done E Ap [] (rdO w (i+1) (Au e (!r.2) 21)) (λ_ h=>h) E E U
def Z0(w:List ByteArray)(i:Nat)(e:Int)(hi:i<w.length)(hw:w.length<=1000000):Sq 125 [.ptr 0 0] (rdO w i e) (Aa (C0 (wdT w i)).1) (rdO w (i+1) (Au e (!(C0 (wdT w i)).2) 21)):=cT F125 ntmps125 λF hF=>by
 have q:=Wq w i e 1 4094 hi hw;unfold C0;generalize numR (wdT w i) 1 4094=r at *;refine T ?_;refine X (Ad [] E F126 q E W E V) ?_;exact done E Ap [] (rdO w (i+1) (Au e (!r.2) 21)) (λ_ h=>h) E E U
def Aw3(w:List ByteArray)(i:Nat)(e:Int)(hi:i<w.length)(hw:w.length<=1000000):Sq 132 [.ptr 0 0] (rdO w i e) (Aa (S6 (wdT w i)).1) (rdO w (i+1) (Au e (!(S6 (wdT w i)).2) 21)):=cT F132 ntmps132 λF hF=>by
 have q:=Wq w i e 1 16777215 hi hw;unfold S6;generalize numR (wdT w i) 1 16777215=r at *;refine T ?_;refine X (Ad [] E F126 q E W E V) ?_;exact done E Ap [] (rdO w (i+1) (Au e (!r.2) 21)) (λ_ h=>h) E E U
def Aus(e c:Int):Au e false c=e:=by rw[Au,zD qq]
def lL(w:List ByteArray)(i:Nat)(e a7:Int)(hi:i<w.length)(hw:w.length<=1000000)(hs:∀s∈w,s.size<=40):Sq 134 [.ptr 0 0,Aa a7] (rdO w i e) (.sl 1 Aa (listR a7 (wdT w i)).1) (rdO w (i+1) (Au e (!(listR a7 (wdT w i)).2) 21)):=cT F134 ntmps134 λF hF=>by
 have hwd:(wdT w i).size<=40:=by rw[Dk hi];exact hs _ (zI hi)
 have q1:=O8 w i e hi hw;have q2:=Agk (wdT w i) a7 z_;have aa:=listR.eq_1 a7 (wdT w i);generalize listR a7 (wdT w i)=res at *;by_cases hd:wdT w i=A2m
 .rw[zE hd]at aa;subst aa;have hb:(wdT w i==(⟨#[45]⟩:ByteArray))=true:=(Lr _ _).2 hd;rw[show (!(([]:List Int),true).2)=false from rfl,Aus];refine T ?_;refine X (Ad [] E F131 q1 E W E V) ?_;refine Ao 4 1 Aa E (T ?_);exact done E Ap [] (rdO w (i+1) e) (λ_ h=>h) E E U
 .rw[zD hd]at aa;have hb:(wdT w i==(⟨#[45]⟩:ByteArray))=false:=by
   cases hx:(wdT w i==(⟨#[45]⟩:ByteArray))
   .rfl
   .exact zX ((Lr _ _).1 hx) hd
  rw[<-aa]at q2;have q3:=Jy w (i+1) e (!res.2) 21;clear aa;refine T ?_;refine X (Ad [] E F131 q1 E W E V) ?_;refine C q2 F213 ?_;refine X (Ad [] E F128 q3 E W E V) ?_;exact done E Ap [] (rdO w (i+1) (Au e (!res.2) 21)) (λ_ h=>h) E E U
def Aoi(s:ByteArray):∃m:Nat,(macR s).1=m/\m<281474976710656:=by
 rw[macR];split
 .rename_i h;have:=Yt (s:=s) (j:=6) (λi hi=>by have:=h.2;rw[yU]at this;exact this i (xA.2 hi));refine⟨(Xh s 6).toNat,?_,?_⟩
  .rw[yR this.1]
  .have h2:Xh s 6<281474976710656:=this.2;omega
 .exact⟨0,E,by decide⟩
def macE(s:ByteArray):Bool:=!((macR s).2&&statB (macR s).1)
def Aw4(w:List ByteArray)(i:Nat)(e:Int)(hi:i<w.length)(hw:w.length<=1000000)(hs:∀s∈w,s.size<=40):Sq 127 [.ptr 0 0] (rdO w i e) (Bi (macR (wdT w i)).1) (rdO w (i+1) (Au e (macE (wdT w i)) 21)):=cT F127 ntmps127 λF hF=>by
 have hwd:(wdT w i).size<=40:=by rw[Dk hi];exact hs _ (zI hi)
 have q1:=O8 w i e hi hw;have q2:=Ayk (wdT w i) z_;obtain ⟨m,bf,bw⟩:=Aoi (wdT w i);have q4:=nM m z_;have aa:=macE.eq_1 (wdT w i);rw[bf]at aa;generalize macE (wdT w i)=be at *;have q3:=Jy w (i+1) e be 21;generalize macR (wdT w i)=r at *;obtain ⟨rv,rb⟩:=r;dsimp only at bf;subst bf;generalize statB (m:Int)=sb at *;cases rb with
 |false=>
  simp at aa;subst aa;refine T ?_;refine X (Ad [] E F131 q1 E W E V) ?_;refine C q2 F207 ?_;refine X (Ad [] E F128 q3 E W E V) ?_;exact done E Ap [] (rdO w (i+1) (Au e true 21)) (λ_ h=>h) E E U
 |true=>
  simp at aa;subst aa;refine T ?_;refine X (Ad [] E F131 q1 E W E V) ?_;refine gI q2 F207 q4 F208 ?_;refine X (Ad [] E F128 q3 E W E V) ?_;exact done E Ap [] (rdO w (i+1) (Au e (!sb) 21)) (λ_ h=>h) E E U
def Ji{a b:ByteArray}(h:a≠b):(a==b)=false:=by
 cases hx:(a==b)
 .rfl
 .exact zX ((Lr _ _).1 hx) h
def Hx{a b:ByteArray}(h:a=b):(a==b)=true:=(Lr _ _).2 h
def Ahl{a b:ByteArray}(h:a≠b):(!(a==b))=true:=by rw[Ji h];rfl
def lU{a b:ByteArray}(h:a=b):(!(a==b))=false:=by rw[Hx h];rfl
def Ib(s:ByteArray):Sp 123 [Ar s] (Aa (kindL s)):=cT F123 ntmps123 λF hF=>by
 have hk:=kindL.eq_1 s;generalize kindL s=k at *;by_cases c1:s=(⟨#[100,101,118,105,99,101]⟩:ByteArray)
 .have b1:=Hx c1;rw[zE c1]at hk;subst hk;exact gA
 have b1:=Ji c1;rw[zD c1]at hk;by_cases c2:s=(⟨#[112,111,114,116]⟩:ByteArray)
 .have b2:=Hx c2;rw[zE c2]at hk;subst hk;exact gA
 have b2:=Ji c2;rw[zD c2]at hk;by_cases c3:s=(⟨#[108,105,110,107]⟩:ByteArray)
 .have b3:=Hx c3;rw[zE c3]at hk;subst hk;exact gA
 have b3:=Ji c3;rw[zD c3]at hk;by_cases c4:s=(⟨#[115,116,97,116,105,99]⟩:ByteArray)
 .have b4:=Hx c4;rw[zE c4]at hk;subst hk;exact gA
 have b4:=Ji c4;rw[zD c4]at hk;by_cases c5:s=(⟨#[118,116,101,112]⟩:ByteArray)
 .have b5:=Hx c5;rw[zE c5]at hk;subst hk;exact gA
 have b5:=Ji c5;rw[zD c5]at hk;by_cases c6:s=(⟨#[118,110,105]⟩:ByteArray)
 .have b6:=Hx c6;rw[zE c6]at hk;subst hk;exact gA
 have b6:=Ji c6;rw[zD c6]at hk;by_cases c7:s=(⟨#[102,108,111,111,100]⟩:ByteArray)
 .have b7:=Hx c7;rw[zE c7]at hk;subst hk;exact gA
 have b7:=Ji c7;rw[zD c7]at hk;by_cases c8:s=(⟨#[118,114,102]⟩:ByteArray)
 .have b8:=Hx c8;rw[zE c8]at hk;subst hk;exact gA
 have b8:=Ji c8;rw[zD c8]at hk;by_cases c9:s=(⟨#[105,114,98]⟩:ByteArray)
 .have b9:=Hx c9;rw[zE c9]at hk;subst hk;exact gA
 have b9:=Ji c9;rw[zD c9]at hk;subst hk;exact gA
def Ia(k:Int)(hk:0<=k/\k<=9)(w:List ByteArray)(hw:w.length<=1000000):Sp 122 [Aa k,.sl 1 Ar w] (Ab (manyB k w)):=cT F122 ntmps122 λF hF=>by
 have bw:=manyB.eq_1 k w;generalize manyB k w=r at *;rcases (by omega:k=0\/k=1\/k=2\/k=3\/k=4\/k=5\/k=6\/k=7\/k=8\/k=9) with h|h|h|h|h|h|h|h|h|h
 .subst h;have hr:r=false:=by rw[bw];simp
  subst hr;exact gA
 .subst h;have hr:r=decide (w.length=4):=by rw[bw];simp
  subst hr;refine T ?_;refine Aq E Ap (zH Ab ?_) E;by_cases hn:w.length=4
  .rw[hn];rfl
  .rw[zL hn];symm;simp;omega
 .subst h;rw[zD y_,zE rfl]at bw;by_cases h6:w.length<6
  .rw[zE h6]at bw;subst bw;exact gA
  .rw[zD h6]at bw;have f6:decide ((w.length:Int)<6)=false:=zL z_;have h4:(4:Int).toNat<w.length:=by show 4<w.length;omega
   have hx:wdT w 4=w[(4:Int).toNat]'h4:=Dk z_;rw[hx]at bw;by_cases ca:w[(4:Int).toNat]'h4=Hy
   .have ba:(w[(4:Int).toNat]'h4==(⟨#[97,99,99,101,115,115]⟩:ByteArray))=true:=Hx ca;have bt:(w[(4:Int).toNat]'h4==(⟨#[116,114,117,110,107]⟩:ByteArray))=false:=Ji (by rw[ca];exact Afh);have na:(!(w[(4:Int).toNat]'h4==(⟨#[97,99,99,101,115,115]⟩:ByteArray)))=false:=lU ca;rw[zE ca]at bw;by_cases hn:w.length=6
    .rw[zK hn]at bw;subst bw;exact gA
    .rw[zL hn]at bw;have fb:((w.length:Int)==6)=false:=by rw[zT];omega
     subst bw;exact gA
   .have ba:(w[(4:Int).toNat]'h4==(⟨#[97,99,99,101,115,115]⟩:ByteArray))=false:=Ji ca;have na:(!(w[(4:Int).toNat]'h4==(⟨#[97,99,99,101,115,115]⟩:ByteArray)))=true:=Ahl ca;rw[zD ca]at bw;by_cases rq:w[(4:Int).toNat]'h4=Hd
    .have bt:(w[(4:Int).toNat]'h4==(⟨#[116,114,117,110,107]⟩:ByteArray))=true:=Hx rq;have nt:(!(w[(4:Int).toNat]'h4==(⟨#[116,114,117,110,107]⟩:ByteArray)))=false:=lU rq;rw[zE rq]at bw;by_cases hn:w.length=7
     .rw[zK hn]at bw;subst bw;exact gA
     .rw[zL hn]at bw;have fb:((w.length:Int)==7)=false:=by rw[zT];omega
      subst bw;exact gA
    .have bt:(w[(4:Int).toNat]'h4==(⟨#[116,114,117,110,107]⟩:ByteArray))=false:=Ji rq;have nt:(!(w[(4:Int).toNat]'h4==(⟨#[116,114,117,110,107]⟩:ByteArray)))=true:=Ahl rq;rw[zD rq]at bw;subst bw;refine T ?_;refine Aq E Ap (zH Ab ?_) E;exact decide_eq_decide.2 z_
 .subst h;have hr:r=decide (w.length=5):=by rw[bw];simp
  subst hr;refine T ?_;refine Aq E Ap (zH Ab ?_) E;by_cases hn:w.length=5
  .rw[hn];rfl
  .rw[zL hn];symm;simp;omega
 .subst h;have hr:r=decide (w.length=5):=by rw[bw];simp
  subst hr;refine T ?_;refine Aq E Ap (zH Ab ?_) E;by_cases hn:w.length=5
  .rw[hn];rfl
  .rw[zL hn];symm;simp;omega
 .subst h;have hr:r=decide (w.length=3):=by rw[bw];simp
  subst hr;refine T ?_;refine Aq E Ap (zH Ab ?_) E;by_cases hn:w.length=3
  .rw[hn];rfl
  .rw[zL hn];symm;simp;omega
 .subst h;have hr:r=decide (w.length=4):=by rw[bw];simp
  subst hr;refine T ?_;refine Aq E Ap (zH Ab ?_) E;by_cases hn:w.length=4
  .rw[hn];rfl
  .rw[zL hn];symm;simp;omega
 .subst h;have hr:r=decide (w.length=4):=by rw[bw];simp
  subst hr;refine T ?_;refine Aq E Ap (zH Ab ?_) E;by_cases hn:w.length=4
  .rw[hn];rfl
  .rw[zL hn];symm;simp;omega
 .subst h;have hr:r=decide (w.length=5):=by rw[bw];simp
  subst hr;refine T ?_;refine Aq E Ap (zH Ab ?_) E;by_cases hn:w.length=5
  .rw[hn];rfl
  .rw[zL hn];symm;simp;omega
 .subst h;have hr:r=decide (w.length=5):=by rw[bw];simp
  subst hr;refine T ?_;refine Aq E Ap (zH Ab ?_) E;by_cases hn:w.length=5
  .rw[hn];rfl
  .rw[zL hn];symm;simp;omega
def dU(a:Nat)(b:Int)(ha:a<4294967296):Sp 136 [M8 a b] (Ab (subnetB a b)):=cT F136 ntmps136 λF hF=>by
 have q1:=Ab2 a b ha;have q2:=dO a b ha;have hs:=subnetB.eq_1 (a:Int) b;generalize subnetB (a:Int) b=r at *;generalize D9 (a:Int) b=fi at *;generalize H4 (a:Int) b=la at *;by_cases h1:1<=b
 .by_cases h2:b<=30
  .by_cases h3:(a:Int)=fi
   .have f3:((a:Int) != fi)=false:=by rw[bne_eq_false_iff_eq];exact h3
    have hr:r=false:=by rw[hs];simp[h3]
    subst hr;refine gC q1 F214 ?_;exact D
   .have f3:((a:Int) != fi)=true:=by rw[xC];exact h3
    by_cases h4:(a:Int)=la
    .have f4:((a:Int) != la)=false:=by rw[bne_eq_false_iff_eq];exact h4
     have hr:r=false:=by rw[hs];simp[h4]
     subst hr;refine gB q1 F214 q2 F215 ?_;refine Aq E Ap (zH Ab f4.symm) E
    .have f4:((a:Int) != la)=true:=by rw[xC];exact h4
     have hr:r=true:=by rw[hs];simp[h1,h2,h3,h4]
     subst hr;refine gB q1 F214 q2 F215 ?_;refine Aq E Ap (zH Ab f4.symm) E
  .have hr:r=false:=by rw[hs];simp[h2]
   subst hr;exact gA
 .have hr:r=false:=by rw[hs];simp[h1]
  subst hr;exact gA
def Akg(l:List Int)(v:Int):l.contains v=inB l v:=by
 induction l with
 |nil=>rfl
 |cons x l ih=>
  rw[List.contains_cons,ih,inB,inB,List.any_cons];congr 1;exact Bool.beq_comm
def Kn(l:LineM)(hl:An l.tagged):Sp 209 [A3 l] (Ab (membersB l.vlan l.tagged)):=cT F209 ntmps209 λF hF=>by
 have q:=D3 l.tagged l.vlan hl;have bw:=membersB.eq_1 l.vlan l.tagged;rw[Akg]at bw;generalize membersB l.vlan l.tagged=r at *;generalize inB l.tagged l.vlan=ib at *;unfold An at hl;by_cases h1:0<l.vlan
 .have hr:r=!ib:=by rw[bw];simp[h1]
  subst hr;refine gC q F115 ?_;exact D
 .by_cases h2:l.tagged.length=0
  .have hr:r=false:=by
    rw[bw,zL h1,yB h2];rfl
   subst hr;exact gA
  .have hr:r=!ib:=by
    rw[bw];have:l.tagged.isEmpty=false:=by cases ht:l.tagged<;>simp_all
    simp[this]
   have f2:decide ((l.tagged.length:Int)>0)=true:=zK z_;subst hr;refine gC q F115 ?_;exact D
theorem iG(v0:Int->SV){f0 m0:Nat}{g0:Func}(F0:fT f0 g0)(n0:g0.ntmps=m0)(h:let v0:Int->SV:=v0;fT f0 g0->g0.ntmps=m0->∀ (l m:List Int) (hl:l.length<=1000000) (bf:m.length<=1000000),Sp f0 [.sl 1 v0 l,.sl 1 v0 m] (Ab (l == m)):=by
 intro v0 F0 n0 l m hl bf
 refine cT F0 n0 λF hF=>?_
 by_cases hlen:l.length=m.length;rotate_left
 .have hr:(l==m)=false:=by
   rw[zT];intro e;exact hlen (by rw[e])
  have f0:((l.length:Int) != (m.length:Int))=true:=by rw[xC];omega
  rw[hr];exact gA
 have f0:((l.length:Int) != (m.length:Int))=false:=by rw[bne_eq_false_iff_eq];omega
 refine T ?_;refine A7 l.length (λj=>l.take j=m.take j) (λj=>[(0,.sl 1 v0 l),(1,.sl 1 v0 m),(12,Aa l.length),(13,Aa j)]) (λ_=>[]) [] E U ?_;intro j hj hI;refine gL ?_ ?_<;>intro h
 .have ab:j<l.length:=qA h;have hlm:j<m.length:=by omega
  have aq:(j:Int).toNat<l.length:=ab;have yg:(j:Int).toNat<m.length:=hlm;clear h;by_cases he:l[j]=m[j]
  .have f1:(l[(j:Int).toNat]'aq != m[(j:Int).toNat]'yg)=false:=by rw[bne_eq_false_iff_eq];exact he
   refine T ?_;refine A6 [] hI z_ ?_ U;rw[yA ab,yA hlm,hI,he]
  .have f1:(l[(j:Int).toNat]'aq != m[(j:Int).toNat]'yg)=true:=by rw[xC];exact he
   have hr:(l==m)=false:=by
    rw[zT];intro e;subst e;exact he rfl
   rw[hr];exact gA
 .have cq:j=l.length:=qB h;subst cq;have hr:(l==m)=true:=by
   rw[yJ];rw[yM,hlen,yM]at hI;exact hI
  rw[hr];clear h;exact gA):∀ (l m:List Int) (hl:l.length<=1000000) (bf:m.length<=1000000),Sp f0 [.sl 1 v0 l,.sl 1 v0 m] (Ab (l == m)):=h F0 n0
def L7:=iG Aa F412 ntmps412
def fZ:=iG A9 F413 ntmps413
def Ash(a b:LineM)(ha:LineFin a)(hb:LineFin b):Sp 391 [A3 a,A3 b] (Ab (M0 a b)):=cT F391 ntmps391 λF hF=>by
 have ht:=ha.t;have hi:=ha.i;have he:=ha.e;have haa:=ha.a
 have ht2:=hb.t;have km:=hb.i;have du:=hb.e;have haa2:=hb.a
 have q0:=L7 a.tagged b.tagged z_ z_;have q1:=L7 a.imports b.imports z_ z_;have q2:=L7 a.exports b.exports z_ z_;have q3:=fZ a.addrs b.addrs z_ z_;rw[M0];cases h_row:(a.row==b.row)
 .rw[yC];exact gA
 rw[yD];cases h_kind:(a.kind==b.kind)
 .rw[yC];exact gA
 rw[yD];cases h_dev:(a.dev==b.dev)
 .rw[yC];exact gA
 rw[yD];cases h_port:(a.port==b.port)
 .rw[yC];exact gA
 rw[yD];cases h_peer:(a.peer==b.peer)
 .rw[yC];exact gA
 rw[yD];cases h_far:(a.far==b.far)
 .rw[yC];exact gA
 rw[yD];cases h_name:(a.name==b.name)
 .rw[yC];exact gA
 rw[yD];cases h_mac:(a.mac==b.mac)
 .rw[yC];exact gA
 rw[yD];cases h_addr:(a.addr==b.addr)
 .rw[yC];exact gA
 rw[yD];cases h_bits:(a.bits==b.bits)
 .rw[yC];exact gA
 rw[yD];cases h_vlan:(a.vlan==b.vlan)
 .rw[yC];exact gA
 rw[yD];cases h_num:(a.num==b.num)
 .rw[yC];exact gA
 rw[yD];cases h_cost:(a.cost==b.cost)
 .rw[yC];exact gA
 rw[yD];cases kr:(a.tagged==b.tagged)
 .rw[kr]at q0;rw[yC];refine gC q0 F412 ?_;exact D
 rw[kr]at q0;rw[yD];cases iw:(a.imports==b.imports)
 .rw[iw]at q1;rw[yC];refine gB q0 F412 q1 F412 ?_;exact D
 rw[iw]at q1;rw[yD];cases iy:(a.exports==b.exports)
 .rw[iy]at q2;rw[yC];refine gB q0 F412 q1 F412 ?_;refine C q2 F412 ?_;exact D
 rw[iy]at q2;rw[yD];cases mz:(a.addrs==b.addrs)
 .rw[mz]at q3
  skip
  refine gB q0 F412 q1 F412 ?_;refine gI q2 F412 q3 F413 ?_;exact D
 rw[mz]at q3;refine gB q0 F412 q1 F412 ?_;refine gI q2 F412 q3 F413 ?_;exact D
def Hl(n lo hi:Int):Sp 409 [Aa n,Aa lo,Aa hi] (Ab (Cq n lo hi)):=cT F409 ntmps409 λF hF=>by
 rw[Cq];by_cases h1:lo<=n
 .have f1:decide (n>=lo)=true:=zK h1;rw[zK h1,yD];exact gA
 .have f1:decide (n>=lo)=false:=zL h1;rw[zL h1,yC];exact gA
def cK(l:List Int)(a7:Int)(hl:l.length<=100000):Sp 410 [.sl 1 Aa l,Aa a7] (Ab (Em l a7)):=cT F410 ntmps410 λF hF=>by
 have q:=oW l 1 a7 (by simp only[An];omega);rw[Em,U3];by_cases h0:l.length=0
 .rw[zK h0,vG];have f0:((l.length:Int)==0)=true:=by rw[h0];rfl
  exact gA
 .rw[zL h0,vY];have f0:((l.length:Int)==0)=false:=by rw[zT];omega
  refine gC q F151 ?_;exact D
def Wh(l:List Int)(i:Nat)(x:Int):Bool:=decide (x≠0)&&(i==0||decide (l.getD (i-1) 0<x))
def Ap8(l:List Int):K6 l=(H9 (Wh l) l&&(decide (0<l.length)&&decide (l.length<=16))):=by
 have e:(List.range l.length).all (λi=>decide (l.getD i 0≠0)&&(i==0||decide (l.getD (i-1) 0<l.getD i 0)))=H9 (Wh l) l:=by
  rw[wO,yU,allB_iff];constructor
  .intro h i hi;have:=h i (xA.2 hi);rw[show l.getD i 0=l[i] by rw[wF,zR hi];rfl]at this;exact this
  .intro h i hi;have hi:=xA.1 hi;rw[show l.getD i 0=l[i] by rw[wF,zR hi];rfl];exact h i hi
 rw[K6,e]
def Am0(l:List Int)(hl:l.length<=100000):Sp 411 [.sl 1 A9 l] (Ab (K6 l)):=cT F411 ntmps411 λF hF=>by
 have aa:=Ap8 l;generalize K6 l=r at *;refine T ?_;refine A7 l.length (λj=>Ek (Wh l) l j) (λj=>[(0,.sl 1 A9 l),(5,.sl 1 A9 l),(6,Aa l.length),(7,Aa j)]) (λ_=>[]) [] (Bh _ _) U ?_;intro j hj hI;refine gL ?_ ?_<;>intro h
 .have ab:j<l.length:=qA h;have aq:(j:Int).toNat<l.length:=ab;have cu:=λh=>Dd (p:=Wh l) ab h
  have eo:=λh=>Bc (p:=Wh l) hI ab h
  clear h;by_cases h1:l[j]=0
  .have f1:(l[(j:Int).toNat]'aq==0)=true:=yJ.2 h1;rw[cu (by simp[Wh,h1]),yC]at aa;subst aa;exact gA
  .have f1:(l[(j:Int).toNat]'aq==0)=false:=zT.2 h1;by_cases h2:j=0
   .subst h2;refine T ?_;exact A6 [] hI z_ (eo (by simp[Wh,h1])) U
   .have f2:decide ((j:Int)>0)=true:=zK z_;have hk:((j:Int)-1).toNat<l.length:=by omega
    have hg:l.getD (j-1) 0=l[((j:Int)-1).toNat]'hk:=by
     rw[wF,zR (by omega:j-1<l.length)];have:((j:Int)-1).toNat=j-1:=by omega
     simp only[this];rfl
    have hx:Wh l j l[j]=(decide (l[j]≠0)&&(j==0||decide (l.getD (j-1) 0<l[j]))):=rfl;rw[hg]at hx;by_cases h3:l[((j:Int)-1).toNat]'hk<l[j]
    .have f3:decide (l[((j:Int)-1).toNat]'hk>=l[(j:Int).toNat]'aq)=false:=zL (by show ¬_>=l[j];omega);refine T ?_;exact A6 [] hI z_ (eo (by rw[hx,zK h1,zK h3,Bool.or_true];rfl)) U
    .have f3:decide (l[((j:Int)-1).toNat]'hk>=l[(j:Int).toNat]'aq)=true:=zK (by show _>=l[j];omega);rw[cu (by rw[hx,zL h3,zT.2 h2];simp),yC]at aa;subst aa;exact gA
 .have cq:j=l.length:=qB h;subst cq;rw[Hc hI (yG _),yD]at aa;subst aa;clear h;by_cases h0:0<l.length
  .rw[zK h0,yD];have f0:decide ((l.length:Int)>0)=true:=zK z_;refine T ?_;refine Aq E Ap (zH Ab ?_) E;exact decide_eq_decide.2 z_
  .rw[zL h0,yC];have f0:decide ((l.length:Int)>0)=false:=zL z_;exact gA
structure LineW(l:LineM):Prop where
 fin:LineFin l
 ok:LineOK l
 dev:l.dev.size<=100000
 port:l.port.size<=100000
 peer:l.peer.size<=100000
 far:l.far.size<=100000
 name:l.name.size<=100000
def Amp(l:LineM)(hw:LineW l)(hk:l.kind=1):Sp 390 [A3 l] (.tup [A3 (Bn l).1,Ab (Bn l).2]):=cT F390 ntmps390 λF hF=>by
 have hU:Bn l=({lineZ with row:=l.row,kind:=1,dev:=l.dev,num:=l.num,mac:=l.mac},(Cq l.num 0 65535&&statB l.mac)):=by
  simp only[Bn,hk];rfl
 rw[hU];have q0:=Hl l.num 0 65535;have q1:Sp 208 [Bi l.mac] (Ab (statB l.mac)):=by
  have:=hw.ok.mac;obtain ⟨m,bf⟩:∃m:Nat,l.mac=m:=⟨l.mac.toNat,by omega⟩
  rw[bf];exact nM m z_
 obtain ⟨row,kind,dev,port,peer,far,name,mac,addr,bits,vlan,num,cost,tagged,imports,exports,addrs⟩:=l;dsimp only at hk q0 q1|-;subst hk;clear hU hw;generalize Cq num 0 65535=b0 at *;generalize statB mac=b1 at *;cases b0
 .rw[yC];refine gC q0 F409 ?_;exact Ak 2 (Ch {lineZ with row:=row,kind:=1,dev:=dev,num:=num,mac:=mac}) rfl vL gA
 rw[yD];refine gB q0 F409 q1 F208 ?_;exact Ak 2 (Ch {lineZ with row:=row,kind:=1,dev:=dev,num:=num,mac:=mac}) rfl vL gA
def Amo(l:LineM)(hw:LineW l)(hk:l.kind=2):Sp 390 [A3 l] (.tup [A3 (Bn l).1,Ab (Bn l).2]):=cT F390 ntmps390 λF hF=>by
 have hU:Bn l=({lineZ with row:=l.row,kind:=2,dev:=l.dev,port:=l.port,cost:=l.cost,vlan:=l.vlan,tagged:=l.tagged},(A1 l.port&&(Cq l.cost 1 65535&&(Cq l.vlan 0 4094&&(Em l.tagged 4094&&membersB l.vlan l.tagged))))):=by
  simp only[Bn,hk];rfl
 rw[hU];have q0:=Ew l.port (by have:=hw.port;omega);have q1:=Hl l.cost 1 65535;have q2:=Hl l.vlan 0 4094;have q3:=cK l.tagged 4094 hw.fin.t;have q4:=Kn l (by have:=hw.fin.t;simp only[An];omega);obtain ⟨row,kind,dev,port,peer,far,name,mac,addr,bits,vlan,num,cost,tagged,imports,exports,addrs⟩:=l;dsimp only at hk q0 q1 q2 q3 q4|-;subst hk;clear hU hw;generalize A1 port=b0 at *;generalize Cq cost 1 65535=b1 at *;generalize Cq vlan 0 4094=b2 at *;generalize Em tagged 4094=b3 at *;generalize membersB vlan tagged=b4 at *;cases b0
 .rw[yC];refine gC q0 F71 ?_;exact Ak 2 (Ch {lineZ with row:=row,kind:=2,dev:=dev,port:=port,cost:=cost,vlan:=vlan,tagged:=tagged}) rfl vL gA
 rw[yD];cases b1
 .rw[yC];refine gB q0 F71 q1 F409 ?_;exact Ak 2 (Ch {lineZ with row:=row,kind:=2,dev:=dev,port:=port,cost:=cost,vlan:=vlan,tagged:=tagged}) rfl vL gA
 rw[yD];cases b2
 .rw[yC];refine gB q0 F71 q1 F409 ?_;refine C q2 F409 ?_;exact Ak 2 (Ch {lineZ with row:=row,kind:=2,dev:=dev,port:=port,cost:=cost,vlan:=vlan,tagged:=tagged}) rfl vL gA
 rw[yD];cases b3
 .rw[yC];refine gB q0 F71 q1 F409 ?_;refine gI q2 F409 q3 F410 ?_;exact Ak 2 (Ch {lineZ with row:=row,kind:=2,dev:=dev,port:=port,cost:=cost,vlan:=vlan,tagged:=tagged}) rfl vL gA
 rw[yD];refine gB q0 F71 q1 F409 ?_;refine gI q2 F409 q3 F410 ?_;refine C q4 F209 ?_;exact Ak 2 (Ch {lineZ with row:=row,kind:=2,dev:=dev,port:=port,cost:=cost,vlan:=vlan,tagged:=tagged}) rfl vL gA
def Amn(l:LineM)(hw:LineW l)(hk:l.kind=3):Sp 390 [A3 l] (.tup [A3 (Bn l).1,Ab (Bn l).2]):=cT F390 ntmps390 λF hF=>by
 have hU:Bn l=({lineZ with row:=l.row,kind:=3,dev:=l.dev,port:=l.port,peer:=l.peer,far:=l.far},(A1 l.port&&(A1 l.peer&&A1 l.far))):=by
  simp only[Bn,hk];rfl
 rw[hU];have q0:=Ew l.port (by have:=hw.port;omega);have q1:=Ew l.peer (by have:=hw.peer;omega);have q2:=Ew l.far (by have:=hw.far;omega);obtain ⟨row,kind,dev,port,peer,far,name,mac,addr,bits,vlan,num,cost,tagged,imports,exports,addrs⟩:=l;dsimp only at hk q0 q1 q2|-;subst hk;clear hU hw;generalize A1 port=b0 at *;generalize A1 peer=b1 at *;generalize A1 far=b2 at *;cases b0
 .rw[yC];refine gC q0 F71 ?_;exact Ak 2 (Ch {lineZ with row:=row,kind:=3,dev:=dev,port:=port,peer:=peer,far:=far}) rfl vL gA
 rw[yD];cases b1
 .rw[yC];refine gB q0 F71 q1 F71 ?_;exact Ak 2 (Ch {lineZ with row:=row,kind:=3,dev:=dev,port:=port,peer:=peer,far:=far}) rfl vL gA
 rw[yD];refine gB q0 F71 q1 F71 ?_;refine C q2 F71 ?_;exact Ak 2 (Ch {lineZ with row:=row,kind:=3,dev:=dev,port:=port,peer:=peer,far:=far}) rfl vL gA
def Amm(l:LineM)(hw:LineW l)(hk:l.kind=4):Sp 390 [A3 l] (.tup [A3 (Bn l).1,Ab (Bn l).2]):=cT F390 ntmps390 λF hF=>by
 have hU:Bn l=({lineZ with row:=l.row,kind:=4,dev:=l.dev,vlan:=l.vlan,mac:=l.mac,port:=l.port},(Cq l.vlan 1 4094&&(statB l.mac&&A1 l.port))):=by
  simp only[Bn,hk];rfl
 rw[hU];have q0:=Hl l.vlan 1 4094;have q1:Sp 208 [Bi l.mac] (Ab (statB l.mac)):=by
  have:=hw.ok.mac;obtain ⟨m,bf⟩:∃m:Nat,l.mac=m:=⟨l.mac.toNat,by omega⟩
  rw[bf];exact nM m z_
 have q2:=Ew l.port (by have:=hw.port;omega);obtain ⟨row,kind,dev,port,peer,far,name,mac,addr,bits,vlan,num,cost,tagged,imports,exports,addrs⟩:=l;dsimp only at hk q0 q1 q2|-;subst hk;clear hU hw;generalize Cq vlan 1 4094=b0 at *;generalize statB mac=b1 at *;generalize A1 port=b2 at *;cases b0
 .rw[yC];refine gC q0 F409 ?_;exact Ak 2 (Ch {lineZ with row:=row,kind:=4,dev:=dev,vlan:=vlan,mac:=mac,port:=port}) rfl vL gA
 rw[yD];cases b1
 .rw[yC];refine gB q0 F409 q1 F208 ?_;exact Ak 2 (Ch {lineZ with row:=row,kind:=4,dev:=dev,vlan:=vlan,mac:=mac,port:=port}) rfl vL gA
 rw[yD];refine gB q0 F409 q1 F208 ?_;refine C q2 F71 ?_;exact Ak 2 (Ch {lineZ with row:=row,kind:=4,dev:=dev,vlan:=vlan,mac:=mac,port:=port}) rfl vL gA
def Amk(l:LineM)(hw:LineW l)(hk:l.kind=6):Sp 390 [A3 l] (.tup [A3 (Bn l).1,Ab (Bn l).2]):=cT F390 ntmps390 λF hF=>by
 have hU:Bn l=({lineZ with row:=l.row,kind:=6,dev:=l.dev,vlan:=l.vlan,num:=l.num},(Cq l.vlan 1 4094&&Cq l.num 1 16777215)):=by
  simp only[Bn,hk];rfl
 rw[hU];have q0:=Hl l.vlan 1 4094;have q1:=Hl l.num 1 16777215;obtain ⟨row,kind,dev,port,peer,far,name,mac,addr,bits,vlan,num,cost,tagged,imports,exports,addrs⟩:=l;dsimp only at hk q0 q1|-;subst hk;clear hU hw;generalize Cq vlan 1 4094=b0 at *;generalize Cq num 1 16777215=b1 at *;cases b0
 .rw[yC];refine gC q0 F409 ?_;exact Ak 2 (Ch {lineZ with row:=row,kind:=6,dev:=dev,vlan:=vlan,num:=num}) rfl vL gA
 rw[yD];refine gB q0 F409 q1 F409 ?_;exact Ak 2 (Ch {lineZ with row:=row,kind:=6,dev:=dev,vlan:=vlan,num:=num}) rfl vL gA
def Amj(l:LineM)(hw:LineW l)(hk:l.kind=7):Sp 390 [A3 l] (.tup [A3 (Bn l).1,Ab (Bn l).2]):=cT F390 ntmps390 λF hF=>by
 have hU:Bn l=({lineZ with row:=l.row,kind:=7,dev:=l.dev,num:=l.num,addrs:=l.addrs},(Cq l.num 1 16777215&&K6 l.addrs)):=by
  simp only[Bn,hk];rfl
 rw[hU];have q0:=Hl l.num 1 16777215;have q1:=Am0 l.addrs hw.fin.a;obtain ⟨row,kind,dev,port,peer,far,name,mac,addr,bits,vlan,num,cost,tagged,imports,exports,addrs⟩:=l;dsimp only at hk q0 q1|-;subst hk;clear hU hw;generalize Cq num 1 16777215=b0 at *;generalize K6 addrs=b1 at *;cases b0
 .rw[yC];refine gC q0 F409 ?_;exact Ak 2 (Ch {lineZ with row:=row,kind:=7,dev:=dev,num:=num,addrs:=addrs}) rfl vL gA
 rw[yD];refine gB q0 F409 q1 F411 ?_;exact Ak 2 (Ch {lineZ with row:=row,kind:=7,dev:=dev,num:=num,addrs:=addrs}) rfl vL gA
def Ami(l:LineM)(hw:LineW l)(hk:l.kind=8):Sp 390 [A3 l] (.tup [A3 (Bn l).1,Ab (Bn l).2]):=cT F390 ntmps390 λF hF=>by
 have hU:Bn l=({lineZ with row:=l.row,kind:=8,dev:=l.dev,name:=l.name,imports:=l.imports,exports:=l.exports},(A1 l.name&&(Em l.imports 65535&&Em l.exports 65535))):=by
  simp only[Bn,hk];rfl
 rw[hU];have q0:=Ew l.name (by have:=hw.name;omega);have q1:=cK l.imports 65535 hw.fin.i;have q2:=cK l.exports 65535 hw.fin.e;obtain ⟨row,kind,dev,port,peer,far,name,mac,addr,bits,vlan,num,cost,tagged,imports,exports,addrs⟩:=l;dsimp only at hk q0 q1 q2|-;subst hk;clear hU hw;generalize A1 name=b0 at *;generalize Em imports 65535=b1 at *;generalize Em exports 65535=b2 at *;cases b0
 .rw[yC];refine gC q0 F71 ?_;exact Ak 2 (Ch {lineZ with row:=row,kind:=8,dev:=dev,name:=name,imports:=imports,exports:=exports}) rfl vL gA
 rw[yD];cases b1
 .rw[yC];refine gB q0 F71 q1 F410 ?_;exact Ak 2 (Ch {lineZ with row:=row,kind:=8,dev:=dev,name:=name,imports:=imports,exports:=exports}) rfl vL gA
 rw[yD];refine gB q0 F71 q1 F410 ?_;refine C q2 F410 ?_;exact Ak 2 (Ch {lineZ with row:=row,kind:=8,dev:=dev,name:=name,imports:=imports,exports:=exports}) rfl vL gA
def Amh(l:LineM)(hw:LineW l)(hk:l.kind=9):Sp 390 [A3 l] (.tup [A3 (Bn l).1,Ab (Bn l).2]):=cT F390 ntmps390 λF hF=>by
 have hU:Bn l=({lineZ with row:=l.row,kind:=9,dev:=l.dev,vlan:=l.vlan,name:=l.name,addr:=l.addr,bits:=l.bits},(Cq l.vlan 1 4094&&(A1 l.name&&subnetB l.addr l.bits))):=by
  simp only[Bn,hk];rfl
 rw[hU];have q0:=Hl l.vlan 1 4094;have q1:=Ew l.name (by have:=hw.name;omega);have q2:Sp 136 [M8 l.addr l.bits] (Ab (subnetB l.addr l.bits)):=by
  have:=hw.ok.addr;obtain ⟨m,bf⟩:∃m:Nat,l.addr=m:=⟨l.addr.toNat,by omega⟩
  rw[bf];exact dU m l.bits z_
 obtain ⟨row,kind,dev,port,peer,far,name,mac,addr,bits,vlan,num,cost,tagged,imports,exports,addrs⟩:=l;dsimp only at hk q0 q1 q2|-;subst hk;clear hU hw;generalize Cq vlan 1 4094=b0 at *;generalize A1 name=b1 at *;generalize subnetB addr bits=b2 at *;cases b0
 .rw[yC];refine gC q0 F409 ?_;exact Ak 2 (Ch {lineZ with row:=row,kind:=9,dev:=dev,vlan:=vlan,name:=name,addr:=addr,bits:=bits}) rfl vL gA
 rw[yD];cases b1
 .rw[yC];refine gB q0 F409 q1 F71 ?_;exact Ak 2 (Ch {lineZ with row:=row,kind:=9,dev:=dev,vlan:=vlan,name:=name,addr:=addr,bits:=bits}) rfl vL gA
 rw[yD];refine gB q0 F409 q1 F71 ?_;refine C q2 F136 ?_;exact Ak 2 (Ch {lineZ with row:=row,kind:=9,dev:=dev,vlan:=vlan,name:=name,addr:=addr,bits:=bits}) rfl vL gA
def Aml(l:LineM)(hw:LineW l)(hk:l.kind=5):Sp 390 [A3 l] (.tup [A3 (Bn l).1,Ab (Bn l).2]):=cT F390 ntmps390 λF hF=>by
 have hU:Bn l=({lineZ with row:=l.row,kind:=5,dev:=l.dev,addr:=l.addr},decide (l.addr≠0)):=by
  simp only[Bn,hk];rfl
 rw[hU];obtain ⟨row,kind,dev,port,peer,far,name,mac,addr,bits,vlan,num,cost,tagged,imports,exports,addrs⟩:=l;dsimp only at hk|-;subst hk;clear hU hw;have hb:decide (addr≠0)=(addr != 0):=by
  by_cases h:addr=0
  .rw[h];rfl
  .rw[zK h,xC.2 h]
 rw[hb];refine T ?_;exact Ak 2 (Ch {lineZ with row:=row,kind:=5,dev:=dev,addr:=addr}) rfl vL gA
def Amq(l:LineM)(hk:¬(1<=l.kind/\l.kind<=9)):Sp 390 [A3 l] (.tup [A3 (Bn l).1,Ab (Bn l).2]):=cT F390 ntmps390 λF hF=>by
 have n1:¬l.kind=1:=by omega
 have f1:(l.kind==1)=false:=zT.2 n1;have n2:¬l.kind=2:=by omega
 have f2:(l.kind==2)=false:=zT.2 n2;have n3:¬l.kind=3:=by omega
 have f3:(l.kind==3)=false:=zT.2 n3;have n4:¬l.kind=4:=by omega
 have f4:(l.kind==4)=false:=zT.2 n4;have n5:¬l.kind=5:=by omega
 have f5:(l.kind==5)=false:=zT.2 n5;have n6:¬l.kind=6:=by omega
 have f6:(l.kind==6)=false:=zT.2 n6;have n7:¬l.kind=7:=by omega
 have f7:(l.kind==7)=false:=zT.2 n7;have n8:¬l.kind=8:=by omega
 have f8:(l.kind==8)=false:=zT.2 n8;have n9:¬l.kind=9:=by omega
 have f9:(l.kind==9)=false:=zT.2 n9;have hU:Bn l=({lineZ with row:=l.row,kind:=l.kind,dev:=l.dev},false):=by
  simp only[Bn,zD n1,zD n2,zD n3,zD n4,zD n5,zD n6,zD n7,zD n8,zD n9]
 rw[hU];refine T ?_;exact Ak 2 (Ch {lineZ with row:=l.row,kind:=l.kind,dev:=l.dev}) rfl vL gA
def Asf(l:LineM)(hw:LineW l):Sp 390 [A3 l] (.tup [A3 (Bn l).1,Ab (Bn l).2]):=by
 by_cases hk:1<=l.kind/\l.kind<=9
 .rcases (by omega:l.kind=1\/l.kind=2\/l.kind=3\/l.kind=4\/l.kind=5\/l.kind=6\/l.kind=7\/l.kind=8\/l.kind=9) with h|h|h|h|h|h|h|h|h
  .exact Amp l hw h
  .exact Amo l hw h
  .exact Amn l hw h
  .exact Amm l hw h
  .exact Aml l hw h
  .exact Amk l hw h
  .exact Amj l hw h
  .exact Ami l hw h
  .exact Amh l hw h
 .exact Amq l hk
def Ar0{l:LineM}(h:LineFin l):LineFin (Bn l).1:=by
 have ht:=h.t;have hi:=h.i;have he:=h.e;have haa:=h.a
 unfold Bn;dsimp only
 repeat' split
 all_goals exact⟨by first|exact ht|(show 0<=100000;decide),by first|exact hi|(show 0<=100000;decide),by first|exact he|(show 0<=100000;decide),by first|exact haa|(show 0<=100000;decide)⟩
def La(l:LineM)(hw:LineW l):Sp 349 [A3 l] (Ab (Cn l)):=cT F349 ntmps349 λF hF=>by
 have q1:=Asf l hw;have q2:=Ew l.dev (by have:=hw.dev;omega);have q3:=Ash (Bn l).1 l (Ar0 hw.fin) hw.fin;rw[Cn];generalize Bn l=u at *;obtain ⟨ul,ub⟩:=u;dsimp only at q1 q3|-;cases ub
 .rw[yC];refine gC q1 F390 ?_;exact D
 rw[yD];cases hn:A1 l.dev
 .rw[hn]at q2;rw[yC];refine gB q1 F390 q2 F71 ?_;exact D
 rw[hn]at q2;rw[yD];refine gB q1 F390 q2 F71 ?_;refine C q3 F391 ?_;exact D
def L2(e:Int)(l:List (Bool×Int)):Int:=l.foldl (λe x=>Au e x.1 x.2) e
def fC:∀(l:List (Bool×Int)) (e:Int),(∀x∈l,x.2≠0)->L2 e l=if e=0 then Bt l else e
 |[],e,_=>by
  show e=_;split
  .rename_i h;rw[h];rfl
  .rfl
 |(b,c)::l,e,h=>by
  have hc:=h (b,c) qq;have ih:=fC l (Au e b c) (λx hx=>h x (by simp[hx]));show L2 (Au e b c) l=_;rw[ih,Bt];dsimp only at hc;by_cases he:e=0
  .subst he;cases b with
   |true=>simp[Au,hc]
   |false=>simp[Au]
  .have:Au e b c=e:=by rw[Au,zD (λx=>he x.2)]
   rw[this,zD he,zD he]
def Dv(l:List (Bool×Int))(h:∀x∈l,x.2≠0):Bt l=L2 0 l:=by rw[fC l 0 h,zE rfl]
def W5(e:Int)(a b:List (Bool×Int)):L2 e (a++b)=L2 (L2 e a) b:=xO
abbrev rlO(w:List ByteArray)(i:Nat)(e:Int)(l:LineM):Obs:=[(0,.box [.sl 1 Ar w,Aa i,Aa e]),(1,.box (Ch l))]
def Aw9(w:List ByteArray):Nat:=if wdT w 4=Hy then 6 else if wdT w 4=Hd then 7 else 5
def eP(a7:Int)(s:ByteArray):(listR a7 s).1.length<=16:=by
 rw[listR];split
 .simp
 .rw[Ii];cases h:I6 (λp=>numR p 1 a7) [] (Cy 44 s) with
  |mk l b=>
   cases b with
   |true=>exact(Sm _ _ _ _ h List.Pairwise.nil y_).2.1
   |false=>
    have:∀(ps:List ByteArray) (out r:List Int),I6 (λp=>numR p 1 a7) out ps=(r,false)->r=[]:=by
     intro ps
     induction ps with
     |nil=>intro out r h;rw[I6]at h;simp at h
     |cons p ps ih=>
      intro out r h;rw[I6]at h;split at h
      .simp at h;exact h
      .exact ih _ _ h
    rw[this _ _ _ h];simp
set_option maxRecDepth 100000 in
def A1e(w:List ByteArray)(e:Int)(l:LineM)(hw:w.length<=1000000)(hs:∀s∈w,s.size<=40)(h4:4<w.length)(ha:wdT w 4=Hy->5<w.length)(htr:wdT w 4=Hd->6<w.length)(hl0:l.vlan=0/\l.tagged=[]):Sq 129 [.ptr 0 0,.ptr 1 0] (rlO w 4 e l) (.tup []) (rlO w (Aw9 w) (L2 e ((Eb w).2.2++[(!(membersB (Eb w).1 (Eb w).2.1),21)])) {l with vlan:=(Eb w).1,tagged:=(Eb w).2.1}):=cT F129 ntmps129 λF hF=>by
 obtain ⟨row,kind,dev,port,peer,far,name,mac,addr,bits,vlan,num,cost,tagged,imports,exports,addrs⟩:=l;obtain ⟨g1,g2⟩:=hl0;dsimp only at g1 g2;subst g1 g2;have q0:Sq 131 [.ptr 0 0] (rdO w 4 e) (Ar (wdT w 4)) (rdO w 5 e):=O8 w 4 e h4 hw;rw[Aw9,Eb,W5];by_cases c1:wdT w 4=Hy
 .have b1:(wdT w 4==(⟨#[97,99,99,101,115,115]⟩:ByteArray))=true:=Hx c1;have q1:=Z0 w 5 e (ha c1) hw;rw[zE c1,zE c1];have q2:=Kn ⟨row,kind,dev,port,peer,far,name,mac,addr,bits,(C0 (wdT w 5)).1,num,cost,[],imports,exports,addrs⟩ (by simp[An]);dsimp only at q2|-;have xa:L2 e [(!(C0 (wdT w 5)).2,21)]=Au e (!(C0 (wdT w 5)).2) 21:=rfl;rw[xa];have q3:=λb=>Jy w 6 (Au e (!(C0 (wdT w 5)).2) 21) b 21
  generalize Au e (!(C0 (wdT w 5)).2) 21=e1 at *;generalize (C0 (wdT w 5)).1=v at *;have pj:L2 e1 [(!(membersB v []),21)]=Au e1 (!(membersB v [])) 21:=rfl;rw[pj];have q3:=q3 (!(membersB v []));generalize Au e1 (!(membersB v [])) 21=e2 at *;generalize membersB v []=mb at *;refine T ?_;refine X (Ad [] E F131 q0 E W E V) ?_;refine X (Ad [] E F125 q1 E W E V) ?_;refine C q2 F209 ?_;refine X (Ad [] E F128 q3 E W E V) ?_;exact A2 E .nil [] (rlO w 6 e2 ⟨row,kind,dev,port,peer,far,name,mac,addr,bits,v,num,cost,[],imports,exports,addrs⟩) (λ_ h=>h) E E U
 .have b1:(wdT w 4==(⟨#[97,99,99,101,115,115]⟩:ByteArray))=false:=Ji c1;rw[zD c1,zD c1];by_cases c2:wdT w 4=Hd
  .have b2:(wdT w 4==(⟨#[116,114,117,110,107]⟩:ByteArray))=true:=Hx c2;have h6:=htr c2;have h5:((5:Nat):Int).toNat<w.length:=by show 5<w.length;omega
   have e5:w[((5:Nat):Int).toNat]'h5=wdT w 5:=(Dk z_).symm;rw[zE c2,zE c2];by_cases c3:wdT w 5=A2m
   .have b3:(w[((5:Nat):Int).toNat]'h5==(⟨#[45]⟩:ByteArray))=true:=Hx (by rw[e5];exact c3);rw[zE c3];have q1:=lL w 6 e 4094 h6 hw hs;have q2:=Kn ⟨row,kind,dev,port,peer,far,name,mac,addr,bits,0,num,cost,(listR 4094 (wdT w 6)).1,imports,exports,addrs⟩ (by have:=eP 4094 (wdT w 6);simp only[An];omega);dsimp only at q2|-;have xa:L2 e [(!(listR 4094 (wdT w 6)).2,21)]=Au e (!(listR 4094 (wdT w 6)).2) 21:=rfl;rw[xa];have q3:=λb=>Jy w 7 (Au e (!(listR 4094 (wdT w 6)).2) 21) b 21
    generalize Au e (!(listR 4094 (wdT w 6)).2) 21=e1 at *;generalize (listR 4094 (wdT w 6)).1=v at *;have pj:L2 e1 [(!(membersB 0 v),21)]=Au e1 (!(membersB 0 v)) 21:=rfl;rw[pj];have q3:=q3 (!(membersB 0 v));generalize Au e1 (!(membersB 0 v)) 21=e2 at *;generalize membersB 0 v=mb at *;refine T ?_;refine X (Ad [] E F131 q0 E W E V) ?_;refine X (Ad [] E F134 q1 E W E V) ?_;refine C q2 F209 ?_;refine X (Ad [] E F128 q3 E W E V) ?_;exact A2 E .nil [] (rlO w 7 e2 ⟨row,kind,dev,port,peer,far,name,mac,addr,bits,0,num,cost,v,imports,exports,addrs⟩) (λ_ h=>h) E E U
   .have b3:(w[((5:Nat):Int).toNat]'h5==(⟨#[45]⟩:ByteArray))=false:=Ji (by rw[e5];exact c3);rw[zD c3];have q4:=Z0 w 5 e z_ hw;have xa:L2 e [(!(C0 (wdT w 5)).2,21),(!(listR 4094 (wdT w 6)).2,21)]=Au (Au e (!(C0 (wdT w 5)).2) 21) (!(listR 4094 (wdT w 6)).2) 21:=rfl;dsimp only;rw[xa];generalize Au e (!(C0 (wdT w 5)).2) 21=e0 at *;have q1:=lL w 6 e0 4094 h6 hw hs;have q2:=Kn ⟨row,kind,dev,port,peer,far,name,mac,addr,bits,(C0 (wdT w 5)).1,num,cost,(listR 4094 (wdT w 6)).1,imports,exports,addrs⟩ (by have:=eP 4094 (wdT w 6);simp only[An];omega);dsimp only at q2;have q3:=λb=>Jy w 7 (Au e0 (!(listR 4094 (wdT w 6)).2) 21) b 21
    generalize Au e0 (!(listR 4094 (wdT w 6)).2) 21=e1 at *;generalize (listR 4094 (wdT w 6)).1=v at *;generalize (C0 (wdT w 5)).1=u at *;have pj:L2 e1 [(!(membersB u v),21)]=Au e1 (!(membersB u v)) 21:=rfl;rw[pj];have q3:=q3 (!(membersB u v));generalize Au e1 (!(membersB u v)) 21=e2 at *;generalize membersB u v=mb at *;refine T ?_;refine X (Ad [] E F131 q0 E W E V) ?_;refine X (Ad [] E F125 q4 E W E V) ?_;refine X (Ad [] E F134 q1 E W E V) ?_;refine C q2 F209 ?_;refine X (Ad [] E F128 q3 E W E V) ?_;exact A2 E .nil [] (rlO w 7 e2 ⟨row,kind,dev,port,peer,far,name,mac,addr,bits,u,num,cost,v,imports,exports,addrs⟩) (λ_ h=>h) E E U
  .have b2:(wdT w 4==(⟨#[116,114,117,110,107]⟩:ByteArray))=false:=Ji c2;rw[zD c2,zD c2];have q2:=Kn ⟨row,kind,dev,port,peer,far,name,mac,addr,bits,0,num,cost,[],imports,exports,addrs⟩ (by simp[An]);dsimp only at q2|-;have pj:L2 (L2 e []) [(!(membersB 0 []),21)]=Au e (!(membersB 0 [])) 21:=rfl;rw[pj];have q3:=Jy w 5 e (!(membersB 0 [])) 21;generalize Au e (!(membersB 0 [])) 21=e2 at *;generalize membersB 0 []=mb at *;refine T ?_;refine X (Ad [] E F131 q0 E W E V) ?_;refine C q2 F209 ?_;refine X (Ad [] E F128 q3 E W E V) ?_;exact A2 E .nil [] (rlO w 5 e2 ⟨row,kind,dev,port,peer,far,name,mac,addr,bits,0,num,cost,[],imports,exports,addrs⟩) (λ_ h=>h) E E U
end Go.Sy.Zaa
