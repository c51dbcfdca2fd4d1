/- Parts of a proof. -/
import Derived.Test.YticmobkdaneelaaGreatDoorYE41
set_option linter.all false
set_option linter.unusedVariables false
set_option linter.unusedSimpArgs false
set_option linter.deprecated false
namespace Go.Sy.YticmobkdaneelaaGreatDoor
open Go.Proofs Go.Proofs.Tryz
attribute [local irreducible] Go.Sy.G Go.Sy.DR
set_option maxRecDepth 100000
set_option maxHeartbeats 4000000
def Lk(t:List EntryM):SV:=.sl 3 A7 t
def Ae2(l:List QueuedM):SV:=.sl 7 Cb l
def Adj(n:Net)(k:Nat)(now inj:Int)(d:Nat→Int):List SV :=
 [.sl 5 Ax n.devices,.sl 7 A4 n.ports,.sl 3 Bz n.links,.sl 6 As n.domains,.sl 4 A0 n.statics,.sl 4 Ba n.floods,.sl 5 Ca n.vrfs,.sl 5 B4 n.irbs,.ptr k 0,.osl 2,.osl 3,.val (.int .i64 now),.val (.int .i64 inj),
 .val (.int .i64 (d 0)),.val (.int .i64 (d 1)),.val (.int .i64 (d 2)),.val (.int .i64 (d 3)),.val (.int .i64 (d 4)),.val (.int .i64 (d 5)),.val (.int .i64 (d 6)),.val (.int .i64 (d 7)),.val (.int .i64 (d 8)),.val (.int .i64 (d 9)),.val (.int .i64 (d 10)),.val (.int .i64 (d 11)),.val (.int .i64 (d 12)),.val (.int .i64 (d 13)),.val (.int .i64 (d 14)),.val (.int .i64 (d 15)),.val (.int .i64 (d 16)),.val (.int .i64 (d 17)),.val (.int .i64 (d 18)),.val (.int .i64 (d 19)),.val (.int .i64 (d 20)),.val (.int .i64 (d 21)),.val (.int .i64 (d 22)),.val (.int .i64 (d 23)),.val (.int .i64 (d 24)),.val (.int .i64 (d 25)),.val (.int .i64 (d 26)),.val (.int .i64 (d 27)),.val (.int .i64 (d 28)),.val (.int .i64 (d 29)),.val (.int .i64 (d 30)),.val (.int .i64 (d 31)),.val (.int .i64 (d 32)),.val (.int .i64 (d 33)),.val (.int .i64 (d 34)),.val (.int .i64 (d 35)),.val (.int .i64 (d 36)),.val (.int .i64 (d 37)),.val (.int .i64 (d 38)),.val (.int .i64 (d 39)),.val (.int .i64 (d 40)),.val (.int .i64 (d 41)),.val (.int .i64 (d 42)),.val (.int .i64 (d 43)),.val (.int .i64 (d 44)),.val (.int .i64 (d 45)),.val (.int .i64 (d 46)),.val (.int .i64 (d 47)),.val (.int .i64 (d 48)),.val (.int .i64 (d 49)),.val (.int .i64 (d 50)),.val (.int .i64 (d 51)),.val (.int .i64 (d 52)),.val (.int .i64 (d 53)),.val (.int .i64 (d 54)),.val (.int .i64 (d 55)),.val (.int .i64 (d 56)),.val (.int .i64 (d 57)),.val (.int .i64 (d 58)),.val (.int .i64 (d 59)),.val (.int .i64 (d 60)),.val (.int .i64 (d 61)),.val (.int .i64 (d 62)),.val (.int .i64 (d 63))]
def onceL(up:List Bool)(done:Int)(fw:List Bool):List SV:=[.sl 1 Ab up,.val (.int .u32 done),.val (.int .i32 0),.val (.int .u32 0),.sl 1 Ab fw]
def To(n:Net)(up:List Bool)(d:Bool):List SV:=onceL up (if d then 1 else 0) (if d then Qf n up else [])
def Eb(n:Net)(m:MacM)(d:Bool):Obs:=[(0,.box (Adj n 1 m.now m.injected m.drops)),(1,.box (To n m.up d)),(2,.row 1 Lk m.tables),(3,.row 1 Ae2 m.queues)]
def getI_map(f:Nat→SV):∀(k a n:Nat),k<n→If ((List.range' a n).map f) k=some (f (a+k))
 |0,a,n+1,_=>rfl
 |k+1,a,n+1,h=>by
  show If ((List.range' (a+1) n).map f) k=_;rw[getI_map f k (a+1) n q_];congr 2;omega
def Auy(f:Nat→SV)(x:SV):∀(k a n:Nat),((List.range' a n).map f).set k x=(List.range' a n).map (λi=>if i=a+k then x else f i)
 |_,_,0=>rfl
 |0,a,n+1=>by
  show x::(List.range' (a+1) n).map f=(if a=a+0 then x else f a)::(List.range' (a+1) n).map _;rw[zG q_];congr 1;apply tF;intro i hi;have:=(List.mem_range'_1.1 hi).1;rw[zD q_]
 |k+1,a,n+1=>by
  show f a::((List.range' (a+1) n).map f).set k x=(if a=a+(k+1) then x else f a)::(List.range' (a+1) n).map _;rw[zD q_,Auy f x k (a+1) n];congr 1;apply tF;intro i _;rw[show a+1+k=a+(k+1) by omega]
def Xt(n:Net)(k:Nat)(now inj:Int)(d:Nat→Int):Adj n k now inj d =
  .sl 5 Ax n.devices::.sl 7 A4 n.ports::.sl 3 Bz n.links::.sl 6 As n.domains::.sl 4 A0 n.statics::.sl 4 Ba n.floods::.sl 5 Ca n.vrfs::.sl 5 B4 n.irbs::.ptr k 0::.osl 2::.osl 3::.val (.int .i64 now)::.val (.int .i64 inj) ::
   (List.range' 0 64).map (λi=>.val (.int .i64 (d i))):=rfl
def A0t(n:Net)(k:Nat)(now inj:Int)(d:Nat→Int)(e:Nat)(he:e<64):If (Adj n k now inj d) (13+e)=some (.val (.int .i64 (d e))):=by
 rw[Xt,tJ];show If ((List.range' 0 64).map (λi=>SV.val (.int .i64 (d i)))) e=_;rw[getI_map _ e 0 64 he,wE]
def A0s(n:Net)(k:Nat)(now inj:Int)(d:Nat→Int)(e:Nat)(v:Int):(Adj n k now inj d).set (13+e) (.val (.int .i64 v))=Adj n k now inj (λi=>if i=e then v else d i):=by
 rw[Xt,Xt,tJ];have h:=Auy (λi=>SV.val (.int .i64 (d i))) (.val (.int .i64 v)) e 0 64;have h2:(λi=>if i=0+e then SV.val (.int .i64 v) else SV.val (.int .i64 (d i)))=(λi=>SV.val (.int .i64 (if i=e then v else d i))):=by
  funext i;rw[wE];split<;>rfl
 rw[h2]at h;rw[←h];rfl
def add64(a:Addr)(x y:Int)(w:World)(hc:w.cell? a=some (.int .i64 x))(hz:w.frozen? a=false):(callFunc 304 #[.pointer (some a),.int .i64 y]).run prog w=.ok (.value (.int .i64 (IntKind.i64.wrap (x+y)))) (w.setCell a (.int .i64 (IntKind.i64.wrap (x+y)))) :=
 run_call_add func304 z_ z_ z_ .i64 z_ hc hz rfl
def Aw4(n:Net)(k:Nat)(m:MacM)(e:Int):Adj n k m.now m.injected (C4 m e).drops=(Adj n k m.now m.injected m.drops).set (13+e.toNat) (.val (.int .i64 (m.drops e.toNat+1))):=by
 rw[A0s];congr 1;funext i;show (if i=e.toNat then m.drops i+1 else m.drops i)=_;split
 ·rename_i h;rw[h]
 ·rfl
def At2{x:Int}(h:0≤x∧x≤1000000000000):IntKind.i64.wrap (x+1)=x+1:=by
 rw[IntKind.wrap_i64];omega
def Aui(n:Net)(m:MacM)(d:Bool)(e:Int)(h0:0≤e)(h1:e<64)(hb:IntKind.i64.wrap (m.drops e.toNat+1)=m.drops e.toNat+1):Sq 228 [.ptr 0 (13+e.toNat),Aa 1] (Eb n m d) (Aa (m.drops e.toNat+1)) (Eb n (C4 m e) d):=cT F228 ntmps228 λF hF=>by
 have hg:=A0t n 1 m.now m.injected m.drops e.toNat q_;have hs:=Aw4 n 1 m e;have ab:=Ad1 hg;refine fW ?_;refine Af (Alf add64 E E E E hg hb) E E ?_;refine fU ?_;exact done E (.cons .tmp .nil) [] (Eb n (C4 m e) d) (λ_ h=>h) E E ⟨Y,⟨.inl (zH Ob.box hs),E,.inl E,E,.inl E,E,.inl E,E,Y⟩,E,E⟩
def Apw(n:Net)(m:MacM)(d:Bool)(e:Int)(h0:0≤e)(h1:e<64)(hb:0≤m.drops e.toNat∧m.drops e.toNat≤1000000000000):Sq 153 [.ptr 0 0,Aa e] (Eb n m d) (.tup []) (Eb n (C4 m e) d):=cT F153 ntmps153 λF hF=>by
 refine fW ?_;refine⟨h0,by omega,?_⟩;refine fU ?_;refine Af (Ad [] E F228 (Aui n m d e h0 h1 (At2 hb)) (zH (λz=>[SV.ptr 0 z,Aa 1]) (show 13+e.toNat=0+13+e.toNat*1 by omega)) ⟨E,E,E,E,Y⟩ E ⟨.inl E,.inl E,.inl E,.inl E,Y⟩) E E ?_;refine fU ?_;exact A6 E .nil [] (Eb n (C4 m e) d) (λ_ h=>h) E E kU
def Auw(n:Net)(m:MacM)(d:Bool)(dom:Int):Sq 155 [.ptr 0 0,Aa dom] (Eb n m d) (Ab (Ah dom m.queues.length)) (Eb n m d):=cT F155 ntmps155 λF hF=>by
 have aa:Ah dom m.queues.length=(decide (0≤dom)&&decide (dom<m.queues.length)):=rfl;generalize Ah dom m.queues.length=res at *;refine fW ?_;constructor<;>intro h
 ·refine fU ?_
  (repeat (first|(refine⟨λh=>False.elim (by first|(exact zY h j_)|(simp at h;done)|(simp at h;omega)),λ_=>?_⟩;(refine fU ?_))|(refine⟨λ_=>?_,λh=>False.elim (by first|(exact zY h j_)|(simp at h;done)|(simp at h;omega))⟩;(refine fU ?_))))
  refine done E (.cons .tmp .nil) [] (Eb n m d) (λ_ h=>h) ?_ E kU;rw[aa,h];rfl
 ·refine fU ?_
  (repeat (first|(refine⟨λh=>False.elim (by first|(exact zY h j_)|(simp at h;done)|(simp at h;omega)),λ_=>?_⟩;(refine fU ?_))|(refine⟨λ_=>?_,λh=>False.elim (by first|(exact zY h j_)|(simp at h;done)|(simp at h;omega))⟩;(refine fU ?_))))
  refine done E (.cons .tmp .nil) [] (Eb n m d) (λ_ h=>h) ?_ E kU;rw[aa,h];rfl
def Y8{l:List QueuedM}(h:Ku l):l.length<1000000∧Vt l:=⟨by have:=h.1;omega,λq hq=>by have:=(h.2 q hq).frame.body;omega⟩
def Ad2{α:Type}{l:List α}{i:Nat}(h:i<l.length)(d:α):(l[i]?).getD d=l[i]:=by
 rw[zT h];rfl
def placeB_iff{d:Int}{k:Nat}:Ah d k=true↔0≤d∧d.toNat<k:=by
 simp only[Ah,zE,zJ];omega
def Al2(l:List EntryM)(hl:l.length<2147483648):Sp 233 [.sl 3 A7 l] (.sl 3 A7 l):=cT F233 ntmps233 λF hF=>by
 conv=>whnf
 refine D1 E (.inl E) E E E .sl E E ?_;intro b hb;cases b
 ·refine oF ?_;refine Af (Ag Γ.toTy 7 E E E E E (.lit (e:=A7) (l:=[]) E E) .sl y_ (by simp;omega) (by simp;omega)) E E ?_;refine Aj 7 E ?_;exact gE
 ·have h0:l=[]:=zZ (hb rfl);subst h0;refine oT ?_;refine Au 2 3 A7 E ?_;exact dN
def loadT(m:MacM)(dom:Int)(t:List EntryM):MacM×Int:=if Ah dom m.queues.length=true∧tableB t=true then (Il m dom t,0) else (m,2)
def A0r(n:Net)(m:MacM)(d:Bool)(dom:Int)(t:List EntryM)(hq:m.tables.length=m.queues.length)(hl:An t)(ll:∀e∈t,e.mac<18446744073709551616):Sq 237 [.ptr 0 0,Aa dom,.sl 3 A7 t] (Eb n m d) (Aa (loadT m dom t).2) (Eb n (loadT m dom t).1 d):=cT F237 ntmps237 λF hF=>by
 have gn:=hl;unfold An at gn;have aa:=loadT.eq_1 m dom t;generalize loadT m dom t=res at *;have h1:=Auw n m d dom;have bh:=placeB_iff (d:=dom) (k:=m.queues.length);generalize Ah dom m.queues.length=b at *
 ((conv=>whnf);refine aF ?_;refine rg ?_;conv=>whnf)
 refine Af (Ad [] E F155 h1 E ⟨E,E,E,E,Y⟩ E ⟨.inl E,.inl E,.inl E,.inl E,Y⟩) E E ?_;refine oO ?_;cases b
 ·rw[zD y_]at aa;subst aa
  (refine⟨λ_=>?_,λh=>False.elim (zY h j_)⟩;refine rg ?_;(conv=>whnf);refine aT ?_;refine rg ?_;conv=>whnf)
  exact done E (.cons .tmp .nil) [] (Eb n m d) (λ_ h=>h) E E kU
 have hd:=bh.1 rfl
 (refine⟨λh=>False.elim (zY h j_),λ_=>?_⟩;refine rg ?_;conv=>whnf)
 refine c0 (Vx t hl ll) F219 ?_;generalize tableB t=c at *;refine oO ?_;cases c
 ·rw[zD y_]at aa;subst aa
  (refine⟨λ_=>?_,λh=>False.elim (zY h j_)⟩;refine rg ?_;conv=>whnf)
  exact done E (.cons .tmp .nil) [] (Eb n m d) (λ_ h=>h) E E kU
 rw[zG ⟨rfl,rfl⟩]at aa;subst aa
 (refine⟨λh=>False.elim (zY h j_),λ_=>?_⟩;refine rg ?_;conv=>whnf)
 refine cD (Al2 t gn) F233 ?_;refine oD ?_;refine⟨hd.1,by omega,?_⟩
 conv=>whnf
 refine⟨E,by omega,t,E,E,?_⟩
 conv=>whnf
 refine kW ?_;exact done E (.cons .tmp .nil) [] (Eb n (Il m dom t) d) (λ_ h=>h) E E kU
def We(m:MacM):Prop:=∀i,0≤m.drops i∧m.drops i≤1000000000000
def Yy(n:Net)(m:MacM)(d:Bool)(dom:Int)(q:QueuedM)(e:Int)(he:0≤e∧e<64)(hd:e=0→0≤dom∧dom.toNat<m.queues.length)(hb:We m)(hl:Ku (queueL m dom))(hq:QueuedOK q):Sq 150 [.ptr 0 0,Aa dom,Cb q,Aa e] (Eb n m d) (.tup []) (Eb n (comeM m dom q e) d):=cT F150 ntmps150 λF hF=>by
 have nj:=Y8 hl;have hp:=Anl _ q nj.1 nj.2 (by have:=hq.frame.body;omega);have h1:=Apw n m d e he.1 he.2 (hb _);have h3:=Apw n m d 3 j_ j_ (hb _);have aa:=comeM.eq_1 m dom q e;generalize comeM m dom q e=res at *
 conv=>whnf
 constructor<;>intro h
 ·rw[zG (by simpa using h)]at aa;subst aa;refine oO ?_;refine Af (Ad [] E F153 h1 E ⟨E,E,E,E,Y⟩ E ⟨.inl E,.inl E,.inl E,.inl E,Y⟩) E E ?_;refine oO ?_;exact done E .nil [] (Eb n (C4 m e) d) (λ_ h=>h) E E kU
 have h0:e=0:=by simpa using h
 have hd:=hd h0;rw[zD (by rw[h0];decide)]at aa;clear h nj h1 hl he;have yg:=queueL.eq_1 m dom;rw[Ad2 hd.2]at yg;generalize queueL m dom=l at *;generalize pushT l q=r at *;obtain ⟨l2,ok⟩:=r;subst yg;refine oO ?_;refine⟨hd.1,hd.2,?_⟩
 conv=>whnf
 refine⟨E,hd.2,?_⟩
 conv=>whnf
 refine cD hp F217 ?_;refine gH ?_;cases ok
 ·rw[zD y_]at aa;subst aa
  (refine⟨λ_=>?_,λh=>False.elim (by simp at h)⟩;refine rg ?_;conv=>whnf)
  refine Af (Ad [] E F153 h3 E ⟨E,E,E,E,Y⟩ E ⟨.inl E,.inl E,.inl E,.inl E,Y⟩) E E ?_;refine oO ?_;exact done E .nil [] (Eb n (C4 m 3) d) (λ_ h=>h) E E kU
 ·rw[zG rfl]at aa;subst aa
  (refine⟨λh=>False.elim (by simp at h),λ_=>?_⟩;refine rg ?_;conv=>whnf)
  refine⟨hd.1,hd.2,?_⟩
  conv=>whnf
  refine⟨E,hd.2,l2,E,E,?_⟩
  conv=>whnf
  exact A6 E .nil [] (Eb n (setQ m dom l2) d) (λ_ h=>h) E E kU
def Am0(n:Net)(m:MacM)(d:Bool)(dom at_:Int)(hl:Ku (queueL m dom)):Sq 97 [.ptr 0 0,Aa dom,Aa at_] (Eb n m d) (.tup [Cb (takeM m dom at_).2.1,Ab (takeM m dom at_).2.2]) (Eb n (takeM m dom at_).1 d):=cT F97 ntmps97 λF hF=>by
 have nj:=Y8 hl;have hp:=Ar7 _ at_ nj.1 nj.2;have h1:=Auw n m d dom;have bh:=placeB_iff (d:=dom) (k:=m.queues.length);have aa:=takeM.eq_1 m dom at_;generalize takeM m dom at_=res at *;generalize Ah dom m.queues.length=b at *;have yg:=queueL.eq_1 m dom;clear hl nj;generalize queueL m dom=l at *;generalize takeT l at_=r at *;obtain ⟨q,l2,ok⟩:=r
 conv=>whnf
 refine Af (Ad [] E F155 h1 E ⟨E,E,E,E,Y⟩ E ⟨.inl E,.inl E,.inl E,.inl E,Y⟩) E E ?_;refine oO ?_;cases b
 ·rw[zG rfl]at aa;subst aa
  (refine⟨λ_=>?_,λh=>False.elim (zY h j_)⟩;refine rg ?_;conv=>whnf)
  refine Ak 6 [Aa 0,Aa 0,Aa 0,A2 0,A2 0,Aa 0,.sl 1 Al []] E vL ?_;exact done E (.cons (.cell E E E E) (.cons .tmp .nil)) [] (Eb n m d) (λ_ h=>h) E E kU
 have hd:=bh.1 rfl;rw[Ad2 hd.2]at yg;subst yg;rw[zD y_]at aa;subst aa
 (refine⟨λh=>False.elim (zY h j_),λ_=>?_⟩;refine rg ?_;conv=>whnf)
 refine⟨hd.1,hd.2,?_⟩
 conv=>whnf
 refine⟨E,hd.2,?_⟩
 conv=>whnf
 refine c0 hp F156 ?_;refine oO ?_;refine⟨hd.1,hd.2,?_⟩
 conv=>whnf
 refine⟨E,hd.2,l2,E,E,?_⟩
 conv=>whnf
 exact done E (.cons (.cell E E E E) (.cons .tmp .nil)) [] (Eb n (setQ m dom l2) d) (λ_ h=>h) E E kU
def Art(n:Net)(hn:n.Fin)(m:MacM)(d:Bool)(J D:Int)(a8:MacOK n m J D)(hJ:J<1000000000000)(hD:D≤1000000000000)(port:Int)(b:List UInt8)(hb:b.length<100000):Sq 95 [.ptr 0 0,Aa port,.sl 1 Al b] (Eb n m d) (.tup []) (Eb n (injectT n m port b) d):=cT F95 ntmps95 λF hF=>by
 have aa:=injectT.eq_1 n m port b;generalize injectT n m port b=res at *;have bh:=placeB_iff (d:=port) (k:=n.ports.length);have gz:=a8.inj;have ar:MacOK n ⟨m.up,m.tables,m.queues,m.now,m.injected+1,m.drops⟩ (J+1) D:=⟨a8.up,a8.tabs,a8.ques,a8.tab,a8.que,a8.now,⟨by dsimp only;omega,by dsimp only;omega⟩,a8.drp⟩
 have fy:We ⟨m.up,m.tables,m.queues,m.now,m.injected+1,m.drops⟩:=λi=>⟨(a8.drp i).1,by have:=(a8.drp i).2;dsimp only at *;omega⟩
 have he:=Agd n port b;have jm:=Yb (n:=n) (port:=port) (b:=b);have q1:=Aps n hn port b hb;have hfr:=Abf n port b;generalize enterT n port b=r at *;have q2:=λ (hp:0≤port∧port.toNat<n.ports.length)=>Yy n ⟨m.up,m.tables,m.queues,m.now,m.injected+1,m.drops⟩ d r.1 ⟨port,0,m.injected+1,r.2.1⟩ r.2.2 ⟨he.1,by have:=he.2;omega⟩ (λ h=>by
  have:=jm h;exact⟨this.1,by show r.1.toNat<m.queues.length;rw[a8.ques];exact this.2⟩) fy (Jy ar _) (Jw hfr _ ⟨by omega,by have:=hn.ports;unfold An at this;omega⟩ j_)
 conv=>whnf
 constructor<;>intro h
 ·have h:=zK h;rw[zG (.inl (by cases hx:Ah port n.ports.length;rfl;exact zY (bh.1 hx) q_))]at aa;subst aa
  (refine oT ?_;refine bT ?_)
  (skip)
  exact done E .nil [] (Eb n res d) (λ_ h=>h) E E kU
 have h0:=zQ h;clear h;refine oO ?_;constructor<;>intro h
 ·have h:=zK h;rw[zG (.inl (by cases hx:Ah port n.ports.length;rfl;exact zY (bh.1 hx) q_))]at aa;subst aa;refine oT ?_
  (skip)
  exact done E .nil [] (Eb n res d) (λ_ h=>h) E E kU
 have h1:=zQ h;clear h;have hp:0≤port∧port.toNat<n.ports.length:=by omega
 rw[bh.2 hp,Ai hp.2]at aa;obtain ⟨p,j0⟩:∃p,n.ports[port.toNat]'hp.2=p:=⟨_,rfl⟩
 rw[j0]at aa;refine oO ?_;refine⟨E,hp.1,hp.2,?_⟩;rw[j0]
 conv=>whnf
 constructor<;>intro h
 ·have h:=zK h;rw[zG (.inr h)]at aa;subst aa;refine oO ?_;exact done E .nil [] (Eb n res d) (λ_ h=>h) E E kU
 have h2:=zQ h;clear h;rw[zD (by simp;omega)]at aa;subst aa;refine gF ?_;refine c0 q1 F149 ?_;refine oO ?_;refine Bw (Ad [] E F150 (q2 hp) E ⟨E,E,E,E,Y⟩ E ⟨.inl E,.inl E,.inl E,.inl E,Y⟩) z_ E ?_;refine gH ?_;refine A6 E .nil [] (Eb n (comeM _ _ _ _) d) (λ_ h=>h) E E kU
def Ael(n:Net)(hn:n.Fin)(m:MacM)(d:Bool)(J D:Int)(a8:MacOK n m J D)(hD:D≤1000000000000)(o:OutM)(ho:OutOK n o)(origin:Int):Sq 154 [.ptr 0 0,Hy o,Aa origin] (Eb n m d) (.sl 3 Dm (goesM n m o origin).2) (Eb n (goesM n m o origin).1 d):=cT F154 ntmps154 λF hF=>by
 have aa:=goesM.eq_1 n m o origin;generalize goesM n m o origin=res at *;have fy:We m:=λi=>⟨(a8.drp i).1,by have:=(a8.drp i).2;omega⟩
 have km:o.bytes.length<100000:=by have:=ho.bytes;omega
 have az:∀{x:Int},DomIn n x→0≤x∧x.toNat<m.queues.length:=λh=>by rw[a8.ques];exact h
 conv=>whnf
 constructor<;>intro h
 ·have h1:o.kind=1:=by simpa using h
  rw[zG h1]at aa;subst aa;refine oO ?_;refine Vs 34 Dm [⟨o.port,origin,o.bytes⟩] E E ?_;refine Aj 34 E ?_;exact done E (.cons .tmp .nil) [] (Eb n m d) (λ_ h=>h) E E kU
 have h1:¬o.kind=1:=by simpa using h
 rw[zD h1]at aa;clear h;refine oO ?_;constructor<;>intro h
 ·have h2:o.kind=2:=by simpa using h
  rw[zG h2]at aa;have q1:=As6 n hn o.port o.bytes km;have he:=Ayf n o.port o.bytes;have hd:=λh=>az (Aiz (n:=n) (port:=o.port) (b:=o.bytes) h)
  have hf:=Aos n o.port o.bytes;have ht:=Aor hn o.port o.bytes;generalize linkT n o.port o.bytes=r at *;have q2:=Yy n m d r.2.1 ⟨r.1,0,origin,r.2.2.1⟩ r.2.2.2 he hd fy (Jy a8 _) (Jw hf _ q_ j_);subst aa;refine oO ?_;refine cD q1 F229 ?_;refine gH ?_;refine kW ?_;refine Af (Ad [] E F150 q2 E ⟨E,E,E,E,Y⟩ E ⟨.inl E,.inl E,.inl E,.inl E,Y⟩) E E ?_;refine oO ?_;refine Au 6 3 Dm E ?_;exact done E (.cons .tmp .nil) [] (Eb n (comeM _ _ _ _) d) (λ_ h=>h) E E kU
 have h2:¬o.kind=2:=by simpa using h
 rw[zD h2]at aa;clear h;refine oO ?_;constructor<;>intro h
 ·have h2:o.kind=3:=by simpa using h
  rw[zG h2]at aa;have q1:=As7 n hn o.bytes km;have he:=Aza n o.bytes;have hd:=λh=>az (Abl (n:=n) (b:=o.bytes) h).2
  have hf:=Ap9 n o.bytes;have ht:=Ago hn o.bytes;generalize comeT n o.bytes=r at *;have q2:=Yy n m d r.2.1 ⟨-1,r.1,origin,r.2.2.1⟩ r.2.2.2 he hd fy (Jy a8 _) (Jw hf _ j_ ht);subst aa;refine oO ?_;refine cD q1 F230 ?_;refine gH ?_;refine kW ?_;refine Af (Ad [] E F150 q2 E ⟨E,E,E,E,Y⟩ E ⟨.inl E,.inl E,.inl E,.inl E,Y⟩) E E ?_;refine oO ?_;refine Au 6 3 Dm E ?_;exact done E (.cons .tmp .nil) [] (Eb n (comeM _ _ _ _) d) (λ_ h=>h) E E kU
 have h3:¬o.kind=3:=by simpa using h
 rw[zD h3]at aa;clear h;refine oO ?_;constructor<;>intro h
 ·have h4:o.kind=4:=by simpa using h
  rw[zG h4]at aa;have hf:=ho.frame h4;have q2:=Yy n m d o.domain ⟨-2,0,origin,o.frame⟩ 0 j_ (λ_=>az hf.2) fy (Jy a8 _) (Jw hf.1 _ j_ j_);subst aa;refine oO ?_;refine Af (Ad [] E F150 q2 E ⟨E,E,E,E,Y⟩ E ⟨.inl E,.inl E,.inl E,.inl E,Y⟩) E E ?_;refine oO ?_;refine Au 6 3 Dm E ?_;exact done E (.cons .tmp .nil) [] (Eb n (comeM _ _ _ _) d) (λ_ h=>h) E E kU
 have h4:¬o.kind=4:=by simpa using h
 rw[zD h4]at aa;have h5:o.kind=5:=by have:=ho.kind;omega
 have he:=ho.err h5;have q2:=Apw n m d o.error he.1 he.2 (fy _);subst aa;clear h;refine oO ?_;refine Af (Ad [] E F153 q2 E ⟨E,E,E,E,Y⟩ E ⟨.inl E,.inl E,.inl E,.inl E,Y⟩) E E ?_;refine oO ?_;refine Au 6 3 Dm E ?_;exact done E (.cons .tmp .nil) [] (Eb n (C4 m o.error) d) (λ_ h=>h) E E kU
end Go.Sy.YticmobkdaneelaaGreatDoor
