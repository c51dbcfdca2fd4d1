/- Parts of a proof. -/
import Derived.Test.YticmobkdaneelaaGreatDoorYE44
set_option linter.all false
set_option linter.unusedVariables false
set_option linter.unusedSimpArgs false
set_option linter.deprecated false
namespace Go.Sy.YticmobkdaneelaaGreatDoor
open Go.Proofs Go.Proofs.Tryz
def Jq(n:Net)(tabs:List (List EntryM)):MacM:=J0 (newT n) tabs tabs.length
def runTabsT(n:Net)(tabs:List (List EntryM))(l:List StepM):List SeenM×Int:=if okB n (Aal n)=true then ((Dw n (Jq n tabs) l).2,0) else ([],2)
def Ds(n:Net)(of:List Int):Bool :=
 decide (of.length=n.ports.length)&&Ac n&&(List.range of.length).all λi=>if (nth n.ports (i:Int)).link<0 then decide (0≤nth of (i:Int))&&decide (nth of (i:Int)≤9) else decide (nth of (i:Int)=-1)
def Hf(m:MacM):Prop:=0≤m.injected∧∀l∈m.queues,∀q∈l,1≤q.origin∧q.origin≤m.injected
def Xv{m:MacM}(h:Hf m)(dom:Int):∀q∈queueL m dom,1≤q.origin∧q.origin≤m.injected:=by
 intro q hq;unfold queueL at hq;by_cases hd:dom.toNat<m.queues.length
 ·exact h.2 _ (Q2 hd) q hq
 ·rw[wP q_]at hq;cases hq
def Anz{m:MacM}(h:Hf m)(dom:Int){l:List QueuedM}(hl:∀q∈l,1≤q.origin∧q.origin≤m.injected):Hf (setQ m dom l):=by
 refine⟨h.1,λx hx=>?_⟩;rcases Zj hx with rfl|hx
 ·exact hl
 ·exact h.2 x hx
def Afa{m:MacM}(h:Hf m)(dom at_:Int):Hf (takeM m dom at_).1∧(takeM m dom at_).1.injected=m.injected∧((takeM m dom at_).2.2=true→1≤(takeM m dom at_).2.1.origin∧(takeM m dom at_).2.1.origin≤m.injected):=by
 have hq:=Xv h dom;unfold takeM;split
 ·exact⟨h,rfl,λh=>by cases h⟩
 ·refine⟨Anz h dom λq hm=>?_,E,λht=>?_⟩
  ·unfold takeT at hm;split at hm
   ·exact hq q hm
   ·exact hq q (uI hm)
  ·dsimp only at ht⊢;unfold takeT at ht⊢;split at ht
   ·cases ht
   ·rename_i hc;rw[zD hc];exact hq _ (Q2 q_)
def Zd{m:MacM}(h:Hf m)(dom:Int){q:QueuedM}(hq:1≤q.origin∧q.origin≤m.injected)(e:Int):Hf (comeM m dom q e)∧(comeM m dom q e).injected=m.injected:=by
 unfold comeM;split
 ·exact⟨h,E⟩
 split
 ·refine⟨Anz h dom λx hx=>?_,E⟩;unfold pushT at hx;split at hx
  ·exact Xv h dom x hx
  ·rcases yI.1 hx with hx|hx
   ·exact Xv h dom x hx
   ·rw[yB.1 hx];exact hq
 ·exact⟨h,E⟩
def A1l{n:Net}{m:MacM}(h:Hf m)(o:OutM){org:Int}(ho:1≤org∧org≤m.injected):Hf (goesM n m o org).1∧(goesM n m o org).1.injected=m.injected:=by
 unfold goesM;split
 ·exact⟨h,E⟩
 split
 ·exact Zd h _ ho _
 split
 ·exact Zd h _ ho _
 split
 ·exact Zd h _ ho _
 ·exact⟨h,E⟩
def Aip{n:Net}{org:Int}:∀(l:List OutM) {m:MacM},Hf m→(1≤org∧org≤m.injected)→Hf (goesL n m org l).1∧(goesL n m org l).1.injected=m.injected
 |[],m,h,_=>⟨h,rfl⟩
 |o::l,m,h,ho=>by
  rw[goesL];have h1:=A1l (n:=n) h o ho;have h2:=Aip (n:=n) (org:=org) l h1.1 (by rw[h1.2];exact ho);exact⟨h2.1,by rw[h2.2,h1.2]⟩
def Axq{m:MacM}(h:Hf m)(dom:Int)(r:List EntryM×List OutM×Int):Hf (Om m dom r)∧(Om m dom r).injected=m.injected:=by
 unfold Om;split
 ·exact⟨h,E⟩
 split
 ·exact⟨h,E⟩
 ·exact⟨h,E⟩
def A1k{n:Net}{m:MacM}(h:Hf m)(dom at_:Int):Hf (pickT n m dom at_).1∧(pickT n m dom at_).1.injected=m.injected:=by
 have h1:=Afa h dom at_;unfold pickT;split
 ·exact⟨h1.1,h1.2.1⟩
 ·rename_i hc;have h2:=Axq h1.1 dom (Wy n (takeM m dom at_).1 dom (takeM m dom at_).2.1);have ht:=h1.2.2 (by simpa using hc);have h3:=Aip (n:=n) (org:=(takeM m dom at_).2.1.origin) (Wy n (takeM m dom at_).1 dom (takeM m dom at_).2.1).2.1 h2.1 (by rw[h2.2,h1.2.1];exact ht);exact⟨h3.1,by rw[h3.2,h2.2,h1.2.1]⟩
def Asn{n:Net}{m:MacM}(h:Hf m)(port:Int)(b:List UInt8)(hp:Ah port n.ports.length=true)(hl:(nth n.ports port).link<0):Hf (injectT n m port b)∧(injectT n m port b).injected=m.injected+1:=by
 unfold injectT;rw[zD (by rw[hp];simp;exact hl)];have h0:Hf ⟨m.up,m.tables,m.queues,m.now,m.injected+1,m.drops⟩:=⟨by have:=h.1;dsimp only;omega,λl hl q hq=>by have:=h.2 l hl q hq;dsimp only;omega⟩
 exact Zd h0 _ ⟨by have:=h.1;dsimp only;omega,xU _⟩ _
def Adk{n:Net}{m:MacM}(port:Int)(b:List UInt8)(hp:¬(Ah port n.ports.length=true∧(nth n.ports port).link<0)):injectT n m port b=m:=by
 unfold injectT;rw[zG];by_cases h:Ah port n.ports.length=true
 ·exact .inr (Int.not_lt.1 λx=>hp ⟨h,x⟩)
 ·exact .inl (by simpa using h)
def K5(n:Net)(x:StepM):Int:=if x.kind=1∧Ah x.port n.ports.length=true∧(nth n.ports x.port).link<0 then 1 else 0
def Avy{n:Net}{m:MacM}(h:Hf m)(x:StepM):Hf (doT n m x).1∧(doT n m x).1.injected=m.injected+K5 n x:=by
 unfold doT;by_cases hk:x.kind=1
 ·rw[zG hk];unfold K5;by_cases hc:Ah x.port n.ports.length=true∧(nth n.ports x.port).link<0
  ·rw[zG ⟨hk,hc⟩];exact Asn h _ _ hc.1 hc.2
  ·rw[zD (λh=>hc h.2),Adk _ _ hc];exact⟨h,by simp⟩
 rw[zD hk];have h0:K5 n x=0:=by unfold K5;rw[zD (λh=>hk h.1)]
 rw[h0,Int.add_zero];split
 ·exact A1k h _ _
 split
 ·have:=Afa h x.domain x.at_;exact⟨this.1,this.2.1⟩
 split
 ·exact⟨h,E⟩
 split
 ·split
  ·exact⟨h,E⟩
  ·exact⟨h,E⟩
 ·exact⟨h,E⟩
def V3{n:Net}{of:List Int}(h:Ds n of=true):of.length=n.ports.length∧Ac n=true∧∀p,Ah p of.length=true→(if (nth n.ports p).link<0 then 0≤nth of p∧nth of p≤9 else nth of p=-1):=by
 unfold Ds at h;simp only[zE,zJ,yZ,xA]at h;refine⟨h.1.1,h.1.2,λp hp=>?_⟩;have hp:=Cc hp;have:=h.2 p.toNat q_;rw[show ((p.toNat:Nat):Int)=p by omega]at this;split at this
 ·rename_i hc;rw[zG hc];simpa using this
 ·rename_i hc;rw[zD hc];simpa using this
def A1z(n:Net):Hf (newT n):=by
 refine⟨by simp[newT],λl hl q hq=>?_⟩;have:l=[]:=(List.mem_replicate.1 hl).2;rw[this]at hq;cases hq
def Aix{m:MacM}(h:Hf m)(tabs:List (List EntryM)):∀j,Hf (J0 m tabs j)∧(J0 m tabs j).injected=m.injected
 |0=>⟨h,rfl⟩
 |j+1=>by
  have ih:=Aix h tabs j;rw[J0];unfold Qu;split
  ·exact ih
  ·unfold loadT;split
   ·exact ih
   ·exact ih
def SeenOK(n:Net)(k:Int)(x:SeenM):Prop:=Ah x.port n.ports.length=true∧(nth n.ports x.port).link<0∧1≤x.origin∧x.origin≤k
def OutP(n:Net)(o:OutM):Prop:=o.kind=1→Ah o.port n.ports.length=true∧(nth n.ports o.port).link<0
theorem SeenOK.mono{n:Net}{k k':Int}{x:SeenM}(h:SeenOK n k x)(hk:k≤k'):SeenOK n k' x:=⟨h.1,h.2.1,h.2.2.1,by have:=h.2.2.2;omega⟩
def A1i(n:Net)(dom:Int)(f:FrameM)(p:Int):OutP n (Aa3 n dom f p):=by
 intro h;unfold Aa3 Qt at h⊢;by_cases he:(leaveT n p dom f).2≠0
 ·rw[zG he]at h;exact zY h (by dsimp only;decide)
 rw[zD he]at h⊢;dsimp only at h⊢;have hl:(nth n.ports p).link<0:=by
  by_cases hl:(nth n.ports p).link<0
  ·exact hl
  ·rw[zD hl]at h;exact zY h j_
 refine⟨?_,hl⟩;unfold leaveT at he;by_cases hp:Ah p n.ports.length=false∨Ah dom n.domains.length=false∨Ac n=false
 ·rw[zG hp]at he;exact zY he j_
 ·cases hb:Ah p n.ports.length
  ·exact zY (.inl hb) hp
  ·rfl
def Al4(n:Net)(fw:List Bool)(t:List EntryM)(dom:Int)(q:QueuedM)(now:Int):∀o∈(bridgeT n fw t dom q now).2.1,OutP n o:=by
 intro o ho;unfold bridgeT at ho;split at ho
 ·cases ho
 split at ho
 ·split at ho
  ·cases ho
  ·rw[yB.1 ho];intro h;exact zY h (by dsimp only;decide)
 ·rcases yI.1 ho with h|h
  ·obtain ⟨p,_,rfl⟩:=yS.1 h;exact A1i _ _ _ _
  ·obtain ⟨p,_,rfl⟩:=yS.1 h;intro h;unfold Ae9 Qt at h;split at h<;>exact zY h (by dsimp only;decide)
def Ato{n:Net}{m:MacM}{o:OutM}{org k:Int}(ho:OutP n o)(h1:1≤org)(h2:org≤k):∀x∈(goesM n m o org).2,SeenOK n k x:=by
 intro x hx;unfold goesM at hx;split at hx
 ·rename_i hk;rw[yB.1 hx];exact⟨(ho hk).1,(ho hk).2,h1,h2⟩
 split at hx
 ·cases hx
 split at hx
 ·cases hx
 split at hx<;>cases hx
def Af3{n:Net}{org k:Int}(h1:1≤org)(h2:org≤k):∀(l:List OutM) {m:MacM},(∀o∈l,OutP n o)→∀x∈(goesL n m org l).2,SeenOK n k x
 |[],m,_,x,hx=>by cases hx
 |o::l,m,ho,x,hx=>by
  rw[goesL]at hx;rcases yI.1 hx with h|h
  ·exact Ato (ho o y_) h1 h2 x h
  ·exact Af3 h1 h2 l (λo h=>ho o (by simp[h])) x h
def A3t{n:Net}{m:MacM}(h:Hf m)(x:StepM):∀y∈(doT n m x).2,SeenOK n m.injected y:=by
 intro y hy;unfold doT at hy;split at hy
 ·cases hy
 split at hy
 ·unfold pickT at hy;have h1:=Afa h x.domain x.at_;split at hy
  ·cases hy
  ·rename_i hc;have ht:=h1.2.2 (by simpa using hc);exact Af3 ht.1 ht.2 _ (Al4 _ _ _ _ _ _) y hy
 split at hy
 ·cases hy
 split at hy
 ·cases hy
 split at hy
 ·split at hy<;>cases hy
 ·cases hy
def Ao3(n:Net)(x:StepM):0≤K5 n x:=by unfold K5;split<;>decide
def Ati(n:Net):List StepM→Int
 |[]=>0
 |x::l=>K5 n x+Ati n l
def Ao4(n:Net):∀l,0≤Ati n l
 |[]=>xU _
 |x::l=>by rw[Ati];have:=Ao3 n x;have:=Ao4 n l;omega
def Aaw{n:Net}:∀(l:List StepM) {m:MacM},Hf m→∀y∈(Dw n m l).2,SeenOK n (m.injected+Ati n l) y
 |[],m,h,y,hy=>by cases hy
 |x::l,m,h,y,hy=>by
  have h1:=Avy (n:=n) h x;rw[Dw]at hy;rw[Ati];have p1:=Ao3 n x;have p2:=Ao4 n l;rcases yI.1 hy with h2|h2
  ·exact(A3t h x y h2).mono q_
  ·exact(Aaw l h1.1 y h2).mono (by rw[h1.2];omega)
def injB(of:List Int)(x:StepM):Bool:=decide (x.kind=1)&&(Ah x.port of.length&&decide (0≤nth of x.port))
def Ej(of:List Int)(l:List StepM):List Int:=(l.filter (injB of)).map (·.port)
def Ae6{n:Net}{of:List Int}(ho:Ds n of=true):∀l,((Ej of l).length:Int)=Ati n l
 |[]=>rfl
 |x::l=>by
  have ha:=V3 ho;have ih:=Ae6 ho l;have key:(if injB of x=true then 1 else 0)=K5 n x:=by
   unfold injB K5;by_cases hk:x.kind=1
   ·cases hp:Ah x.port of.length
    ·rw[ha.1]at hp;simp[hp]
    ·have hw:=ha.2.2 x.port hp;rw[ha.1]at hp;by_cases hl:(nth n.ports x.port).link<0
     ·rw[zG hl]at hw;simp[hk,hp,hl,hw.1]
     ·rw[zD hl]at hw;simp[hk,hp,hl,hw]
   ·simp[hk]
  rw[Ati,←ih,←key];unfold Ej;by_cases h:injB of x=true
  ·rw[vR h,zG h,xV,yL];omega
  ·rw[uL h,zD h];omega
def Axj{of:List Int}{l:List StepM}:∀p∈Ej of l,Ah p of.length=true∧0≤nth of p:=by
 intro p hp;obtain ⟨x,hx,rfl⟩:=yS.1 hp;have:=(tR.1 hx).2;unfold injB at this;simp only[zE,zJ]at this;exact this.2
def L5(of ic:List Int):List SeenM→Int×Int×Bool
 |[]=>(0,0,false)
 |s::l=>if nth of (nth ic (s.origin-1))≠nth of s.port then (nth ic (s.origin-1),s.port,true) else L5 of ic l
def crossesT(n:Net)(of:List Int)(tabs:List (List EntryM))(l:List StepM):Int×Int×Bool :=
 if Ds n of=true∧okB n (Aal n)=true then L5 of (Ej of l) (Dw n (Jq n tabs) l).2 else (0,0,false)
def crossB(n:Net)(of:List Int)(tabs:List (List EntryM))(l:List StepM):Bool:=(crossesT n of tabs l).2.2
def Afj(n:Net)(tabs:List (List EntryM)):Hf (Jq n tabs)∧(Jq n tabs).injected=0:=by
 have h:=Aix (A1z n) tabs tabs.length;exact⟨h.1,h.2⟩
def Am4{n:Net}{of:List Int}(ho:Ds n of=true)(tabs:List (List EntryM))(l:List StepM):∀s∈(Dw n (Jq n tabs) l).2,
  Ah s.port of.length=true∧1≤s.origin∧s.origin≤(Ej of l).length:=by
 intro s hs;have hl:=Afj n tabs;have h:=Aaw (n:=n) l hl.1 s hs;rw[hl.2,Int.zero_add,←Ae6 ho]at h;exact⟨by rw[(V3 ho).1];exact h.1,h.2.2.1,h.2.2.2⟩
def A0w(x y:StepM):Prop:=y.kind=x.kind∧y.port=x.port∧y.domain=x.domain∧y.bytes=x.bytes∧y.up.length=x.up.length
instance (x y:StepM):Decidable (A0w x y):=by unfold A0w;infer_instance
def A6u(l:List StepM)(x:StepM)(k:Nat):Prop:=∃h:k<l.length,A0w x l[k]∧0≤l[k].at_∧l[k].at_≤x.at_
instance (l:List StepM)(x:StepM)(k:Nat):Decidable (A6u l x k):=by unfold A6u;infer_instance
attribute [local irreducible] Go.Sy.G Go.Sy.DR
set_option maxRecDepth 100000
set_option maxHeartbeats 4000000
structure TabsOK(tabs:List (List EntryM)):Prop where
 few:tabs.length≤60
 tab:∀t∈tabs,t.length≤60
 ok:A4i tabs
def As0{tabs:List (List EntryM)}(h:TabsOK tabs)(m:MacM)(j:Nat)(hj:j<tabs.length):J0 m tabs (j+1)=(loadT (J0 m tabs j) j tabs[j]).1:=by
 rw[J0,Ad2 hj,Qu,zD (by have:=h.tab _ (zI hj);omega)]
def Ayd{m:MacM}{j:Nat}{t:List EntryM}(h:¬j<m.queues.length):(loadT m j t).1=m:=by
 unfold loadT;rw[zD];intro hc;have:=(placeB_iff.1 hc.1).2;omega
def Adh(n:Net)(hn:n.Fin)(tabs:List (List EntryM))(ar:okB n (Aal n)=false):Sp 158 [Am n,.sl 1 Lk tabs] (.tup [.val (.pointer none),Aa 2]):=cT F158 ntmps158 λF hF=>by
 refine gD (Xs n hn ar) F16 ?_;exact D
def Akj(n:Net)(hn:n.Fin)(tabs:List (List EntryM))(ht:TabsOK tabs)(ar:okB n (Aal n)=true):Sq 158 [Am n,.sl 1 Lk tabs] [] (.tup [.ptr 0 0,Aa 0]) (Eb n (Jq n tabs) false):=cT F158 ntmps158 λF hF=>by
 have q1:=Akl n hn ar;have dy:=Ak6 n;unfold Jq;generalize newT n=m0 at *;have rh:=ht.few;have j9:=hn.domains;unfold An at j9;refine T ?_;refine X (Ad [(0,800),(1,801),(2,802),(3,803)] E F16 q1 E W E V) ?_;refine La 2 902 E E j_ ?_;refine A5 tabs.length (λj=>[(2,.ptr 902 0),(6,.ptr 0 0),(18,.sl 1 Lk tabs),(19,Aa tabs.length),(20,Aa j)]) (λj=>[(0,.box (Adj n 1 (J0 m0 tabs j).now (J0 m0 tabs j).injected (J0 m0 tabs j).drops)),(1,.box (To n (J0 m0 tabs j).up false)),(2,.row 1 Lk (J0 m0 tabs j).tables),(3,.row 1 Ae2 (J0 m0 tabs j).queues),(902,.box (C6 n))]) [(0,800),(1,801),(2,802),(3,803)] U ?_;intro j hj;have u0:=Afk dy ht.ok j;refine T ?_;constructor<;>intro h
 ·have ab:j<tabs.length:=qA h;have ai:(j:Int).toNat<tabs.length:=by simpa using ab
  obtain ⟨t,ee⟩:∃t,tabs[j]=t:=⟨_,rfl⟩
  have e1:tabs[(j:Int).toNat]'ai=t:=ee;have hs:=As0 ht m0 j ab;rw[ee]at hs;have ed:=ht.ok t (by rw[←ee];exact zI ab);have htt:=ht.tab t (by rw[←ee];exact zI ab);have eh:=Amv ed.1 htt;have qq:=u0.ques;have q2:=A0r n (J0 m0 tabs j) false j t (by rw[u0.tabs,u0.ques]) eh.short eh.mac;have iv:=Ayd (m:=J0 m0 tabs j) (j:=j) (t:=t);rw[←hs]at q2 iv;clear h;refine S ?_;refine⟨E,by omega,ai,?_⟩;rw[e1];refine T ?_;constructor<;>intro h
  ·refine T ?_;refine X (Ad [] E F237 q2 E W E V) ?_;exact Ay [] ab U
  ·have hm:=iv (qB h);refine T ?_;refine Ay [] ab ⟨⟨E,E,E,E,E,E,E,E,E,E,Y⟩,?_,E,E⟩;dsimp only;rw[hm];exact Uo
 ·have gg:j=tabs.length:=qB h;subst gg;refine T ?_;exact E0
def Aww(n:Net)(hn:n.Fin)(dt:n.Num)(tabs:List (List EntryM))(ht:TabsOK tabs)(l:List StepM)(hl:ScriptOK l):Sp 100 [Am n,.sl 1 Lk tabs,.sl 6 Db l] (.tup [.sl 3 Dm (runTabsT n tabs l).1,Aa (runTabsT n tabs l).2]):=cT F100 ntmps100 λF hF=>by
 have aa:=runTabsT.eq_1 n tabs l;generalize runTabsT n tabs l=res at *;have hlen:=hl.few;cases ar:okB n (Aal n)
 ·rw[zD (by rw[ar];simp)]at aa;subst aa;refine gD (Adh n hn tabs ar) F158 ?_;refine Au 6 3 Dm E ?_;exact D
 ·rw[zG ar]at aa;subst aa;have q1:=Akj n hn tabs ht ar;have dy:MacOK n (Jq n tabs) 0 0:=Afk (Ak6 n) ht.ok _;generalize Jq n tabs=m0 at *;refine T ?_;refine X (Ad [(0,800),(1,801),(2,802),(3,803)] E F158 q1 E W E V) ?_;refine B7 10 1000 3 Dm E E ?_;refine A5 l.length (λj=>[(8,.ptr 0 0),(10,.osl 1000),(24,.sl 6 Db l),(25,Aa l.length),(26,Aa j)]) (λj=>runO n (Dw n m0 (l.take j)).1 (runD n m0 false (l.take j)) (Dw n m0 (l.take j)).2) [(0,800),(1,801),(2,802),(3,803)] U ?_;intro j hj;refine T ?_;constructor<;>intro h
  ·have ab:j<l.length:=qA h;have ai:(j:Int).toNat<l.length:=by simpa using ab
   obtain ⟨x,ee⟩:∃x,l[j]=x:=⟨_,rfl⟩
   have e1:l[(j:Int).toNat]'ai=x:=ee;have hs:=Aik n m0 l j ab;have j9:=Ail n m0 false l j ab;rw[ee]at hs j9;have wi:=hl.bytes x (by rw[←ee];exact zI ab);have mg:=Ako hn dt (l.take j) dy (xU _) (xU _);have cg:(l.take j).length=j:=by rw[yA];omega
   have hjf:=Uc hn (l.take j) m0;rw[cg]at mg hjf;have q5:=A0u n hn dt (Dw n m0 (l.take j)).1 (runD n m0 false (l.take j)) _ _ mg q_ q_ q_ x q_;have mf:=Alu hn (Dw n m0 (l.take j)).1 x;have g1:(Dw n m0 (l.take (j+1))).1=(doT n (Dw n m0 (l.take j)).1 x).1:=by rw[hs]
   have g2:(Dw n m0 (l.take (j+1))).2=(Dw n m0 (l.take j)).2++(doT n (Dw n m0 (l.take j)).1 x).2:=by rw[hs]
   clear h;refine S ?_;refine⟨E,by omega,ai,?_⟩;rw[e1];refine T ?_;refine X (Ad [(4,33)] E F34 q5 E W E V) ?_;refine X (Ag Γ.toTy 38 E E E E E (.row E) .sl y_ q_ q_) ?_;refine Ay [(1,33),(1000,38)] ab ⟨⟨E,E,E,E,E,E,E,E,E,E,Y⟩,?_,E,E⟩;dsimp only;rw[g1,g2,j9];exact Uo
  ·have gg:j=l.length:=qB h;subst gg;rw[yN];clear h;refine T ?_;refine Aj 1000 E ?_;exact D
def ownAt(n:Net)(of:List Int)(i:Nat):Bool:=if (nth n.ports (i:Int)).link<0 then decide (0≤nth of (i:Int))&&decide (nth of (i:Int)≤9) else decide (nth of (i:Int)=-1)
def Ask(n:Net)(of:List Int):Ds n of=(decide (of.length=n.ports.length)&&Ac n&&(List.range of.length).all (ownAt n of)):=rfl
def Axe{k:Nat}{p:Nat→Bool}(h:∀i,i<k→p i=true):(List.range k).all p=true:=by
 rw[yZ];intro i hi;exact h i (xA.1 hi)
def Axd{k j:Nat}{p:Nat→Bool}(hj:j<k)(h:p j=false):(List.range k).all p=false:=by
 rw[Bool.eq_false_iff];intro ha;have:=yZ.1 ha j (xA.2 hj);rw[h]at this;cases this
def Su(n:Net)(hn:n.Fin)(of:List Int):Sp 15 [Am n,.sl 1 Aa of] (Ab (Ds n of)):=cT F15 ntmps15 λF hF=>by
 have aa:=Ask n of;generalize Ds n of=res at *;have qr:=A1 n hn;have ov:=hn.ports;unfold An at ov;generalize Ac n=nr at *;refine T ?_;constructor<;>intro h
 ·rw[zL (show ¬of.length=n.ports.length by simp at h;omega),yE,yE]at aa;subst aa;exact gA
 have hlen:of.length=n.ports.length:=by simp at h;omega
 rw[zO hlen,yF]at aa;refine gD qr F22 ?_;cases nr
 ·rw[yE]at aa;subst aa;exact gA
 rw[yF]at aa;refine T ?_;refine A9 of.length (λj=>∀i,i<j→ownAt n of i=true) (λj=>[(2,.ptr 2 0),(19,.sl 1 Aa of),(20,Aa of.length),(21,Aa j)]) (λ_=>[(2,.box (C6 n))]) [] (λi hi=>zY hi (Nat.not_lt_zero i)) U ?_;intro j hj hI;refine T ?_;constructor<;>intro h
 ·have ab:j<of.length:=qA h;have ai:(j:Int).toNat<of.length:=by simpa using ab
  have xq:(j:Int).toNat<n.ports.length:=by rw[←hlen];exact ai
  have gd:=ownAt.eq_1 n of j;rw[Ai xq,Ai ai]at gd;obtain ⟨w,hw⟩:∃w,of[(j:Int).toNat]'ai=w:=⟨_,rfl⟩
  obtain ⟨p,hp⟩:∃p,n.ports[(j:Int).toNat]'xq=p:=⟨_,rfl⟩
  rw[hw,hp]at gd;have bad:ownAt n of j=false→res=false:=λhb=>by rw[aa];exact Axd ab hb
  have good:ownAt n of j=true→∀i,i<j+1→ownAt n of i=true:=λhb i hi=>by
   by_cases he:i=j
   ·subst he;exact hb
   ·exact hI i q_
  generalize ownAt n of j=g at *;clear h;refine S ?_;refine⟨E,by omega,ai,?_⟩;rw[hw];refine S ?_;refine⟨E,by omega,xq,?_⟩;rw[hp];refine T ?_;constructor<;>intro h1
  ·have hl:=zK h1;rw[zD q_]at gd;refine T ?_;constructor<;>intro h2
   ·have hr:=bad (by rw[gd];simp at h2;simp;omega);subst hr;exact gA
   ·have hx:=good (by rw[gd];simp at h2;simp;omega);refine T ?_;refine A8 [] hI ab hx ?_;exact U
  ·have hl:=zQ h1;rw[zG q_,←Bool.decide_and]at gd;refine T ?_;constructor<;>intro h2
   ·have hr:=bad (by rw[gd];exact zL (by have:=zK h2;omega));subst hr;exact gA
   refine T ?_;constructor<;>intro h3
   ·have hr:=bad (by rw[gd];exact zL (by have:=zK h3;omega));subst hr;exact gA
   have hx:=good (by rw[gd];exact zO (by have:=zQ h2;have:=zQ h3;omega));refine T ?_;refine A8 [] hI ab hx ?_;exact U
 ·have gg:j=of.length:=qB h;subst gg;have hr:res=true:=by rw[aa];exact Axe hI
  subst hr;exact gA
def great34B(n:Net)(tabs:List (List EntryM))(l:List StepM):Bool:=Js n||great33B l||decide (60<tabs.length)||tabs.any λt=>decide (60<t.length)
def A28(n:Net)(tabs:List (List EntryM))(l:List StepM):Sp 6 [Am n,.sl 1 Lk tabs,.sl 6 Db l] (Ab (great34B n tabs l)):=cT F6 ntmps6 λF hF=>by
 have aa:=great34B.eq_1 n tabs l;generalize great34B n tabs l=res at *;have q1:=greatS n;have q2:=A29 l;generalize Js n=a at *;generalize great33B l=b at *;refine gD q1 F13 ?_;cases a;rotate_left
 ·simp only[vD]at aa;subst aa;exact gA
 refine gD q2 F14 ?_;cases b;rotate_left
 ·simp only[vD,Bool.or_true]at aa;subst aa;exact gA
 simp only[uH]at aa;refine T ?_;constructor<;>intro h
 ·rw[zO (qA h),vD]at aa;subst aa;exact gA
 have h1:=zQ h;rw[zL q_,uH]at aa;refine T ?_;refine A9 tabs.length (λj=>En (λ_ t=>!(decide (60<t.length))) tabs j) (λj=>[(1,.sl 1 Lk tabs),(7,Aa j)]) (λ_=>[]) [] (Bl _ _) U ?_;intro j hj hI;refine T ?_;constructor<;>intro h
 ·have ab:j<tabs.length:=qA h;have ai:(j:Int).toNat<tabs.length:=by simpa using ab
  have gd:=λh=>@any_at3 _ (λt:List EntryM=>decide (60<t.length)) tabs j ab h
  have d9:=λh=>Bi (p:=λ_ (t:List EntryM)=>!(decide (60<t.length))) hI ab h
  obtain ⟨x,hx⟩:∃x,tabs[(j:Int).toNat]'ai=x:=⟨_,rfl⟩
  have p6:tabs[j]=x:=hx;rw[p6]at gd d9;refine S ?_;refine⟨E,by omega,ai,?_⟩;rw[hx];refine T ?_;constructor<;>intro h
  ·rw[gd (zO (qA h))]at aa;subst aa;exact gA
  ·have hn:=d9 (by rw[zL (qB h)];rfl);refine T ?_;refine A8 [] hI ab hn ?_;exact U
 ·rw[Aj2 hI (qB h)]at aa;subst aa;exact gA
def A3x(n:Net)(of:List Int)(tabs:List (List EntryM)):List SV:=[.sl 5 Ax n.devices,.sl 7 A4 n.ports,.sl 3 Bz n.links,.sl 6 As n.domains,.sl 4 A0 n.statics,.sl 4 Ba n.floods,.sl 5 Ca n.vrfs,.sl 5 B4 n.irbs,.sl 1 Aa of,.sl 1 Lk tabs]
def Av1(n:Net)(of:List Int)(tabs:List (List EntryM)):SV:=.agg [.sl 5 Ax n.devices,.sl 7 A4 n.ports,.sl 3 Bz n.links,.sl 6 As n.domains,.sl 4 A0 n.statics,.sl 4 Ba n.floods,.sl 5 Ca n.vrfs,.sl 5 B4 n.irbs,.sl 1 Aa of,.sl 1 Lk tabs]
def portX(of:List Int)(x:StepM):List Int:=if injB of x=true then [x.port] else []
def Anq(of:List Int)(l:List StepM)(j:Nat)(hj:j<l.length):Ej of (l.take (j+1))=Ej of (l.take j)++portX of l[j]:=by
 unfold Ej portX;rw[yD hj,List.filter_append,wU];congr 1;by_cases h:injB of l[j]=true
 ·rw[zG h,vR h];rfl
 ·rw[zD h,uL h];rfl
def Ae5(of:List Int)(l:List StepM):(Ej of l).length≤l.length:=by
 unfold Ej;rw[xF];exact uT _ _
def Ap6(n:Net)(of:List Int)(tabs:List (List EntryM))(l:List StepM)(hl:l.length≤200):Sp 101 [Av1 n of tabs,.sl 6 Db l] (.sl 1 Aa (Ej of l)):=cT F101 ntmps101 λF hF=>by
 refine T ?_;refine B7 5 1000 1 Aa E E ?_;refine A5 l.length (λj=>[(2,.ptr 2 0),(5,.osl 1000),(8,.sl 6 Db l),(9,Aa l.length),(10,Aa j)]) (λj=>[(2,.box (A3x n of tabs)),(1000,.row 1 Aa (Ej of (l.take j)))]) [] U ?_;intro j hj;refine T ?_;constructor<;>intro h
 ·have ab:j<l.length:=qA h;have ai:(j:Int).toNat<l.length:=by simpa using ab
  obtain ⟨x,ee⟩:∃x,l[j]=x:=⟨_,rfl⟩
  have e1:l[(j:Int).toNat]'ai=x:=ee;have hs:=Anq of l j ab;have bh:=Ae5 of (l.take j);rw[yA]at bh;rw[ee]at hs;have hv:=portX.eq_1 of x;have hb:=injB.eq_1 of x;generalize injB of x=b at *;generalize portX of x=v at *;clear h;refine S ?_;refine⟨E,by omega,ai,?_⟩;rw[e1];refine T ?_;by_cases hk:x.kind=1;rotate_left
  ·rw[zL hk,yE]at hb;rw[hb,zD y_]at hv;rw[hv,xC]at hs;refine T ?_;refine Ay [] ab ⟨⟨E,E,E,E,E,E,E,E,E,E,Y⟩,⟨.inl E,E,.inl (zH (Ob.row 1 Aa) hs),E,Y⟩,E,E⟩
  rw[zO hk,yF]at hb;refine S ?_;constructor<;>intro h1
  rotate_left
  ·rw[Y9 (by have:=zQ h1;omega),yE]at hb;rw[hb,zD y_]at hv;rw[hv,xC]at hs;refine T ?_;refine Ay [] ab ⟨⟨E,E,E,E,E,E,E,E,E,E,Y⟩,⟨.inl E,E,.inl (zH (Ob.row 1 Aa) hs),E,Y⟩,E,E⟩
  have h1:=zK h1;refine T ?_;constructor<;>intro h2
  rotate_left
  ·rw[Y9 (by have:=zQ h2;omega),yE]at hb;rw[hb,zD y_]at hv;rw[hv,xC]at hs;refine T ?_;refine Ay [] ab ⟨⟨E,E,E,E,E,E,E,E,E,E,Y⟩,⟨.inl E,E,.inl (zH (Ob.row 1 Aa) hs),E,Y⟩,E,E⟩
  have h2:=zK h2;have m9:x.port.toNat<of.length:=by omega
  rw[Ol q_,yF,Ai m9]at hb;refine T ?_;constructor<;>intro h3
  rotate_left
  ·rw[zL (by have:=zQ h3;omega)]at hb;rw[hb,zD y_]at hv;rw[hv,xC]at hs;refine T ?_;refine Ay [] ab ⟨⟨E,E,E,E,E,E,E,E,E,E,Y⟩,⟨.inl E,E,.inl (zH (Ob.row 1 Aa) hs),E,Y⟩,E,E⟩
  rw[zO (by have:=zK h3;omega)]at hb;rw[hb,zG rfl]at hv;rw[hv]at hs;refine T ?_;refine X (Ag Γ.toTy 43 rfl rfl rfl rfl rfl (.row rfl) (.lit (e:=Aa) (l:=[x.port]) rfl rfl) (λj hj=>by cases hj;decide) (by simp;omega) (by simp;omega)) ?_;refine Ay [(1000,43)] ab ⟨⟨E,E,E,E,E,E,E,E,E,E,Y⟩,⟨.inl E,E,.inl (zH (Ob.row 1 Aa) hs),E,Y⟩,E,E⟩
 ·have gg:j=l.length:=qB h;subst gg;rw[yN];refine T ?_;refine Aj 1000 E ?_;exact D
def Vh(of ic:List Int):∀(a b:List SeenM),(∀s∈a,nth of (nth ic (s.origin-1))=nth of s.port)→L5 of ic (a++b)=L5 of ic b
 |[],b,_=>rfl
 |s::a,b,h=>by
  rw[xS,L5,zD (λhn=>hn (h s y_))];exact Vh of ic a b (λs hs=>h s (by simp[hs]))
def Awg{α:Type}{p:Nat→α→Bool}{l:List α}{j:Nat}(h:En p l j):∀x∈l.take j,∃i,p i x=true:=by
 intro x hx;obtain ⟨i,hi,rfl⟩:=wD hx;rw[yA]at hi;refine⟨i,?_⟩;rw[wA];exact h i q_ q_
def Am3(of ic:List Int)(s:SeenM):Bool:=decide (nth of (nth ic (s.origin-1))=nth of s.port)
def Ap5{of ic:List Int}{l:List SeenM}{j:Nat}(hI:En (λ_ s=>Am3 of ic s) l j)(hj:j<l.length)(h:nth of (nth ic (l[j].origin-1))≠nth of l[j].port):L5 of ic l=(nth ic (l[j].origin-1),l[j].port,true):=by
 have e:l=l.take j++(l[j]::l.drop (j+1)):=by rw[←yP hj,List.take_append_drop]
 have hs:=Vh of ic (l.take j) (l[j]::l.drop (j+1)) (λs hs=>by obtain ⟨i,hp⟩:=Awg hI s hs;exact zK hp);rw[←e]at hs;rw[hs,L5,zG h]
def Ap4{of ic:List Int}{l:List SeenM}{j:Nat}(hI:En (λ_ s=>Am3 of ic s) l j)(hj:l.length≤j):L5 of ic l=(0,0,false):=by
 have hs:=Vh of ic l [] (λ s hs=>by
  obtain ⟨i,hi,rfl⟩:=wD hs;exact zK (hI i hi q_))
 rw[xC]at hs;rw[hs,L5]
def Ah3(n:Net)(hn:n.Fin)(dt:n.Num)(of:List Int)(tabs:List (List EntryM))(ht:TabsOK tabs)(l:List StepM)(hl:ScriptOK l):Sp 35 [Av1 n of tabs,.sl 6 Db l] (.tup [Aa (crossesT n of tabs l).1,Aa (crossesT n of tabs l).2.1,Ab (crossesT n of tabs l).2.2]):=cT F35 ntmps35 λF hF=>by
 have aa:=crossesT.eq_1 n of tabs l;generalize crossesT n of tabs l=res at *;have q1:=Su n hn of;have q2:=Aww n hn dt tabs ht l hl;have q3:=Ap6 n of tabs l hl.few;have rq:=λho=>Am4 (n:=n) (of:=of) ho tabs l
 have hpa:=@Axj of l;have bh:=Ae5 of l;have mf:=Uc hn l (Jq n tabs);have hlf:=hl.few;have r2:=runTabsT.eq_1 n tabs l;refine gD q1 F15 ?_;cases ho:Ds n of
 ·rw[zD (by rw[ho];simp)]at aa;subst aa;exact gA
 have rq:=rq ho;refine T ?_;cases ar:okB n (Aal n)
 ·rw[zD (by rw[ar];simp)]at aa r2;subst aa;rw[r2]at q2;refine C q2 F100 ?_;exact D
 rw[zG ⟨ho,ar⟩]at aa;rw[zG ar]at r2;rw[r2]at q2;subst aa;clear r2;generalize (Dw n (Jq n tabs) l).2=sn at *;generalize Ej of l=bl at *;refine gJ q2 F100 q3 F101 ?_;refine A9 sn.length (λj=>En (λ_ s=>Am3 of bl s) sn j) (λj=>[(2,.ptr 2 0),(9,.sl 1 Aa bl),(33,.sl 3 Dm sn),(34,Aa sn.length),(35,Aa j)]) (λ_=>[(2,.box (A3x n of tabs))]) [] (Bl _ _) U ?_;intro j hj hI;refine T ?_;constructor<;>intro h
 ·have ab:j<sn.length:=qA h;have ai:(j:Int).toNat<sn.length:=by simpa using ab
  have hh:=λh=>Ap5 hI ab h
  have d9:=λh=>Bi (p:=λ_ s=>Am3 of bl s) hI ab h
  have ff:=rq _ (zI ab);obtain ⟨x,ee⟩:∃x,sn[j]=x:=⟨_,rfl⟩
  have e1:sn[(j:Int).toNat]'ai=x:=ee;rw[ee]at hh d9 ff;unfold Am3 at d9;obtain ⟨hx1,w5,hx3⟩:=ff;have hx1:=Cc hx1;have cm:(x.origin-1).toNat<bl.length:=by omega
  have hw1:=(hpa _ (zI cm)).1;have hw1:=Cc hw1;have fg:(bl[(x.origin-1).toNat]'cm).toNat<of.length:=by omega
  have dg:x.port.toNat<of.length:=by omega
  rw[Ai cm,Ai fg,Ai dg]at hh d9;clear h rq hpa;refine S ?_;refine⟨E,by omega,ai,?_⟩;rw[e1];refine T ?_;constructor<;>intro h1
  ·rw[hh (by simpa using h1)];exact gA
  ·have x7:=d9 (zO (by simpa using h1));refine T ?_;refine A8 [] hI ab x7 ?_;exact U
 ·rw[Ap4 hI (qB h)];exact gA
def Aem(n:Net)(hn:n.Fin)(dt:n.Num)(of:List Int)(tabs:List (List EntryM))(ht:TabsOK tabs)(l:List StepM)(hl:ScriptOK l):Sp 20 [Am n,.sl 1 Aa of,.sl 1 Lk tabs,.sl 6 Db l] (.tup [Aa (crossesT n of tabs l).1,Aa (crossesT n of tabs l).2.1,Ab (crossesT n of tabs l).2.2]):=cT F20 ntmps20 λF hF=>by
 refine gD (Ah3 n hn dt of tabs ht l hl) F35 ?_;exact D
def M9(s:Int):Sp 10 [A2 s] (A2 (Ao s)):=cT F10 ntmps10 λF hF=>by
 refine fW ?_;exact dN
def At4(s b:Int)(h0:0≤s)(h1:s<18446744073709551616)(_hb:0<b):(IntKind.i64.wrap (s.fdiv (2^(min (Int.toNat 33) IntKind.u64.bits)))).tmod b=(s/8589934592)%b:=by
 have e:s.fdiv (2^(min (Int.toNat 33) IntKind.u64.bits))=s/8589934592:=by
  show s.fdiv 8589934592=_;rw[xW _ j_]
 have h2:0≤s/8589934592∧s/8589934592<9223372036854775808:=by omega
 rw[e,IntKind.wrap_i64,uR q_];congr 1;omega
def Tw(s b:Int):Sq 31 [Aa b,.ptr 0 0] [(0,.box [A2 s])] (Aa (Co (Ao s) b)) [(0,.box [A2 (Ao s)])]:=cT F31 ntmps31 λF hF=>by
 have hn:=M9 s;have hr:=An8 s;have hd:Co (Ao s) b=if b<1 then 0 else (Ao s/8589934592)%b:=rfl
 generalize Ao s=x at *;refine fW ?_;refine c0 hn F10 ?_;refine fU ?_;constructor<;>intro h
 ·have hb:b<1:=zK h;rw[hd,zG hb];refine fU ?_;exact done E (.cons .tmp .nil) [] [(0,.box [A2 x])] (λ_ h=>h) E E kU
 ·have hb:¬b<1:=zQ h;rw[hd,zD hb,←At4 x b hr.1 hr.2 q_];refine fU ?_
  first|(refine⟨by omega,?_⟩;(refine fW ?_))|skip
  first|(refine⟨by omega,?_⟩;(refine fW ?_))|skip
  exact done E (.cons .tmp .nil) [] [(0,.box [A2 x])] (λ_ h=>h) E E kU
def lastS(s:Int):Sq 32 [.ptr 0 0] [(0,.box [A2 s])] (A2 s) [(0,.box [A2 s])]:=cT F32 ntmps32 λF hF=>by
 refine fW ?_;exact done E (.cons .tmp .nil) [] [(0,.box [A2 s])] (λ_ h=>h) E E kU
def Ao8(n:Net)(j:Nat):Dn n (j+1)=if (n.ports.getD j default).link<0 then Dn n j++[(j:Int)] else Dn n j:=by
 rw[Dn,wV,List.filter_append,wU];split
 ·rename_i h;rw[vR (p:=λi=>decide ((n.ports.getD i default).link<0)) (a:=j) (by simpa using h),List.filter_nil];rfl
 ·rename_i h;rw[uL (p:=λi=>decide ((n.ports.getD i default).link<0)) (a:=j) (by simpa using h),List.filter_nil,vG,xC];rfl
def Xa(n:Net)(j:Nat):(Dn n j).length≤j:=by
 have:=uT (λi=>decide ((n.ports.getD i default).link<0)) (List.range j);simpa [Dn] using this
def Atj{n:Net}{j:Nat}{x:Int}(h:x∈Dn n j):0≤x∧x<j:=by
 simp only[Dn,yS,tR,xA]at h;obtain ⟨i,h1,rfl⟩:=h;omega
def Afh(n:Net)(x:SV)(k:Nat):List SV:=[.sl 5 Ax n.devices,.sl 7 A4 n.ports,.sl 3 Bz n.links,.sl 6 As n.domains,.sl 4 A0 n.statics,.sl 4 Ba n.floods,.sl 5 Ca n.vrfs,.sl 5 B4 n.irbs,x,.clo (.func 31) [] [.ptr k 0]]
def Df(n:Net)(s:Int):Obs:=[(0,.box (Afh n (.sl 1 Aa (Dn n n.ports.length)) 1)),(1,.box [A2 s])]
def A6y(n:Net)(s:Int)(hn:n.ports.length<1000000):Sq 17 [Am n,A2 s] [] (.tup [.ptr 0 0,.clo (.func 32) [] [.ptr 1 0]]) (Df n s):=cT F17 ntmps17 λF hF=>by
 refine fW ?_;refine Bf 2 8 (Am n) E E E ?_;refine Q9 11 8 1000 1 Aa E E E E ?_;refine A5 n.ports.length (λj=>[(3,.ptr 3 0),(6,.ptr 11 0),(17,.sl 7 A4 n.ports),(18,Aa n.ports.length),(19,Aa j)]) (λj=>[(3,.box [A2 s]),(11,.box (Afh n (.osl 1000) 3)),(1000,.row 1 Aa (Dn n j))]) []
  kU ?_
 intro j hj;refine fU ?_;constructor<;>intro h
 ·have ab:j<n.ports.length:=by simpa using h
  have af:=Ao8 n j;have hhl:=Xa n j;rw[Alg ab]at af;have e1:n.ports[(j:Int).toNat]'q_=n.ports[j]:=rfl;obtain ⟨p,hp⟩:∃p,n.ports[j]=p:=⟨_,rfl⟩
  rw[hp]at e1 af;obtain ⟨u,hu⟩:∃u,Dn n j=u:=⟨_,rfl⟩
  rw[hu]at af hhl⊢;refine fU ?_;refine⟨E,by omega,by omega,?_⟩;rw[e1];refine fW ?_;constructor<;>intro h2
  ·rw[zG (zK h2)]at af;refine fU ?_;refine Af (Ag Γ.toTy 34 E E E E E (.row E) (.lit (e:=Aa) (l:=[(j:Int)]) E E) y_ (by simp;omega) (by simp;omega)) E E ?_;refine gG ?_;exact Ay [(1000,34)] ab ⟨⟨E,E,E,E,E,E,E,E,E,E,Y⟩,⟨.inl E,E,.inl E,E,.inl (zH (Ob.row 1 Aa) af),E,Y⟩,E,E⟩
  ·rw[zD (zQ h2)]at af;refine gG ?_;exact Ay [] ab ⟨⟨E,E,E,E,E,E,E,E,E,E,Y⟩,⟨.inl E,E,.inl E,E,.inl (zH (Ob.row 1 Aa) af),E,Y⟩,E,E⟩
 have cg:j=n.ports.length:=by
  have:¬j<n.ports.length:=by simpa using h
  omega
 subst cg;refine fU ?_;refine Aj 1000 E ?_;exact done E (.cons .tmp (.cons .tmp .nil)) [(0,11),(1,3)] (Df n s) (λ_ h=>h) E E kU
def vlanS(n:Net)(p:Port)(s:Int)(hp:p.tagged.length<100000)(ag:Mm p≠[]):Sq 145 [.ptr 0 0,A4 p] (Df n s) (Aa (Abt p s).1) (Df n (Abt p s).2):=cT F145 ntmps145 λF hF=>by
 obtain ⟨l,ny⟩:∃l,Mm p=l:=⟨_,rfl⟩
 have hv:Abt p s=(nth l (Co (Ao s) l.length),Ao s):=by rw[←ny];rfl
 have hl:l=if p.native≠0 then p.native::p.tagged else p.tagged:=by rw[←ny];rfl
 rw[ny]at ag;have h0:0<l.length:=xN.2 ag;have hd:=Dj (s:=Ao s) (b:=l.length) q_;rw[Ai q_]at hv;rw[hv];have j9:=Tw s l.length;refine fW ?_;constructor<;>intro h
 ·have hnz:p.native≠0:=by simpa using h
  rw[zG hnz]at hl;subst hl;refine fU ?_;refine Af (Ag Γ.toTy 16 E E E E E (.lit (e:=Aa) (l:=[p.native]) E E) .sl y_ (by simp;omega) (by simp;omega)) E E ?_;refine Aj 16 E ?_;refine fU ?_;refine Af (Ap [(0,1)] (Aq E E F31) j9 E ⟨E,Y⟩ E ⟨.inl E,Y⟩) E E ?_;refine fU ?_;refine⟨E,hd.1,(by have:=hd.1;have:=hd.2;show _<(p.native::p.tagged).length;omega),?_⟩;refine fW ?_;exact done E (.cons .tmp .nil) [] (Df n (Ao s)) (λ_ h=>h) E E kU
 ·have hnz:¬p.native≠0:=by simpa using h
  rw[zD hnz]at hl;subst hl;refine fU ?_;refine Af (Ap [(0,1)] (Aq E E F31) j9 E ⟨E,Y⟩ E ⟨.inl E,Y⟩) E E ?_;refine fU ?_;refine⟨E,hd.1,q_,?_⟩;refine fW ?_;exact done E (.cons .tmp .nil) [] (Df n (Ao s)) (λ_ h=>h) E E kU
def Qe:∀(j:Nat) (s:Int),(Ic j s).1.length=j
 |0,_=>rfl
 |j+1,s=>by simp[Ic,Qe j s]
def Abx(k p d a b u:SV):SV:=.agg [k,p,d,a,b,u]
def Mo{κ:Ka}{w:World}{k p d a b u b' u':SV}(hb:∀v,Rd κ w b v→Rd κ w b' v)(hu:∀v,Rd κ w u v→Rd κ w u' v){v:Value}(h:Rd κ w (Abx k p d a b u) v):Rd κ w (Abx k p d a b' u') v:=by
 simp only[Abx,Rd,RdL]at h⊢;obtain ⟨cs,h1,h2,v0,r0,h3,h4,v1,r1,h5,h6,v2,r2,h7,h8,v3,r3,h9,mi,v4,r4,tw,vd,v5,r5,zm,yx,zn⟩:=h;exact⟨cs,h1,h2,v0,r0,h3,h4,v1,r1,h5,h6,v2,r2,h7,h8,v3,r3,h9,mi,v4,r4,tw,hb _ vd,v5,r5,zm,hu _ yx,zn⟩
def A5r(n:Net)(s:Int)(hn:n.links.length<100000):Sq 94 [.ptr 0 0] (Df n s) (Abx (Aa 5) (Aa 0) (Aa 0) (Aa 0) (.val (.slice none 0 0)) (.sl 1 Ab (Ic n.links.length s).1)) (Df n (Ic n.links.length s).2):=cT F94 ntmps94 λF hF=>by
 refine fW ?_;refine Q9 3 5 1000 1 Ab E E E E ?_;refine A5 n.links.length (λj=>[(0,.ptr 0 0),(2,.ptr 2 0),(3,.ptr 3 0),(10,Aa n.links.length),(11,Aa j)]) (λj=>[(0,.box (Afh n (.sl 1 Aa (Dn n n.ports.length)) 1)),(1,.box [A2 (Ic j s).2]),(2,.box [Aa 0,Aa 0,Aa 0,Aa 0,.val (.slice none 0 0),.val (.slice none 0 0)]),(3,.box [Aa 5,Aa 0,Aa 0,Aa 0,.val (.slice none 0 0),.osl 1000]),(1000,.row 1 Ab (Ic j s).1)]) []
  kU ?_
 intro j hj;have hlen:=Qe j s;have af:Ic (j+1) s=((Ic j s).1++[Co (Ao (Ic j s).2) 2==1],Ao (Ic j s).2):=rfl;obtain ⟨r,hr⟩:∃r,Ic j s=r:=⟨_,rfl⟩
 rw[hr]at hlen af⊢;obtain ⟨u,t⟩:=r;have j9:=Tw t 2;dsimp only at hlen af⊢;refine fU ?_;constructor<;>intro h
 ·have ab:j<n.links.length:=by simpa using h
  refine fU ?_;refine Bw (Ap [(0,1)] (Aq E E F31) j9 E ⟨E,Y⟩ E ⟨.inl E,Y⟩) z_ E ?_;refine fU ?_;refine Bw (Ag Γ.toTy 22 E E E E E (.row E) (.lit (e:=Ab) (l:=[Co (Ao t) 2==1]) E E) y_ (by simp;omega) (by simp;omega)) z_ E ?_;refine fU ?_;refine⟨z_,?_⟩;refine gI ?_;refine Ay [(1000,22)] ab ⟨⟨E,E,E,E,E,E,E,E,E,E,Y⟩,⟨.inl E,E,.inl ?_,E,.inl E,E,.inl E,E,.inl ?_,E,Y⟩,E,E⟩
  ·rw[af];rfl
  ·rw[af];rfl
 ·have cg:j=n.links.length:=by
   have:¬j<n.links.length:=by simpa using h
   omega
  subst cg;rw[hr];refine fU ?_;refine Aj 1000 E ?_;exact done E (.cons (.cell E E E E) .nil) [] (Df n t) (λ_ h=>h) E E kU
def linksS(n:Net)(s:Int)(hn:n.links.length<100000):Sq 94 [.ptr 0 0] (Df n s) (Db ⟨5,0,0,0,[],(Ic n.links.length s).1⟩) (Df n (Ic n.links.length s).2) :=
 (A5r n s hn).viewR λ_ _ _ h=>Mo (λ_=>I3) (λ_ h=>h) h
def I4(n:Net):Prop:=∀x∈n.irbs,0≤x.addr∧x.addr<4294967296
def Aeh{d:Int}(h0:0≤d)(h1:d<8):IntKind.u64.wrap (10995116277760+IntKind.u64.wrap d)=((10995116277760+d.toNat:Nat):Int):=by
 rw[IntKind.wrap_u64,IntKind.wrap_u64];omega
def Af5(d s t b:SV):SV:=.agg [d,s,t,b]
def Acs{κ:Ka}{w:World}{d s t b b':SV}(hb:∀v,Rd κ w b v→Rd κ w b' v){v:Value}(h:Rd κ w (Af5 d s t b) v):Rd κ w (Af5 d s t b') v:=by
 simp only[Af5,Rd,RdL]at h⊢;obtain ⟨cs,h1,h2,v0,r0,h3,h4,v1,r1,h5,h6,v2,r2,h7,h8,v3,r3,h9,mi,tw⟩:=h;exact⟨cs,h1,h2,v0,r0,h3,h4,v1,r1,h5,h6,v2,r2,h7,h8,v3,r3,h9,hb _ mi,tw⟩
def Apk(n:Net)(s:Int):K7 n s =
  if Co (Ao (Ao s)) 4=0∨(Co (Ao (Ao s)) 4=1∧n.irbs.length=0) then (⟨281474976710655,10995116277760+(Co (Ao s) 8).toNat,34997,[]⟩,Ao (Ao s))
  else if Co (Ao (Ao s)) 4=1 then
   (⟨D5 (nth n.irbs (Co (Ao (Ao (Ao s))) n.irbs.length)).addr,10995116277760+(Co (Ao s) 8).toNat,2048,ipL (IntKind.u32.wrap (Dg (nth n.irbs (Co (Ao (Ao (Ao (Ao s)))) n.irbs.length)).addr (nth n.irbs (Co (Ao (Ao (Ao (Ao s)))) n.irbs.length)).bits+Co (Ao (Ao (Ao (Ao (Ao s))))) 4)).toNat⟩,Ao (Ao (Ao (Ao (Ao s)))))
  else (⟨10995116277760+(Co (Ao (Ao (Ao s))) 8).toNat,10995116277760+(Co (Ao s) 8).toNat,34997,[]⟩,Ao (Ao (Ao s))):=rfl
def Ap0(n:Net)(s:Int)(hn:I4 n)(gq:n.irbs.length<100000):Sq 146 [.ptr 0 0] (Df n s) (Cu (K7 n s).1) (Df n (K7 n s).2):=by
 have ph:=Dj (s:=Ao s) (b:=8) j_;have jc:=Dj (s:=Ao (Ao s)) (b:=4) j_;have cn:=Aeh ph.1 ph.2;rw[Apk];have q1:=Tw s 8;have q2:=Tw (Ao s) 4;generalize Co (Ao s) 8=d1 at *;generalize Co (Ao (Ao s)) 4=d2 at *;split
 ·rename_i hc;refine Spec.viewR (R:=Af5 (A2 (281474976710655:Nat)) (A2 (10995116277760+d1.toNat:Nat)) (Aa (34997:Nat)) (.val (.slice none 0 0))) ?_ λ_ _ _ h=>Acs (λ_=>I3) h
  refine El Γ hm 100 F146 ntmps146 E λF hF=>by
   refine fW ?_;refine Af (Ap [(0,1)] (Aq E E F31) q1 E ⟨E,Y⟩ E ⟨.inl E,Y⟩) E E ?_;refine fU ?_;rw[cn];refine Af (Ap [(0,1)] (Aq E E F31) q2 E ⟨E,Y⟩ E ⟨.inl E,Y⟩) E E ?_;refine fU ?_
   (repeat' (first|(refine⟨λh=>?_,λh=>?_⟩<;>(repeat (first|simp only[zJ]at h|simp only[zX]at h|simp only[yJ]at h|simp only[zR]at h|simp only[xG]at h|simp only[bne_eq_false_iff_eq]at h|simp only[zE]at h|simp only[yM]at h|simp only[yQ]at h|simp only[xY]at h|simp only[yU]at h|simp only[wB]at h|simp only[yW]at h|simp only[tC]at h|simp only[wJ]at h))<;>((first|refine rg ?_|refine rd z_ ?_);(conv=>whnf);repeat((first|refine aF ?_|refine aT ?_);(first|refine rg ?_|refine rd z_ ?_);(conv=>whnf))))|(refine At rfl (.cons .tmp .nil) ?_ rfl)|(refine⟨z_,?_⟩;((conv=>whnf);repeat((first|refine aF ?_|refine aT ?_);(first|refine rg ?_|refine rd z_ ?_);(conv=>whnf))))|(refine⟨by (first|(unfold I64;omega)|omega|(simp only[zU];omega)|done),by (first|(unfold I64;omega)|omega|(simp only[zU];omega)|done),?_⟩;((conv=>whnf);repeat((first|refine aF ?_|refine aT ?_);(first|refine rg ?_|refine rd z_ ?_);(conv=>whnf))))|(refine⟨by (first|(unfold I64;omega)|omega|(simp only[zU];omega)|done),?_⟩;((conv=>whnf);repeat((first|refine aF ?_|refine aT ?_);(first|refine rg ?_|refine rd z_ ?_);(conv=>whnf))))|refine done rfl (.cons (.cell rfl rfl rfl rfl) .nil) [] (Df n (Ao (Ao s))) (λ_ h=>h) rfl rfl kU))
   all_goals (exfalso;clear hF q1 q2 cn;omega)
 ·rename_i hc;split
  ·rename_i hk;subst hk;have gl:0<n.irbs.length:=by omega
   have zj:=Dj (s:=Ao (Ao (Ao s))) (b:=n.irbs.length) q_;have hd4:=Dj (s:=Ao (Ao (Ao (Ao s)))) (b:=n.irbs.length) q_;have hd5:=Dj (s:=Ao (Ao (Ao (Ao (Ao s))))) (b:=4) j_;have q3:=Tw (Ao (Ao s)) n.irbs.length;have q4:=Tw (Ao (Ao (Ao s))) n.irbs.length;have q5:=Tw (Ao (Ao (Ao (Ao s)))) 4;generalize Co (Ao (Ao (Ao s))) n.irbs.length=d3 at *;generalize Co (Ao (Ao (Ao (Ao s)))) n.irbs.length=d4 at *;generalize Co (Ao (Ao (Ao (Ao (Ao s))))) 4=d5 at *;rw[Ai (l:=n.irbs) (i:=d3) q_,Ai (l:=n.irbs) (i:=d4) q_];have hx:=hn _ (zI (show d3.toNat<n.irbs.length by omega));have hy:=hn _ (zI (show d4.toNat<n.irbs.length by omega));obtain ⟨x,p6⟩:∃x,n.irbs[d3.toNat]'q_=x:=⟨_,rfl⟩
   obtain ⟨y,hy'⟩:∃y,n.irbs[d4.toNat]'q_=y:=⟨_,rfl⟩
   rw[p6]at hx⊢;rw[hy']at hy⊢;obtain ⟨ax,uf⟩:∃a:Nat,x.addr=a:=⟨x.addr.toNat,by omega⟩
   obtain ⟨ay,hay⟩:∃a:Nat,y.addr=a:=⟨y.addr.toNat,by omega⟩
   have eh:∃to:Nat,IntKind.u32.wrap (Dg y.addr y.bits+d5)=to∧to<4294967296:=⟨(IntKind.u32.wrap (Dg y.addr y.bits+d5)).toNat,by rw[IntKind.wrap_u32];omega,by rw[IntKind.wrap_u32];omega⟩
   obtain ⟨to,yj,hto2⟩:=eh;have hto3:IntKind.u32.wrap (Dg y.addr y.bits+IntKind.u32.wrap d5)=to:=by
    rw[←yj,IntKind.wrap_u32,IntKind.wrap_u32,IntKind.wrap_u32];omega
   rw[yj,zU];have c1:=Aja ax q_;have c2:=Yn ay y.bits q_;rw[←uf]at c1;rw[←hay]at c2;have c3:=ipPutS to hto2;refine El Γ hm 100 F146 ntmps146 E λF hF=>by
    refine fW ?_;refine Af (Ap [(0,1)] (Aq E E F31) q1 E ⟨E,Y⟩ E ⟨.inl E,Y⟩) E E ?_;refine fU ?_;rw[cn];refine Af (Ap [(0,1)] (Aq E E F31) q2 E ⟨E,Y⟩ E ⟨.inl E,Y⟩) E E ?_;refine fU ?_;refine⟨λh=>zY (show (n.irbs.length:Int)=0 by simpa using h) q_,λ_=>?_⟩;refine fU ?_;refine Af (Ap [(0,1)] (Aq E E F31) q3 E ⟨E,Y⟩ E ⟨.inl E,Y⟩) E E ?_;refine fU ?_;refine⟨E,by omega,by omega,?_⟩;rw[p6];refine fW ?_;refine c0 c1 F210 ?_;refine fU ?_;refine Af (Ap [(0,1)] (Aq E E F31) q4 E ⟨E,Y⟩ E ⟨.inl E,Y⟩) E E ?_;refine fU ?_;refine⟨E,by omega,by omega,?_⟩;rw[hy'];refine fW ?_;refine c0 c2 F130 ?_;refine fU ?_;refine Af (Ap [(0,1)] (Aq E E F31) q5 E ⟨E,Y⟩ E ⟨.inl E,Y⟩) E E ?_;refine fU ?_;rw[hto3];refine Af (Ad [(0,87)] E F211 c3 E Y E ⟨.inr E,Y⟩) E E ?_;refine fU ?_;refine Aj 87 E ?_;exact done E (.cons (.cell E E E E) .nil) [] (Df n (Ao (Ao (Ao (Ao (Ao s)))))) (λ_ h=>h) E E kU
  ·rename_i hk;have zj:=Dj (s:=Ao (Ao (Ao s))) (b:=8) j_;have q3:=Tw (Ao (Ao s)) 8;generalize Co (Ao (Ao (Ao s))) 8=d3 at *;have hst3:=Aeh zj.1 zj.2;refine Spec.viewR (R:=Af5 (A2 (10995116277760+d3.toNat:Nat)) (A2 (10995116277760+d1.toNat:Nat)) (Aa (34997:Nat)) (.val (.slice none 0 0))) ?_ λ_ _ _ h=>Acs (λ_=>I3) h
   refine El Γ hm 100 F146 ntmps146 E λF hF=>by
    refine fW ?_;refine Af (Ap [(0,1)] (Aq E E F31) q1 E ⟨E,Y⟩ E ⟨.inl E,Y⟩) E E ?_;refine fU ?_;rw[cn];refine Af (Ap [(0,1)] (Aq E E F31) q2 E ⟨E,Y⟩ E ⟨.inl E,Y⟩) E E ?_;refine fU ?_;refine⟨λh=>zY (show d2=0 by simpa using h) (λe=>hc (.inl e)),λ_=>?_⟩;refine fU ?_;refine⟨λh=>zY (show d2=1 by simpa using h) hk,λ_=>?_⟩;refine fU ?_;refine⟨λh=>zY (show d2=1 by simpa using h) hk,λ_=>?_⟩;refine fU ?_;refine Af (Ap [(0,1)] (Aq E E F31) q3 E ⟨E,Y⟩ E ⟨.inl E,Y⟩) E E ?_;refine fU ?_;rw[hst3];exact done E (.cons (.cell E E E E) .nil) [] (Df n (Ao (Ao (Ao s)))) (λ_ h=>h) E E kU
def r_port{n:Net}(h:Ac n=true){i:Nat}(hi:i<n.ports.length):Jd n i n.ports[i]=true:=by
 simp only[Ac,zE]at h;exact allB_iff.1 h.1.1.1.1.1.2 i hi
def Au5{n:Net}(h:Ac n=true):n.devices.length≤8∧n.ports.length≤40∧n.links.length≤20∧n.domains.length≤48∧n.irbs.length≤48:=by
 simp only[Ac,Aga,zE,zJ]at h;omega
def Axa{l:List Int}{a b:Int}(h:Hp l a b=true){x:Int}(hx:x∈l):a≤x∧x≤b:=by
 simp only[Hp,zE,zJ]at h;obtain ⟨i,hi,rfl⟩:=wD hx;have:=allB_iff.1 h.2 i hi;simp only[Uf,zE,zJ]at this;exact⟨this.1.1,this.1.2⟩
def Ase{n:Net}(h:Ac n=true){i:Nat}(hi:i<n.ports.length):Mm n.ports[i]≠[]∧n.ports[i].tagged.length≤16∧0≤n.ports[i].native∧∀v∈Mm n.ports[i],0≤v∧v≤4094:=by
 have hp:=r_port h hi;simp only[Jd,zE,zJ,yM,yU,yQ,zR,zX]at hp;obtain ⟨⟨⟨⟨⟨⟨⟨⟨_,h1⟩,h2⟩,h3⟩,_⟩,h4⟩,_⟩,_⟩,_⟩:=hp;generalize n.ports[i]=p at *;have hl:p.tagged.length≤16:=by
  rcases h3 with h3|h3
  ·omega
  ·simp only[Hp,zE,zJ]at h3;omega
 have ht:∀v∈p.tagged,0≤v∧v≤4094:=λv hv=>by
  rcases h3 with h3|h3
  ·rw[zZ h3]at hv;cases hv
  ·have:=Axa h3 hv;omega
 refine⟨?_,hl,h1,?_⟩
 ·unfold Mm;split
  ·simp
  ·rename_i hz;rcases h4 with h4|h4
   ·exact zY h4 hz
   ·intro e;rw[e]at h4;exact h4 rfl
 ·unfold Mm;split
  ·intro v hv;rcases yH.1 hv with rfl|hv
   ·exact⟨h1,h2⟩
   ·exact ht v hv
  ·exact ht
def Ate(to:Nat):(ipL to).length=20:=by simp[ipL,Cv]
def A1w{n:Net}(hn:I4 n)(d:Int):0≤(nth n.irbs d).addr∧(nth n.irbs d).addr<4294967296:=by
 rw[nth];cases h:n.irbs[d.toNat]? with
 |none=>exact⟨by decide,by decide⟩
 |some x=>exact hn x (List.mem_of_getElem? h)
def Ajg(n:Net)(s:Int)(hn:I4 n):(K7 n s).1.dst<281474976710656∧(K7 n s).1.src<281474976710656∧((K7 n s).1.typ=34997∨(K7 n s).1.typ=2048)∧(K7 n s).1.body.length≤20:=by
 have ph:=Dj (s:=Ao s) (b:=8) j_;rw[Apk];split
 ·exact⟨by dsimp only;omega,by dsimp only;omega,.inl E,by simp⟩
 ·split
  ·have:=A1w hn (Co (Ao (Ao (Ao s))) n.irbs.length);exact⟨by dsimp only;unfold D5;omega,by dsimp only;omega,.inr E,by dsimp only;rw[Ate];decide⟩
  ·have zj:=Dj (s:=Ao (Ao (Ao s))) (b:=8) j_;exact⟨by dsimp only;omega,by dsimp only;omega,.inl E,by simp⟩
def Ajk(f:FrameM)(h:f.dst<281474976710656∧f.src<281474976710656∧f.typ≤65535∧f.body.length≤1504):Sq 148 [Cu f] [] (.tup [.osl 0,Aa 0]) [(0,.row 1 Al (frame f.dst f.src f.typ f.body))] :=
 Acw f.dst f.src f.typ f.body h.1 h.2.1 h.2.2.1 h.2.2.2
def A5z(n:Net)(s:Int)(hr:Ac n=true)(hn:I4 n)(hh:0<(Dn n n.ports.length).length):Sq 93 [.ptr 0 0] (Df n s) (Db (Lh n s).1) (Df n (Lh n s).2):=by
 have hf:=Au5 hr;have hhl:=Xa n n.ports.length;obtain ⟨d,hd⟩:∃d,Co (Ao s) (Dn n n.ports.length).length=d:=⟨_,rfl⟩
 have fy:=Dj (s:=Ao s) (b:=(Dn n n.ports.length).length) q_;have q1:=Tw s (Dn n n.ports.length).length;rw[hd]at fy q1;have gx:=Atj (zI (show d.toNat<(Dn n n.ports.length).length by omega));obtain ⟨port,jf⟩:∃port,(Dn n n.ports.length)[d.toNat]'q_=port:=⟨_,rfl⟩
 rw[jf]at gx;have hpv:=Ase hr (i:=port.toNat) q_;have ec:nth n.ports port=n.ports[port.toNat]'q_:=Ai q_;obtain ⟨p,hp⟩:∃p,n.ports[port.toNat]'q_=p:=⟨_,rfl⟩
 rw[hp]at hpv ec;obtain ⟨pq,oh,hv3,hv4⟩:=hpv;have q2:=vlanS n p (Ao s) q_ pq;obtain ⟨v,hv⟩:∃v,Abt p (Ao s)=v:=⟨_,rfl⟩
 have hvm:v.1∈Mm p:=by
  have h0:0<(Mm p).length:=xN.2 pq;have:=Dj (s:=Ao (Ao s)) (b:=(Mm p).length) q_;rw[←hv,Abt,Ai q_];exact zI _
 have hvr:=hv4 _ hvm;rw[hv]at q2;have q3:=Ap0 n v.2 hn q_;have j6:=Ajg n v.2 hn;have hM:Lh n s=(let g:=if v.1≠p.native then Awn (K7 n v.2).1 v.1 else (K7 n v.2).1;(⟨1,port,0,0,frame g.dst g.src g.typ g.body,[]⟩,(K7 n v.2).2)):=by
  simp only[Lh];rw[hd,Ai q_,jf,ec,hv]
 rw[hM];obtain ⟨f,yy⟩:∃f,K7 n v.2=f:=⟨_,rfl⟩
 rw[yy]at q3 j6⊢;obtain ⟨⟨fd,fs,ft,fb⟩,t⟩:=f;obtain ⟨v,sv⟩:=v;obtain ⟨vn,vo⟩:∃vn:Nat,v=vn:=⟨v.toNat,by simp only at hvr;omega⟩
 subst vo;dsimp only at *;by_cases ag:(vn:Int)≠p.native
 ·have q4:=Auu fd fs ft vn fb q_ q_ q_ q_;have q5:=Ajk (Awn ⟨fd,fs,ft,fb⟩ vn) ⟨j6.1,j6.2.1,by simp[Awn],by simp[Awn];omega⟩;rw[zG ag];refine Spec.viewR (R:=Abx (Aa 1) (Aa port) (Aa 0) (Aa 0) (.sl 1 Al (frame fd fs 33024 ([UInt8.ofNat (vn/256),UInt8.ofNat vn,UInt8.ofNat (ft/256),UInt8.ofNat ft]++fb))) (.val (.slice none 0 0))) ?_ λ_ _ _ h=>Mo (λ_ h=>h) (λ_=>I3) h
  refine El Γ hm 100 F93 ntmps93 E λF hF=>by
   refine fW ?_;refine Bw (Ap [(0,1)] (Aq E E F31) q1 E ⟨E,Y⟩ E ⟨.inl E,Y⟩) z_ E ?_;refine fU ?_;refine⟨E,by omega,by omega,?_⟩;refine fW ?_;refine⟨z_,?_⟩;rw[jf];refine fW ?_;refine⟨E,by omega,by omega,?_⟩;rw[hp];refine fW ?_;refine Af (Ad [] E F145 q2 E ⟨E,E,Y⟩ E ⟨.inl E,.inl E,Y⟩) E E ?_;refine fU ?_;refine Af (Ad [] E F146 q3 E ⟨E,E,Y⟩ E ⟨.inl E,.inl E,Y⟩) E E ?_;refine fU ?_;refine⟨E,by omega,by omega,?_⟩;rw[hp];refine fW ?_;refine⟨λ_=>?_,λh=>zY (show (vn:Int)=p.native by simpa using h) ag⟩;refine fU ?_;refine c0 q4 F147 ?_;refine fU ?_;refine Af (Ad [(0,55)] E F148 q5 E Y E ⟨.inr E,Y⟩) E E ?_;refine fU ?_;refine Aj 55 E ?_;exact done E (.cons (.cell E E E E) .nil) [] (Df n t) (λ_ h=>h) E E kU
 ·have q5:=Ajk ⟨fd,fs,ft,fb⟩ ⟨j6.1,j6.2.1,by dsimp only;omega,by dsimp only;omega⟩;rw[zD ag];refine Spec.viewR (R:=Abx (Aa 1) (Aa port) (Aa 0) (Aa 0) (.sl 1 Al (frame fd fs ft fb)) (.val (.slice none 0 0))) ?_ λ_ _ _ h=>Mo (λ_ h=>h) (λ_=>I3) h
  refine El Γ hm 100 F93 ntmps93 E λF hF=>by
   refine fW ?_;refine Bw (Ap [(0,1)] (Aq E E F31) q1 E ⟨E,Y⟩ E ⟨.inl E,Y⟩) z_ E ?_;refine fU ?_;refine⟨E,by omega,by omega,?_⟩;refine fW ?_;refine⟨z_,?_⟩;rw[jf];refine fW ?_;refine⟨E,by omega,by omega,?_⟩;rw[hp];refine fW ?_;refine Af (Ad [] E F145 q2 E ⟨E,E,Y⟩ E ⟨.inl E,.inl E,Y⟩) E E ?_;refine fU ?_;refine Af (Ad [] E F146 q3 E ⟨E,E,Y⟩ E ⟨.inl E,.inl E,Y⟩) E E ?_;refine fU ?_;refine⟨E,by omega,by omega,?_⟩;rw[hp];refine fW ?_;refine⟨λh=>zY (show (vn:Int)≠p.native by simpa using h) ag,λ_=>?_⟩;refine fU ?_;refine Af (Ad [(0,55)] E F148 q5 E Y E ⟨.inr E,Y⟩) E E ?_;refine fU ?_;refine Aj 55 E ?_;exact done E (.cons (.cell E E E E) .nil) [] (Df n t) (λ_ h=>h) E E kU
def Akh(n:Net)(s:Int):Yu n s =
  if Co (Ao s) 10<3∧0<(Dn n n.ports.length).length then Lh n (Ao s)
  else if 3≤Co (Ao s) 10∧Co (Ao s) 10<8∧0<n.domains.length then (⟨2,0,Co (Ao (Ao s)) n.domains.length,Co (Ao (Ao (Ao s))) 3,[],[]⟩,Ao (Ao (Ao s)))
  else if Co (Ao s) 10=9∧0<n.links.length then (⟨5,0,0,0,[],(Ic n.links.length (Ao s)).1⟩,(Ic n.links.length (Ao s)).2)
  else (⟨4,0,0,0,[],[]⟩,Ao s):=rfl
def stepS(n:Net)(s:Int)(hr:Ac n=true)(hn:I4 n):Sq 33 [.ptr 0 0] (Df n s) (Db (Yu n s).1) (Df n (Yu n s).2):=by
 have hf:=Au5 hr;have q1:=Tw s 10;have qi:=A5z n (Ao s) hr hn;have ql:=linksS n (Ao s) q_;have hd:=Dj (s:=Ao s) (b:=10) j_;rw[Akh];generalize Co (Ao s) 10=k at *;split
 ·rename_i hc;have qi:=qi hc.2;refine El Γ hm 100 F33 ntmps33 E λF hF=>by
   refine fW ?_;refine Af (Ap [(0,1)] (Aq E E F31) q1 E ⟨E,Y⟩ E ⟨.inl E,Y⟩) E E ?_;refine fU ?_;refine⟨λ_=>?_,λh=>zY (zQ h) q_⟩;refine fU ?_;refine⟨λ_=>?_,λh=>zY (zQ h) q_⟩;refine fU ?_;refine Af (Ad [] E F93 qi E ⟨E,E,Y⟩ E ⟨.inl E,.inl E,Y⟩) E E ?_;refine fU ?_;exact done E (.cons (.cell E E E E) .nil) [] (Df n (Lh n (Ao s)).2) (λ_ h=>h) E E kU
 rename_i rl;split
 ·rename_i hc;have q2:=Tw (Ao s) n.domains.length;have q3:=Tw (Ao (Ao s)) 3;generalize Co (Ao (Ao s)) n.domains.length=d at *;generalize Co (Ao (Ao (Ao s))) 3=a at *;refine Spec.viewR (R:=Abx (Aa 2) (Aa 0) (Aa d) (Aa a) (.val (.slice none 0 0)) (.val (.slice none 0 0))) ?_ λ_ _ _ h=>Mo (λ_=>I3) (λ_=>I3) h
  refine El Γ hm 100 F33 ntmps33 E λF hF=>by
   refine fW ?_;refine Af (Ap [(0,1)] (Aq E E F31) q1 E ⟨E,Y⟩ E ⟨.inl E,Y⟩) E E ?_;refine fU ?_;refine⟨λh=>zY (zK h) q_,λ_=>?_⟩;refine fU ?_;refine⟨λ_=>?_,λh=>zY (zQ h) q_⟩;refine fU ?_;refine⟨λ_=>?_,λh=>zY (zQ h) q_⟩;refine fU ?_;refine⟨λ_=>?_,λh=>zY (zQ h) q_⟩;refine fU ?_;refine Bw (Ap [(0,1)] (Aq E E F31) q2 E ⟨E,Y⟩ E ⟨.inl E,Y⟩) z_ E ?_;refine fU ?_;refine⟨z_,?_⟩;refine fW ?_;refine Af (Ap [(0,1)] (Aq E E F31) q3 E ⟨E,Y⟩ E ⟨.inl E,Y⟩) E E ?_;refine fU ?_;exact done E (.cons (.cell E E E E) .nil) [] (Df n (Ao (Ao (Ao s)))) (λ_ h=>h) E E kU
 rename_i m4;split
 ·rename_i hc;refine El Γ hm 100 F33 ntmps33 E λF hF=>by
   refine fW ?_;refine Af (Ap [(0,1)] (Aq E E F31) q1 E ⟨E,Y⟩ E ⟨.inl E,Y⟩) E E ?_;refine fU ?_;refine⟨λh=>zY (zK h) q_,λ_=>?_⟩;refine fU ?_;refine⟨λ_=>?_,λh=>zY (zQ h) q_⟩;refine fU ?_;refine⟨λh=>zY (zK h) q_,λ_=>?_⟩;refine fU ?_;refine⟨λ_=>?_,λh=>zY hc.1 (by simpa using h)⟩;refine fU ?_;refine⟨λ_=>?_,λh=>zY (zQ h) q_⟩;refine fU ?_;refine Af (Ad [] E F94 ql E ⟨E,E,Y⟩ E ⟨.inl E,.inl E,Y⟩) E E ?_;refine fU ?_;exact done E (.cons (.cell E E E E) .nil) [] (Df n (Ic n.links.length (Ao s)).2) (λ_ h=>h) E E kU
 ·rename_i sg;refine Spec.viewR (R:=Abx (Aa 4) (Aa 0) (Aa 0) (Aa 0) (.val (.slice none 0 0)) (.val (.slice none 0 0))) ?_ λ_ _ _ h=>Mo (λ_=>I3) (λ_=>I3) h
  refine El Γ hm 100 F33 ntmps33 E λF hF=>by
   refine fW ?_;refine Af (Ap [(0,1)] (Aq E E F31) q1 E ⟨E,Y⟩ E ⟨.inl E,Y⟩) E E ?_;refine fU ?_
   (repeat' (first|(refine⟨λh=>?_,λh=>?_⟩<;>(repeat (first|simp only[zJ]at h|simp only[zX]at h|simp only[yJ]at h|simp only[zR]at h|simp only[xG]at h|simp only[bne_eq_false_iff_eq]at h|simp only[zE]at h|simp only[yM]at h|simp only[yQ]at h|simp only[xY]at h|simp only[yU]at h|simp only[wB]at h|simp only[yW]at h|simp only[tC]at h|simp only[wJ]at h))<;>((first|refine rg ?_|refine rd z_ ?_);(conv=>whnf);repeat((first|refine aF ?_|refine aT ?_);(first|refine rg ?_|refine rd z_ ?_);(conv=>whnf))))|(refine At rfl (.cons .tmp .nil) ?_ rfl)|(refine⟨z_,?_⟩;((conv=>whnf);repeat((first|refine aF ?_|refine aT ?_);(first|refine rg ?_|refine rd z_ ?_);(conv=>whnf))))|(refine⟨by (first|(unfold I64;omega)|omega|(simp only[zU];omega)|done),by (first|(unfold I64;omega)|omega|(simp only[zU];omega)|done),?_⟩;((conv=>whnf);repeat((first|refine aF ?_|refine aT ?_);(first|refine rg ?_|refine rd z_ ?_);(conv=>whnf))))|(refine⟨by (first|(unfold I64;omega)|omega|(simp only[zU];omega)|done),?_⟩;((conv=>whnf);repeat((first|refine aF ?_|refine aT ?_);(first|refine rg ?_|refine rd z_ ?_);(conv=>whnf))))|refine done rfl (.cons (.cell rfl rfl rfl rfl) .nil) [] (Df n (Ao s)) (λ_ h=>h) rfl rfl kU))
   all_goals (exfalso;clear hF q1 qi ql;omega)
def Au0(n:Net)(s:Int)(size:Nat)(bg:size<100000)(hr:Ac n=true)(hn:I4 n):Sq 18 [.ptr 0 0,Aa size] (Df n s) (.sl 6 Db (B6 n size s).1) (Df n (B6 n size s).2):=cT F18 ntmps18 λF hF=>by
 refine fW ?_;refine B7 5 1000 6 Db E E ?_;refine A5 size (λj=>[(0,.ptr 0 0),(5,.osl 1000),(6,Aa size),(7,Aa j)]) (λj=>[(0,.box (Afh n (.sl 1 Aa (Dn n n.ports.length)) 1)),(1,.box [A2 (B6 n j s).2]),(1000,.row 6 Db (B6 n j s).1)]) []
  kU ?_
 intro j hj;have hlen:=E8 n j s;have af:B6 n (j+1) s=((B6 n j s).1++[(Yu n (B6 n j s).2).1],(Yu n (B6 n j s).2).2):=rfl;obtain ⟨r,hr'⟩:∃r,B6 n j s=r:=⟨_,rfl⟩
 rw[hr']at hlen af⊢;obtain ⟨u,t⟩:=r;have cn:=stepS n t hr hn;dsimp only at hlen af⊢;generalize Yu n t=x at *;refine fU ?_;constructor<;>intro h
 ·have ab:j<size:=by simpa using h
  refine fU ?_;refine Af (Ad [] E F33 cn E ⟨E,E,Y⟩ E ⟨.inl E,.inl E,Y⟩) E E ?_;refine fU ?_;refine Af (Ag Γ.toTy 13 E E E E E (.row E) (.lit (e:=Db) (l:=[x.1]) E E) y_ (by simp;omega) (by simp;omega)) E E ?_;refine gG ?_;refine Ay [(1000,13)] ab ⟨⟨E,E,E,E,E,E,E,E,Y⟩,⟨.inl E,E,.inl ?_,E,.inl ?_,E,Y⟩,E,E⟩
  ·rw[af];rfl
  ·rw[af];rfl
 ·have cg:j=size:=by
   have:¬j<size:=by simpa using h
   omega
  subst cg;rw[hr'];refine fU ?_;refine Aj 1000 E ?_;exact done E (.cons .tmp .nil) [] (Df n t) (λ_ h=>h) E E kU
def A3r(n:Net)(size:Int):Bool:=decide (0≤size∧size≤60)&&Ac n
def Agg(n:Net)(s size:Int)(hn:n.Fin)(h:A3r n size=false):Sp 9 [Am n,A2 s,Aa size] (.tup [.sl 6 Db [],A2 0,Aa 2]):=cT F9 ntmps9 λF hF=>by
 have h':¬((0≤size∧size≤60)∧Ac n=true):=λhh=>by simp[A3r,hh.1,hh.2]at h
 refine fW ?_
 (repeat' (first|(refine⟨λh=>?_,λh=>?_⟩<;>(repeat (first|simp only[zJ]at h|simp only[zX]at h|simp only[yJ]at h|simp only[zR]at h|simp only[xG]at h|simp only[bne_eq_false_iff_eq]at h|simp only[zE]at h|simp only[yM]at h|simp only[yQ]at h|simp only[xY]at h|simp only[yU]at h|simp only[wB]at h|simp only[yW]at h|simp only[tC]at h|simp only[wJ]at h))<;>((first|refine rg ?_|refine rd z_ ?_);(conv=>whnf);repeat((first|refine aF ?_|refine aT ?_);(first|refine rg ?_|refine rd z_ ?_);(conv=>whnf))))|(refine At rfl (.cons .tmp .nil) ?_ rfl)|(refine⟨z_,?_⟩;((conv=>whnf);repeat((first|refine aF ?_|refine aT ?_);(first|refine rg ?_|refine rd z_ ?_);(conv=>whnf))))|(refine⟨by (first|(unfold I64;omega)|omega|(simp only[zU];omega)|done),by (first|(unfold I64;omega)|omega|(simp only[zU];omega)|done),?_⟩;((conv=>whnf);repeat((first|refine aF ?_|refine aT ?_);(first|refine rg ?_|refine rd z_ ?_);(conv=>whnf))))|(refine⟨by (first|(unfold I64;omega)|omega|(simp only[zU];omega)|done),?_⟩;((conv=>whnf);repeat((first|refine aF ?_|refine aT ?_);(first|refine rg ?_|refine rd z_ ?_);(conv=>whnf))))|(refine c0 (A1 n hn) F22 ?_;((first|refine rg ?_|refine rd z_ ?_);(conv=>whnf);repeat((first|refine aF ?_|refine aT ?_);(first|refine rg ?_|refine rd z_ ?_);(conv=>whnf))))|(refine cD (A1 n hn) F22 ?_;((first|refine rg ?_|refine rd z_ ?_);(conv=>whnf);repeat((first|refine aF ?_|refine aT ?_);(first|refine rg ?_|refine rd z_ ?_);(conv=>whnf))))|(refine Au 6 6 Db rfl ?_;refine At rfl (.cons .tmp (.cons .tmp (.cons .tmp .nil))) rfl rfl)))
 all_goals exact zY ⟨by omega,by assumption⟩ h'
def Ah0(n:Net)(s:Int)(size:Nat)(hn:n.Fin)(hr:Ac n=true)(bg:size≤60)(ha:I4 n):Sp 9 [Am n,A2 s,Aa size] (.tup [.sl 6 Db (B6 n size s).1,A2 (B6 n size s).2,Aa 0]):=cT F9 ntmps9 λF hF=>by
 have hf:=Au5 hr;have sh:=A1 n hn;rw[hr]at sh;have qm:=A6y n s q_;have qs:=Au0 n s size q_ hr ha;have qla:=lastS (B6 n size s).2;generalize B6 n size s=r at *;refine fW ?_;refine⟨λh=>zY (zK h) q_,λ_=>?_⟩;refine fU ?_;refine c0 sh F22 ?_;refine fU ?_;refine Af (Ad [(0,26),(1,27)] E F17 qm E Y E ⟨.inr E,.inr E,Y⟩) E E ?_;refine fU ?_;refine Af (Ad [(0,26),(1,27)] E F18 qs E ⟨E,E,Y⟩ E ⟨.inl E,.inl E,Y⟩) E E ?_;refine fU ?_;refine Af (Ap [(0,27)] (Aq E E F32) qla E ⟨E,Y⟩ E ⟨.inl E,Y⟩) E E ?_;exact gC
end Go.Sy.YticmobkdaneelaaGreatDoor
