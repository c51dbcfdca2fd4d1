/- Parts of a proof. -/
import Derived.Test.YticmobkdaneelaaGreatDoorYE20
import Derived.Test.YticmobkdaneelaaGreatDoorYE23
set_option linter.all false
set_option linter.unusedVariables false
set_option linter.unusedSimpArgs false
set_option linter.deprecated false
namespace Go.Sy.YticmobkdaneelaaGreatDoor
open Go.Proofs Go.Proofs.Tryz
attribute [local irreducible] Go.Sy.G Go.Sy.DR
set_option maxRecDepth 100000
set_option maxHeartbeats 4000000
def Ao1(a c v:Nat)(f:FrameM)(h:f.body.length≤1450):ipPutT (Kx a c v f)=(Jj (Kx a c v f),0):=by
 rw[ipPutT,zD (by rw[Mc];omega)]
def Aqy(a b:Nat):udpPort a b≤65535:=by
 have:=tW (a^^^b) (show 0<16384 by decide);unfold udpPort;omega
def A1h(a c v:Nat)(f:FrameM)(ha:a<4294967296)(hc:c<4294967296)(h:f.body.length≤1450):FrameOK ⟨D5 c,D5 a,2048,Jj (Kx a c v f)⟩ :=
 ⟨U3 c hc,U3 a ha,by show (2048:Nat)≤65535;decide,by show (Jj (Kx a c v f)).length≤1504;rw[J1,Mc];omega⟩
def A4s(a c:Nat)(v:Int)(f:FrameM)(ha:a<4294967296)(hc:c<4294967296)(hf:FrameOK f):Sp 302 [Bb a,Bb c,Aa v,Cu f] (.tup [.sl 1 Al (wrapT a c v f).1,Aa (wrapT a c v f).2]):=cT F302 ntmps302 λF hF=>by
 have aa:=wrapT.eq_1 a c v f;generalize wrapT a c v f=res at *;have q0:=Vv f;have hd:=hf.dst;have hs:=hf.src;have hb:=hf.body;have bh:=Hh f
 conv=>whnf
 refine Bf 7 4 (Cu f) E E E ?_;by_cases ht:f.typ=33024
 ·rw[zG ht]at aa;subst aa;rw[zO ht]at q0;refine oO ?_;refine c0 q0 F212 ?_;refine oT ?_;refine Au 8 1 Al E ?_;exact dN
 rw[zD ht]at aa;rw[zL ht]at q0;refine oO ?_;refine c0 q0 F212 ?_;refine oF ?_;refine Af (Ad [(0,55)] E F148 (Wa f hf) E Y E ⟨.inr E,Y⟩) E E ?_;refine Aj 55 E ?_;refine oF ?_;cases hv:T4 v;rotate_left
 ·rw[zG hv]at aa;subst aa;refine c0 (Avq v hv) F357 ?_;refine oT ?_;refine Au 8 1 Al E ?_;exact dN
 rw[zD (by rw[hv];decide)]at aa;have hvg:=Azu hv;obtain ⟨k,rfl⟩:=xB (show 0≤v by omega);rw[zU]at aa;refine Af (Ad [(0,56)] E F357 (A27 k q_) E Y E ⟨.inr E,Y⟩) E E ?_;refine oF ?_;constructor<;>intro h
 ·rw[zG (qA h)]at aa;subst aa;refine oO ?_;refine Au 8 1 Al E ?_;exact dN
 have hl:f.body.length≤1450:=qB h;rw[zD q_]at aa;subst aa;clear h;have qp:=Az3 f.dst f.src q_ q_;have ur:=Aqy f.dst f.src;have qu:=A4v (udpPort f.dst f.src) 4789 (Km k++So f) ur j_ (by rw[zW,Hr,bh];omega);have hwb:(Kx a c k f).body=Adf (udpPort f.dst f.src) 4789 (Km k++So f):=rfl;have qi:=Avm (Kx a c k f) (Azr a c k f ha hc) (by rw[Mc];omega);rw[Ao1 a c k f hl]at qi;have qe:=Wa _ (A1h a c k f ha hc hl);refine oO ?_;refine c0 qp F359 ?_;refine oO ?_;refine Af (Ag Γ.toTy 46 E E E E E (.row E) .sl j_ (by rw[Hr,bh];simp;omega) (by rw[Hr,bh];omega)) E E ?_;refine Aj 46 E ?_;refine oO ?_;refine c0 qu F358 ?_;refine oO ?_;refine c0 qi F211 ?_;refine oO ?_;refine c0 (Aja c hc) F210 ?_;refine oO ?_;refine c0 (Aja a ha) F210 ?_;refine oO ?_;refine Af (Ad [(0,57)] E F148 qe E Y E ⟨.inr E,Y⟩) E E ?_;refine Aj 57 E ?_;exact gE
def Em(p:PacketM)(v e:Int):List SV:=[Aa p.tos,Aa p.id,Aa p.ttl,Aa p.proto,Bb p.src,Bb p.dst,.sl 1 Al p.body,Aa v,Aa e]
def Dq(is:Bool)(re e:Int):Int:=if is=true∧re=0 then e else re
def Zy(p:PacketM)(v re:Int)(is:Bool)(e:Int):Sq 382 [.ptr 0 0,Ab is,Aa e] [(0,.box (Em p v re))] (.tup []) [(0,.box (Em p v (Dq is re e)))]:=cT F382 ntmps382 λF hF=>by
 cases is
 ·have h:Dq false re e=re:=by simp[Dq]
  rw[h]
  ((conv=>whnf);refine aF ?_;refine rg ?_;(conv=>whnf);refine aF ?_;refine rg ?_;conv=>whnf)
  exact A6 E .nil [] [(0,.box (Em p v re))] (λ_ h=>h) E E kU
 ·((conv=>whnf);refine aT ?_;refine rg ?_;conv=>whnf)
  constructor<;>intro h
  ·have h2:Dq true re e=e:=by show (if true=true∧re=0 then e else re)=e;rw[zG ⟨rfl,by simpa using h⟩]
   rw[h2];refine oO ?_;exact A6 E .nil [] [(0,.box (Em p v e))] (λ_ h=>h) E E kU
  ·have h2:Dq true re e=re:=by
    show (if true=true∧re=0 then e else re)=re;rw[zD (λ h3=>by
     have h4:¬re=0:=by simpa using h
     exact h4 h3.2)]
   rw[h2];refine oO ?_;exact A6 E .nil [] [(0,.box (Em p v re))] (λ_ h=>h) E E kU
def A49(b:List UInt8)(hb:b.length<100000):Sq 360 [.ptr 0 0,.sl 1 Al b] [(0,.box (Em noP 0 0))] (.tup []) [(0,.box (Em (outerT b).1 0 (outerT b).2))]:=cT F360 ntmps360 λF hF=>by
 have aa:=outerT.eq_1 b;generalize outerT b=res at *;have q1:=Ya b hb;have df:=@takeF_bad b;have ar:=@Ys b;generalize takeF b=tk at *;obtain ⟨f,e⟩:=tk;dsimp only at aa q1 df ar
 conv=>whnf
 refine c0 q1 F214 ?_;refine oO ?_;refine Af (Ad [(0,0)] E F382 (Zy noP 0 0 true e) E ⟨E,Y⟩ E ⟨.inl E,Y⟩) E E ?_;rw[show Dq true 0 e=e by simp[Dq]];refine oO ?_;refine Af (Ad [(0,0)] E F382 (Zy noP 0 e ((f.typ:Int) != 2048) 11) E ⟨E,Y⟩ E ⟨.inl E,Y⟩) E E ?_;by_cases he:e=0;rotate_left
 ·rw[zG he]at aa;subst aa;rw[show Dq ((f.typ:Int) != 2048) e 11=e by simp[Dq,he]];refine oO ?_;refine⟨λh=>zY (show e=0 by simpa using h) he,λ_=>?_⟩;refine oO ?_;exact A6 E .nil [] [(0,.box (Em noP 0 e))] (λ_ h=>h) E E kU
 subst he;rw[zD y_]at aa;by_cases ht:f.typ=2048;rotate_left
 ·rw[zG ht]at aa;subst aa;have du:((f.typ:Int) != 2048)=true:=by simp;omega
  rw[du,show Dq true 0 11=11 by simp[Dq]];refine oF ?_;exact A6 E .nil [] [(0,.box (Em noP 0 11))] (λ_ h=>h) E E kU
 rw[zD (λh=>h ht)]at aa;have du:((f.typ:Int) != 2048)=false:=by simp;omega
 rw[du,show Dq false 0 11=0 by simp[Dq]];have hfb:=(ar rfl).body;have q2:=Avl f.body q_;have vq:=@A60 f.body;generalize ipTakeT f.body=ip at *;obtain ⟨p,e2⟩:=ip;dsimp only at aa q2 vq;refine oT ?_;refine c0 q2 F295 ?_;refine oO ?_;refine Af (Ad [(0,0)] E F382 (Zy p 0 0 true e2) E ⟨E,Y⟩ E ⟨.inl E,Y⟩) E E ?_;rw[show Dq true 0 e2=e2 by simp[Dq]];refine oO ?_;refine Af (Ad [(0,0)] E F382 (Zy p 0 e2 ((p.proto:Int) != 17) 11) E ⟨E,Y⟩ E ⟨.inl E,Y⟩) E E ?_;have gv:res=(p,Dq ((p.proto:Int) != 17) e2 11):=by
  by_cases h2:e2=0
  ·subst h2;rw[zD y_]at aa;rw[aa];simp only[Dq];by_cases h3:p.proto=17
   ·rw[zD (by simp[h3]),zD (by simp[h3])]
   ·rw[zG h3,zG (by simp;omega)]
  ·rw[zG h2]at aa;rw[aa,vq h2,show Dq ((noP.proto:Int) != 17) e2 11=e2 by simp[Dq,h2]]
 rw[gv];refine oO ?_;exact A6 E .nil [] [(0,.box (Em p 0 (Dq ((p.proto:Int) != 17) e2 11)))] (λ_ h=>h) E E kU
def frameT(p:PacketM)(e:Int):FrameM×Int×Int :=
 if e≠0 then (noF,0,e) else if (udpTakeT p.body).2.2.2≠0 then (noF,0,(udpTakeT p.body).2.2.2) else if (udpTakeT p.body).2.1≠4789 then (noF,0,11)
 else if (vniT (udpTakeT p.body).2.2.1).2.2≠0 then (noF,(vniT (udpTakeT p.body).2.2.1).1,(vniT (udpTakeT p.body).2.2.1).2.2)
 else ((takeF (vniT (udpTakeT p.body).2.2.1).2.1).1,(vniT (udpTakeT p.body).2.2.1).1,
  if (takeF (vniT (udpTakeT p.body).2.2.1).2.1).2≠0 then (takeF (vniT (udpTakeT p.body).2.2.1).2.1).2 else if (takeF (vniT (udpTakeT p.body).2.2.1).2.1).1.typ=33024 then 15 else 0)
def frameS(p:PacketM)(e:Int)(hb:p.body.length<100000):Sq 361 [.ptr 0 0] [(0,.box (Em p 0 e))] (Cu (frameT p e).1) [(0,.box (Em p (frameT p e).2.1 (frameT p e).2.2))]:=cT F361 ntmps361 λF hF=>by
 have aa:=frameT.eq_1 p e;generalize frameT p e=res at *;have q1:=Az2 p.body hb;have mq:=@A4o p.body;generalize udpTakeT p.body=u at *;obtain ⟨u1,u2,u3,u4⟩:=u;dsimp only at aa q1 mq;have q2:=vniS u3 q_;have iu:=@vniT_body u3;generalize vniT u3=w at *;obtain ⟨w1,w2,w3⟩:=w;dsimp only at aa q2 iu;have q3:=Ya w2 q_;have df:=@takeF_bad w2;generalize takeF w2=t at *;obtain ⟨f,t2⟩:=t;dsimp only at aa q3 df
 conv=>whnf
 constructor<;>intro h
 ·rw[zG (by simpa using h)]at aa;subst aa;refine oO ?_;refine Ak 2 zF E vL ?_;exact done E (.cons (.cell E E E E) .nil) [] [(0,.box (Em p 0 e))] (λ_ h=>h) E E kU
 have he:e=0:=by simpa using h
 clear h;subst he;rw[zD y_]at aa;refine oO ?_;refine c0 q1 F383 ?_;refine oO ?_;refine Af (Ad [(0,0)] E F382 (Zy p 0 0 true u4) E ⟨E,Y⟩ E ⟨.inl E,Y⟩) E E ?_;rw[show Dq true 0 u4=u4 by simp[Dq]];refine oO ?_;refine Af (Ad [(0,0)] E F382 (Zy p 0 u4 (u2 != 4789) 11) E ⟨E,Y⟩ E ⟨.inl E,Y⟩) E E ?_;by_cases h4:u4=0;rotate_left
 ·rw[zG h4]at aa;subst aa;rw[show Dq (u2 != 4789) u4 11=u4 by simp[Dq,h4]];refine oO ?_;refine⟨λh=>zY (show u4=0 by simpa using h) h4,λ_=>?_⟩;refine oO ?_;refine⟨λ_=>?_,λh=>zY (show u4=0 by simpa using h) h4⟩;refine oO ?_;refine Ak 2 zF E vL ?_;exact done E (.cons (.cell E E E E) .nil) [] [(0,.box (Em p 0 u4))] (λ_ h=>h) E E kU
 subst h4;rw[zD y_]at aa;by_cases h2:u2=4789;rotate_left
 ·rw[zG h2]at aa;subst aa;rw[show Dq (u2 != 4789) 0 11=11 by simp[Dq,h2]]
  (refine oF ?_;refine bT ?_)
  refine Ak 2 zF E vL ?_;exact done E (.cons (.cell E E E E) .nil) [] [(0,.box (Em p 0 11))] (λ_ h=>h) E E kU
 rw[zD (λh=>h h2)]at aa;rw[show Dq (u2 != 4789) 0 11=0 by simp[Dq,h2]];refine oT ?_;refine c0 q2 F384 ?_;refine oO ?_;refine Af (Ad [(0,0)] E F382 (Zy p w1 0 true w3) E ⟨E,Y⟩ E ⟨.inl E,Y⟩) E E ?_;rw[show Dq true 0 w3=w3 by simp[Dq]];refine oO ?_;constructor<;>intro h
 ·rw[zG (by simpa using h)]at aa;subst aa;refine oO ?_;refine Ak 2 zF E vL ?_;exact done E (.cons (.cell E E E E) .nil) [] [(0,.box (Em p w1 w3))] (λ_ h=>h) E E kU
 have h3:w3=0:=by simpa using h
 clear h;subst h3;rw[zD y_]at aa;refine oO ?_;refine c0 q3 F214 ?_;refine oO ?_;refine Af (Ad [(0,0)] E F382 (Zy p w1 0 true t2) E ⟨E,Y⟩ E ⟨.inl E,Y⟩) E E ?_;rw[show Dq true 0 t2=t2 by simp[Dq]];refine oO ?_;refine c0 (Vv f) F212 ?_;refine oO ?_;refine Af (Ad [(0,0)] E F382 (Zy p w1 t2 (decide (f.typ=33024)) 15) E ⟨E,Y⟩ E ⟨.inl E,Y⟩) E E ?_;have gv:Dq (decide (f.typ=33024)) t2 15=if t2≠0 then t2 else if f.typ=33024 then 15 else 0:=by
  by_cases k1:t2=0
  ·subst k1;rw[zD y_];by_cases k2:f.typ=33024<;>simp[Dq,k2]
  ·rw[zG k1];simp[Dq,k1]
 rw[←gv]at aa;subst aa;refine oO ?_;exact done E (.cons (.cell E E E E) .nil) [] [(0,.box (Em p w1 (Dq (decide (f.typ=33024)) t2 15)))] (λ_ h=>h) E E kU
def Akd(b:List UInt8):Ch b=if (frameT (outerT b).1 (outerT b).2).2.2≠0 then (0,0,0,noF,(frameT (outerT b).1 (outerT b).2).2.2)
  else ((outerT b).1.src,(outerT b).1.dst,(frameT (outerT b).1 (outerT b).2).2.1,(frameT (outerT b).1 (outerT b).2).1,0):=by
 unfold Ch;generalize outerT b=o;obtain ⟨p,e⟩:=o;dsimp only;by_cases he:e=0;rotate_left
 ·rw[zG he];have h1:frameT p e=(noF,0,e):=by rw[frameT,zG he]
  rw[h1,zG he]
 subst he;rw[zD y_];unfold L3 frameT;rw[zD (show ¬(0:Int)≠0 by simp)];generalize udpTakeT p.body=u;obtain ⟨u1,u2,u3,u4⟩:=u;dsimp only;by_cases h4:u4=0;rotate_left
 ·rw[zG h4,zG h4,zG h4];dsimp only;rw[zG h4]
 subst h4;simp only[ne_eq,not_true_eq_false,if_false];by_cases h2:u2=4789;rotate_left
 ·simp[h2]
 simp only[h2,not_true_eq_false,if_false];generalize vniT u3=w;obtain ⟨w1,w2,w3⟩:=w;dsimp only;by_cases h3:w3=0;rotate_left
 ·simp[h3]
 simp only[h3,not_true_eq_false,if_false];generalize takeF w2=t;obtain ⟨f,t2⟩:=t;dsimp only;by_cases k1:t2=0
 ·by_cases k2:f.typ=33024<;>simp[k1,k2]
 ·simp[k1]
def Awc(b:List UInt8)(hb:b.length<100000):Sp 306 [.sl 1 Al b] (.tup [Bb (Ch b).1,Bb (Ch b).2.1,Aa (Ch b).2.2.1,Cu (Ch b).2.2.2.1,Aa (Ch b).2.2.2.2]):=cT F306 ntmps306 λF hF=>by
 have aa:=Akd b;generalize Ch b=res at *;have q1:=A49 b hb;have mz:=(Aa2 b).2;generalize outerT b=o at *;obtain ⟨p,e⟩:=o;dsimp only at aa q1 mz;have q2:=frameS p e q_;generalize frameT p e=fr at *;obtain ⟨f,v,e2⟩:=fr;dsimp only at aa q2
 conv=>whnf
 refine Ak 9 (Em noP 0 0) E vL ?_;refine oO ?_;refine Af (Ad [(0,9)] E F360 q1 E ⟨E,Y⟩ E ⟨.inl E,Y⟩) E E ?_;refine oO ?_;refine Af (Ad [(0,9)] E F361 q2 E ⟨E,Y⟩ E ⟨.inl E,Y⟩) E E ?_;refine oO ?_;constructor<;>intro h
 ·rw[zG (by simpa using h)]at aa;subst aa;refine oO ?_;refine kW ?_;refine Ak 5 zF E vL ?_;exact dN
 rw[zD (by simpa using h)]at aa;subst aa;refine oO ?_;refine kW ?_;exact dN
end Go.Sy.YticmobkdaneelaaGreatDoor
namespace Go.Sy.YticmobkdaneelaaGreatDoor
open Go.Proofs Go.Proofs.Tryz
structure MacM where
 up:List Bool
 tables:List (List EntryM)
 queues:List (List QueuedM)
 now:Int
 injected:Int
 drops:Nat→Int
def C4(m:MacM)(e:Int):MacM:=⟨m.up,m.tables,m.queues,m.now,m.injected,λi=>if i=e.toNat then m.drops i+1 else m.drops i⟩
def queueL(m:MacM)(dom:Int):List QueuedM:=(m.queues[dom.toNat]?).getD []
def tableL(m:MacM)(dom:Int):List EntryM:=(m.tables[dom.toNat]?).getD []
def setQ(m:MacM)(dom:Int)(l:List QueuedM):MacM:=⟨m.up,m.tables,m.queues.set dom.toNat l,m.now,m.injected,m.drops⟩
def Il(m:MacM)(dom:Int)(t:List EntryM):MacM:=⟨m.up,m.tables.set dom.toNat t,m.queues,m.now,m.injected,m.drops⟩
def comeM(m:MacM)(dom:Int)(q:QueuedM)(e:Int):MacM :=
 if e≠0 then C4 m e else if (pushT (queueL m dom) q).2=true then setQ m dom (pushT (queueL m dom) q).1 else C4 m 3
def takeM(m:MacM)(dom at_:Int):MacM×QueuedM×Bool :=
 if Ah dom m.queues.length=false then (m,noQ,false)
 else (setQ m dom (takeT (queueL m dom) at_).2.1,(takeT (queueL m dom) at_).1,(takeT (queueL m dom) at_).2.2)
def injectT(n:Net)(m:MacM)(port:Int)(b:List UInt8):MacM :=
 if Ah port n.ports.length=false∨0≤(nth n.ports port).link then m
 else comeM ⟨m.up,m.tables,m.queues,m.now,m.injected+1,m.drops⟩ (enterT n port b).1 ⟨port,0,m.injected+1,(enterT n port b).2.1⟩ (enterT n port b).2.2
def goesM(n:Net)(m:MacM)(o:OutM)(origin:Int):MacM×List SeenM :=
 if o.kind=1 then (m,[⟨o.port,origin,o.bytes⟩])
 else if o.kind=2 then (comeM m (linkT n o.port o.bytes).2.1 ⟨(linkT n o.port o.bytes).1,0,origin,(linkT n o.port o.bytes).2.2.1⟩ (linkT n o.port o.bytes).2.2.2,[])
 else if o.kind=3 then (comeM m (comeT n o.bytes).2.1 ⟨-1,(comeT n o.bytes).1,origin,(comeT n o.bytes).2.2.1⟩ (comeT n o.bytes).2.2.2,[])
 else if o.kind=4 then (comeM m o.domain ⟨-2,0,origin,o.frame⟩ 0,[])
 else (C4 m o.error,[])
def goesL(n:Net)(m:MacM)(origin:Int):List OutM→MacM×List SeenM
 |[]=>(m,[])
 |o::l=>((goesL n (goesM n m o origin).1 origin l).1,(goesM n m o origin).2++(goesL n (goesM n m o origin).1 origin l).2)
def Qf(n:Net)(up:List Bool):List Bool:=if okB n up=true then fwdT n up else []
def Wy(n:Net)(m:MacM)(dom:Int)(q:QueuedM):List EntryM×List OutM×Int:=bridgeT n (Qf n m.up) (tableL m dom) dom q m.now
def Om(m:MacM)(dom:Int)(r:List EntryM×List OutM×Int):MacM :=
 if r.2.2=2 then C4 m 2 else if r.2.2≠0 then C4 (Il m dom r.1) r.2.2 else Il m dom r.1
def pickT(n:Net)(m:MacM)(dom at_:Int):MacM×List SeenM :=
 if (takeM m dom at_).2.2=false then ((takeM m dom at_).1,[])
 else goesL n (Om (takeM m dom at_).1 dom (Wy n (takeM m dom at_).1 dom (takeM m dom at_).2.1)) (takeM m dom at_).2.1.origin (Wy n (takeM m dom at_).1 dom (takeM m dom at_).2.1).2.1
def Wq(m:MacM):MacM :=
 let now:=min (m.now+1) 1099511627776
 ⟨m.up,m.tables.map (λt=>ageT t now),m.queues,now,m.injected,m.drops⟩
def doT(n:Net)(m:MacM)(x:StepM):MacM×List SeenM :=
 if x.kind=1 then (injectT n m x.port x.bytes,[])
 else if x.kind=2 then pickT n m x.domain x.at_
 else if x.kind=3 then ((takeM m x.domain x.at_).1,[])
 else if x.kind=4 then (Wq m,[])
 else if x.kind=5 then ((if x.up.length=n.links.length then ⟨x.up,m.tables,m.queues,m.now,m.injected,m.drops⟩ else m),[])
 else (m,[])
def newT(n:Net):MacM:=⟨List.replicate n.links.length true,List.replicate n.domains.length [],List.replicate n.domains.length [],0,0,λ_=>0⟩
def Dw(n:Net):MacM→List StepM→MacM×List SeenM
 |m,[]=>(m,[])
 |m,x::l=>((Dw n (doT n m x).1 l).1,(doT n m x).2++(Dw n (doT n m x).1 l).2)
def B9(e:Int):Prop:=0≤e∧e<64
def DomIn(n:Net)(d:Int):Prop:=0≤d∧d.toNat<n.domains.length
def K2{n:Net}{d:Int}(h:Ah d n.domains.length=true):DomIn n d:=by
 have:=Cc h;unfold DomIn;omega
def Aap(b:List UInt8):B9 (takeF b).2:=by
 unfold takeF B9
 repeat' split
 all_goals (dsimp only;omega)
def Aq0(f:FrameM):B9 (stripT f).2.2.2:=by
 unfold stripT B9
 repeat' split
 all_goals (dsimp only;omega)
def Agd(n:Net)(port:Int)(b:List UInt8):B9 (enterT n port b).2.2:=by
 have h1:=Aap b;have h2:=Aq0 (takeF b).1;have h3:∀f tg v,B9 (Hs n port f tg v).2.2:=λf tg v=>by
  unfold Hs B9
  repeat' split
  all_goals (dsimp only;omega)
 unfold enterT;split
 ·unfold B9;dsimp only;omega
 split
 ·exact h1
 split
 ·split
  ·exact h2
  ·exact h3 _ _ _
 ·exact h3 _ _ _
def Ayf(n:Net)(port:Int)(b:List UInt8):B9 (linkT n port b).2.2.2:=by
 unfold linkT;split
 ·unfold B9;dsimp only;omega
 ·exact Agd _ _ _
def As4(n:Net)(port dom:Int)(f:FrameM):B9 (leaveT n port dom f).2:=by
 unfold leaveT;split
 ·unfold B9;dsimp only;omega
 split
 ·unfold B9;dsimp only;omega
 split
 ·unfold B9;dsimp only;omega
 split
 ·unfold B9;dsimp only;omega
 split
 ·show B9 (tagT f (nth n.domains dom).vlan).2;unfold tagT B9
  repeat' split
  all_goals (dsimp only;omega)
 ·unfold B9;dsimp only;omega
def Awb(a b:Nat)(v:Int)(f:FrameM):B9 (wrapT a b v f).2:=by
 unfold wrapT B9
 repeat' split
 all_goals (dsimp only;omega)
def Ax4(n:Net)(dom peer:Int)(f:FrameM):B9 (meshT n dom peer f).2:=by
 unfold meshT;split
 ·unfold B9;dsimp only;omega
 split
 ·unfold B9;dsimp only;omega
 ·exact Awb _ _ _ _
def Acl(b:List UInt8):B9 (ipTakeT b).2:=by
 unfold ipTakeT B9
 repeat' split
 all_goals (dsimp only;omega)
def Akf(b:List UInt8):B9 (udpTakeT b).2.2.2:=by
 unfold udpTakeT B9
 repeat' split
 all_goals (dsimp only;omega)
def Azw(b:List UInt8):B9 (vniT b).2.2:=by
 unfold vniT B9
 repeat' split
 all_goals (dsimp only;omega)
def Asm(b:List UInt8):B9 (outerT b).2:=by
 unfold outerT;split
 ·exact Aap _
 split
 ·unfold B9;dsimp only;omega
 split
 ·exact Acl _
 ·unfold B9;dsimp only;split<;>omega
def Atg(b:List UInt8):B9 (L3 b).2.2:=by
 unfold L3;split
 ·exact Akf _
 split
 ·unfold B9;dsimp only;omega
 split
 ·exact Azw _
 split
 ·exact Aap _
 split
 ·unfold B9;dsimp only;omega
 ·unfold B9;dsimp only;omega
def Amq(b:List UInt8):B9 (Ch b).2.2.2.2:=by
 unfold Ch;split
 ·exact Asm _
 split
 ·exact Atg _
 ·unfold B9;dsimp only;omega
def Aza(n:Net)(b:List UInt8):B9 (comeT n b).2.2.2:=by
 unfold comeT;split
 ·unfold B9;dsimp only;omega
 split
 ·exact Amq _
 split
 ·unfold B9;dsimp only;omega
 split
 ·unfold B9;dsimp only;omega
 ·unfold B9;dsimp only;omega
def A25(n:Net)(irb:Int)(f:FrameM):B9 (hopT n irb f).2.2:=by
 unfold hopT;split
 ·unfold B9;dsimp only;omega
 split
 ·unfold B9;dsimp only;omega
 split
 ·exact Acl _
 split
 ·unfold B9;dsimp only;omega
 split
 ·unfold B9;dsimp only;omega
 split
 ·unfold B9;dsimp only;omega
 ·unfold B9;dsimp only;omega
def Aqg(n:Net)(fw:List Bool)(t:List EntryM)(dom:Int)(q:QueuedM)(now:Int):B9 (bridgeT n fw t dom q now).2.2:=by
 unfold bridgeT;split
 ·unfold B9;dsimp only;omega
 split
 ·split
  ·exact A25 _ _ _
  ·unfold B9;dsimp only;omega
 ·unfold B9;dsimp only;omega
def Avx{n:Net}{dev v:Int}(h:Eh n dev v=true):DomIn n (C2 n dev v):=by
 have h1:0≤C2 n dev v:=by simpa [Eh] using h
 have h2:C2 n dev v<n.domains.length:=Iy _ _;exact⟨h1,by omega⟩
def Azy{n:Net}(hb:Ac n=true){port:Int}(hp:Ah port n.ports.length=true){tg:Bool}{ef:Int}(h:(vlanT (nth n.ports port) tg ef).2=true):DomIn n (C2 n (nth n.ports port).dev (vlanT (nth n.ports port) tg ef).1):=by
 have hk:=Cc hp;have dg:port.toNat<n.ports.length:=by omega
 simp only[Ac,zE]at hb;have hpb:=allB_iff.1 hb.1.1.1.1.1.2 _ dg;rw[Ai dg]at h⊢;generalize n.ports[port.toNat]=p at *;simp only[Jd,zE]at hpb;obtain ⟨⟨⟨⟨⟨⟨⟨⟨g1,g2⟩,g3⟩,g4⟩,g5⟩,g6⟩,g7⟩,g8⟩,g9⟩:=hpb;unfold vlanT at h⊢;split
 ·rw[zG (by assumption)]at h;have h1:p.native≠0:=by simpa using h
  have h2:0≤p.native:=by simpa using g2
  refine Avx ?_;have h3:decide (0<p.native)=true:=by simp;omega
  rw[h3,yF]at g8;simpa using g8
 ·rw[zD (by assumption)]at h;split
  ·rename_i h4;have h5:ef∈p.tagged:=inB_mem.1 h4;obtain ⟨i,hi,rfl⟩:=yY.1 h5;exact Avx (allB_iff.1 g7 i hi)
  ·rw[zD (by assumption)]at h;cases h
def Yb{n:Net}{port:Int}{b:List UInt8}(h:(enterT n port b).2.2=0):DomIn n (enterT n port b).1:=by
 unfold enterT at h⊢;split
 ·rw[zG (by assumption)]at h;cases h
 rename_i hc;rw[zD hc]at h;have hp:Ah port n.ports.length=true:=by cases hx:Ah port n.ports.length;exact zY (.inl hx) hc;rfl
 have hb:Ac n=true:=by cases hx:Ac n;exact zY (.inr hx) hc;rfl
 have key:∀f tg v,(Hs n port f tg v).2.2=0→DomIn n (Hs n port f tg v).1:=λf tg v h=>by
  unfold Hs at h⊢;split
  ·rw[zG (by assumption)]at h;cases h
  rw[zD (by assumption)]at h;split
  ·rw[zG (by assumption)]at h;cases h
  rename_i h5;show DomIn n (C1 n _ _);rw[C1,zG hb];exact Azy hb hp (by simpa using h5)
 split
 ·rename_i h2;rw[zG h2]at h;exact zY h h2
 rename_i h2;rw[zD h2]at h;split
 ·rename_i h3;rw[zG h3]at h;split
  ·rename_i h4;rw[zG h4]at h;exact zY h h4
  ·rename_i h4;rw[zD h4]at h;exact key _ _ _ h
 ·rename_i h3;rw[zD h3]at h;exact key _ _ _ h
def Aiz{n:Net}{port:Int}{b:List UInt8}(h:(linkT n port b).2.2.2=0):DomIn n (linkT n port b).2.1:=by
 unfold linkT at h⊢;split
 ·rw[zG (by assumption)]at h;cases h
 ·rename_i h2;rw[zD h2]at h;exact Yb h
def Anu{n:Net}(hb:Ac n=true){dom:Nat}(hd:dom<n.domains.length){k:Int}(hk:k∈n.domains[dom].peers):DomIn n k:=by
 simp only[Ac,zE]at hb;have:=allB_iff.1 hb.1.1.1.1.1.1.2 _ hd;obtain ⟨i,hi,rfl⟩:=yY.1 hk;have h2:=allB_iff.1 this i hi;simp only[Qq,zE]at h2;exact K2 h2.1.1.1.1.1.1.1.1.1
def A3n{n:Net}(hb:Ac n=true){src dst:Nat}{vni:Int}(h:¬(endsT n src dst vni).1<0):DomIn n (endsT n src dst vni).1∧DomIn n (endsT n src dst vni).2:=by
 unfold endsT at h⊢;dsimp only at h⊢;split
 ·rw[zG (by assumption)]at h;exact zY j_ h
 rename_i h1;rw[zD h1]at h;split
 ·rw[zG (by assumption)]at h;exact zY j_ h
 rename_i h2;have hd:=Iy (λd:Domain=>decide (d.dev=Bv (λd:Device=>decide (d.vtep=(dst:Int))) n.devices)&&decide (d.vni=vni)) n.domains;generalize Bv (λd:Domain=>decide (d.dev=Bv (λd:Device=>decide (d.vtep=(dst:Int))) n.devices)&&decide (d.vni=vni)) n.domains=dom at *;have jc:dom.toNat<n.domains.length:=by omega
 have hi:=Iy (λk:Int=>decide (Cy n k=(src:Int))) (nth n.domains dom).peers;generalize Bv (λk:Int=>decide (Cy n k=(src:Int))) (nth n.domains dom).peers=i at *;rw[Ai jc]at hi⊢;have jo:i.toNat<(n.domains[dom.toNat]).peers.length:=by omega
 refine⟨?_,⟨by dsimp only;omega,jc⟩⟩;show DomIn n (nth (n.domains[dom.toNat]).peers i);rw[Ai jo];exact Anu hb jc (zI jo)
def Abl{n:Net}{b:List UInt8}(h:(comeT n b).2.2.2=0):DomIn n (comeT n b).1∧DomIn n (comeT n b).2.1:=by
 unfold comeT at h⊢;split
 ·rw[zG (by assumption)]at h;cases h
 rename_i hb;rw[zD hb]at h;split
 ·rename_i h2;rw[zG h2]at h;exact zY h h2
 rename_i h2;rw[zD h2]at h;split
 ·rw[zG (by assumption)]at h;cases h
 rename_i h3;rw[zD h3]at h;split
 ·rw[zG (by assumption)]at h;cases h
 exact A3n (by simpa using hb) h3
def Ape{n:Net}{irb:Int}{f:FrameM}(az:∀(d:Int),(lookT n irb d).2=true→0≤(lookT n irb d).1∧(lookT n irb d).1.toNat<n.irbs.length)(h:(hopT n irb f).2.2=0):DomIn n (hopT n irb f).1:=by
 unfold hopT at h⊢;split
 ·rw[zG (by assumption)]at h;cases h
 rename_i h1;rw[zD h1]at h;split
 ·rw[zG (by assumption)]at h;cases h
 rename_i h2;rw[zD h2]at h;split
 ·rename_i h3;rw[zG h3]at h;exact zY h h3
 rename_i h3;rw[zD h3]at h;split
 ·rw[zG (by assumption)]at h;cases h
 rename_i h4;rw[zD h4]at h;split
 ·rw[zG (by assumption)]at h;cases h
 rename_i h5;rw[zD h5]at h;split
 ·rw[zG (by assumption)]at h;cases h
 have hl:=az ((ipTakeT f.body).1.dst:Int) (by simpa using h5);have hb:Ac n=true:=by cases hx:Ac n;exact zY (.inr hx) h1;rfl
 have:=(Da hb hl.2).1;show DomIn n (nth n.irbs _).domain;rw[Ai hl.2];exact this
attribute [local irreducible] Go.Sy.G Go.Sy.DR
set_option maxRecDepth 100000
set_option maxHeartbeats 4000000
def X5(l:List Device)(p:Device→Bool)(f:FuncId)(first cap:List SV)(hc:(SV.clo (.func f) first cap).inn []=true)(hf:∀x∈l,H3 prog f (first++[Ax x]++cap) (Ab (p x)))(hl:An l):Sp 273 [.sl 5 Ax l,.clo (.func f) first cap] (Aa (Bv p l)):=cT F273 ntmps273 λF hF=>by
 unfold An at hl;have az:∀x:Device,Cd [] (first++[Ax x]++cap)=true:=λx=>Dh hc rfl
 refine fW ?_;refine A9 l.length (λj=>En (λ_ x=>!(p x)) l j) (λj=>[(0,.sl 5 Ax l),(1,.clo (.func f) first cap),(7,Aa l.length),(8,Aa j)]) (λ_=>[]) [] (Bl _ _) ⟨⟨E,E,Bj _,hc,E,E,E,E,Y⟩,Y,E,E⟩ ?_;intro j hj hI;refine fU ?_;constructor<;>intro h
 ·have h:=zK h;have an:j<l.length:=by omega
  refine fU ?_;refine⟨E,by omega,by omega,?_⟩;refine fW ?_;refine D8 (hf l[j] (zI an)) E E E (by simp only[az];rfl) E E ?_;refine fU ?_;constructor<;>intro h2
  ·refine fU ?_;refine At E (.cons .tmp .nil) (zH Aa ?_) E;exact C7 an (λi hi br=>by simpa using hI i hi br) h2
  ·refine gG ?_;exact A8 [] hI an (Bi hI an (by simp[h2])) ⟨⟨E,E,Bj _,hc,E,E,E,E,Y⟩,Y,E,E⟩
 ·have h:=zQ h;refine fU ?_;refine At E (.cons .tmp .nil) (zH Aa ?_) E;exact D4 (λi hi=>by simpa using hI i hi q_)
def Alt{n:Net}(hb:Ac n=true){d:Int}(hd:DomIn n d):0≤(n.domains[d.toNat]'hd.2).dev∧(n.domains[d.toNat]'hd.2).dev.toNat<n.devices.length:=by
 simp only[Ac,zE]at hb;have:=Aqk hb.1.1.1.1.1.1.1.2 hd.2;have:=Cc this;omega
def Amf{n:Net}(hb:Ac n=true){d:Int}(hd:DomIn n d):Cy n d=(n.devices[(n.domains[d.toNat]'hd.2).dev.toNat]'(Alt hb hd).2).vtep:=by
 rw[Cy,Ai hd.2,Ai (Alt hb hd).2]
def Ame{n:Net}(hm:n.Num)(hb:Ac n=true){d:Int}(hd:DomIn n d):0≤Cy n d∧Cy n d<4294967296:=by
 rw[Amf hb hd];exact hm.vtep _ (zI _)
def X1(n:Net)(hb:Ac n=true)(d:Int)(hd:DomIn n d):Sp 303 [Am n,Aa d] (Bb (Cy n d)):=cT F303 ntmps303 λF hF=>by
 have hv:=Amf hb hd;have h2:=Alt hb hd;obtain ⟨x,hx⟩:∃x,n.domains[d.toNat]'hd.2=x:=⟨_,rfl⟩
 rw[hx]at h2;simp only[hx]at hv;obtain ⟨y,hy⟩:∃y,n.devices[x.dev.toNat]'h2.2=y:=⟨_,rfl⟩
 rw[hy]at hv;rw[hv]
 conv=>whnf
 refine⟨E,hd.1,hd.2,?_⟩;rw[hx]
 conv=>whnf
 refine⟨E,h2.1,h2.2,?_⟩;rw[hy]
 conv=>whnf
 refine kW ?_;exact dN
def As5(n:Net)(hn:n.Fin)(a8:n.Num)(dom peer:Int)(f:FrameM)(h:FrameOK f):Sp 226 [Am n,Aa dom,Aa peer,Cu f] (.tup [.sl 1 Al (meshT n dom peer f).1,Aa (meshT n dom peer f).2]):=cT F226 ntmps226 λF hF=>by
 have aa:=meshT.eq_1 n dom peer f;generalize meshT n dom peer f=res at *;have hr:=A1 n hn;have hpS:=Oq peer n.domains.length;have hdS:=Oq dom n.domains.length
 conv=>whnf
 refine Bf 4 8 (Am n) E E E ?_;refine Bf 7 4 (Cu f) E E E ?_;refine oO ?_;refine c0 hpS F299 ?_;cases bh:Ah peer n.domains.length
 ·rw[zG (.inl bh)]at aa;subst aa
  (refine oT ?_;refine bT ?_;refine bT ?_)
  refine Au 8 1 Al E ?_;exact dN
 refine oF ?_;refine c0 hdS F299 ?_;cases ga:Ah dom n.domains.length
 ·rw[zG (.inr (.inl ga))]at aa;subst aa
  (refine oT ?_;refine bT ?_)
  refine Au 8 1 Al E ?_;exact dN
 refine oF ?_;refine c0 hr F22 ?_;cases hbn:Ac n
 ·rw[zG (.inr (.inr hbn))]at aa;subst aa;refine oT ?_;refine Au 8 1 Al E ?_;exact dN
 rw[zD (by simp[hbn,bh,ga])]at aa;have hd:=K2 ga;have hp:=K2 bh;have p5:=hd.1;have ck:=hd.2;have e2:nth n.domains dom=n.domains[dom.toNat]:=Ai ck;have gp:=hn.peers _ (zI ck);have va:=Ame a8 hbn hd;have vb:=Ame a8 hbn hp;have qa:=X1 n hbn dom hd;have qb:=X1 n hbn peer hp;generalize Cy n dom=a at *;generalize Cy n peer=c at *;obtain ⟨a,rfl⟩:=xB va.1;obtain ⟨c,rfl⟩:=xB vb.1;rw[zU,zU]at aa;obtain ⟨d,d7⟩:∃d,n.domains[dom.toNat]'ck=d:=⟨_,rfl⟩
 rw[d7]at e2 gp;rw[e2]at aa;have qc:=D7 d.peers peer gp;have qw:=A4s a c d.vni f q_ q_ h;refine oF ?_;refine⟨E,p5,ck,?_⟩;rw[d7]
 conv=>whnf
 refine c0 qc F38 ?_;cases hi:inB d.peers peer
 ·rw[zG hi]at aa;subst aa;refine oT ?_;refine Au 8 1 Al E ?_;exact dN
 rw[zD (by rw[hi];decide)]at aa;subst aa;refine oF ?_;refine cD qa F303 ?_;refine oD ?_;refine cD qb F303 ?_;refine oD ?_;refine⟨E,p5,ck,?_⟩;rw[d7]
 conv=>whnf
 refine cD qw F302 ?_;refine gH ?_;exact dN
def endsC1(dst:Int)(d:Device):Sp 362 [Ax d,.ref 1 (Bb dst) 0] (Ab (decide (d.vtep=dst))):=cT F362 ntmps362 λF hF=>by
 conv=>whnf
 refine At E (.cons .tmp .nil) (zH Ab ?_) E;rw[wN];simp
def endsC2(dev vni:Int)(d:Domain):Sp 363 [As d,.ref 1 (Aa dev) 0,.ref 1 (Aa vni) 0] (Ab (decide (d.dev=dev)&&decide (d.vni=vni))):=cT F363 ntmps363 λF hF=>by
 conv=>whnf
 constructor<;>intro h
 ·have h1:d.dev=dev:=by simpa using h
  refine oO ?_;refine At E (.cons .tmp .nil) (zH Ab ?_) E;rw[zO h1,yF,wN];simp
 ·have h1:¬d.dev=dev:=by simpa using h
  refine oO ?_;refine At E (.cons .tmp .nil) (zH Ab ?_) E;rw[zL h1,yE]
def endsC3(n:Net)(hb:Ac n=true)(src:Int)(k:Int)(hk:DomIn n k):Sp 365 [Aa k,.ref 8 (Am n) 0,.ref 1 (Bb src) 0] (Ab (decide (Cy n k=src))):=cT F365 ntmps365 λF hF=>by
 have q:=X1 n hb k hk
 conv=>whnf
 refine cD q F303 ?_;refine gH ?_;refine At E (.cons .tmp .nil) (zH Ab ?_) E;rw[wN];simp
def endsS(n:Net)(hn:n.Fin)(hb:Ac n=true)(src dst:Nat)(vni:Int):Sp 307 [Am n,Bb src,Bb dst,Aa vni] (.tup [Aa (endsT n src dst vni).1,Aa (endsT n src dst vni).2]):=cT F307 ntmps307 λF hF=>by
 have aa:=endsT.eq_1 n src dst vni;dsimp only at aa;generalize endsT n src dst vni=res at *;have q1:=X5 n.devices (λd=>decide (d.vtep=(dst:Int))) 362 [] [.ref 1 (Bb dst) 0] rfl (λd _=>⟨⟨_,_,F362⟩,endsC1 dst d⟩) hn.devices;generalize Bv (λd:Device=>decide (d.vtep=(dst:Int))) n.devices=dev at *;have q2:=Ev n.domains (λd=>decide (d.dev=dev)&&decide (d.vni=vni)) 363 [] [.ref 1 (Aa dev) 0,.ref 1 (Aa vni) 0] rfl (λd _=>⟨⟨_,_,F363⟩,endsC2 dev vni d⟩) hn.domains;have ab:=Iy (λd:Domain=>decide (d.dev=dev)&&decide (d.vni=vni)) n.domains;generalize Bv (λd:Domain=>decide (d.dev=dev)&&decide (d.vni=vni)) n.domains=dom at *;refine fW ?_;refine Bf 4 8 (Am n) E E E ?_;refine Bf 5 1 (Bb src) E E E ?_;refine Bf 6 1 (Bb dst) E E E ?_;refine Bf 7 1 (Aa vni) E E E ?_;refine fU ?_;refine c0 q1 F273 ?_;refine fU ?_;refine Bf 10 1 (Aa dev) E E E ?_;refine fU ?_;refine c0 q2 F164 ?_;refine fU ?_;constructor<;>intro h
 ·rw[zG (.inl (zK h))]at aa;subst aa;exact gC
 have h1:=zQ h;clear h;refine fU ?_;constructor<;>intro h
 ·rw[zG (.inr (zK h))]at aa;subst aa;exact gC
 have h2:=zQ h;clear h;rw[zD (λh=>h.elim h1 h2)]at aa;have p5:0≤dom:=by omega
 have ck:dom.toNat<n.domains.length:=by omega
 have e2:nth n.domains dom=n.domains[dom.toNat]:=Ai ck;have gp:=hn.peers _ (zI ck);have sq:∀k∈(n.domains[dom.toNat]'ck).peers,DomIn n k:=λk hk=>Anu hb ck hk
 obtain ⟨d,d7⟩:∃d,n.domains[dom.toNat]'ck=d:=⟨_,rfl⟩
 rw[d7]at e2 gp sq;rw[e2]at aa;have q3:=M4 d.peers (λk=>decide (Cy n k=(src:Int))) 365 [] [.ref 8 (Am n) 0,.ref 1 (Bb src) 0] rfl (λk hk=>⟨⟨_,_,F365⟩,endsC3 n hb src k (sq k hk)⟩) gp;have cw:=Iy (λk:Int=>decide (Cy n k=(src:Int))) d.peers;generalize Bv (λk:Int=>decide (Cy n k=(src:Int))) d.peers=i at *;refine fU ?_;refine⟨E,p5,ck,?_⟩;rw[d7];refine fW ?_;refine c0 q3 F364 ?_;refine fU ?_;constructor<;>intro h
 ·rw[zG (zK h)]at aa;subst aa;exact gC
 have h3:=zQ h;clear h;rw[zD h3]at aa;have py:i.toNat<d.peers.length:=by omega
 rw[Ai py]at aa;subst aa;refine fU ?_;refine⟨E,by omega,py,?_⟩;refine fW ?_;exact dN
def As7(n:Net)(hn:n.Fin)(b:List UInt8)(hb:b.length<100000):Sp 230 [Am n,.sl 1 Al b] (.tup [Aa (comeT n b).1,Aa (comeT n b).2.1,Cu (comeT n b).2.2.1,Aa (comeT n b).2.2.2]):=cT F230 ntmps230 λF hF=>by
 have aa:=comeT.eq_1 n b;generalize comeT n b=res at *;have hr:=A1 n hn;refine fW ?_;refine Bf 2 8 (Am n) E E E ?_;refine fU ?_;refine c0 hr F22 ?_;cases hbn:Ac n
 ·rw[zG hbn]at aa;subst aa;refine fU ?_;refine Ak 6 zF E vL ?_;exact dN
 rw[zD (by rw[hbn];decide)]at aa;have q1:=Awc b hb;have huo:=Aed b;generalize Ch b=u at *;obtain ⟨src,dst,vni,f,e⟩:=u;dsimp only at aa q1 huo;have jr:=huo.2.2.2.src;refine fU ?_;refine c0 q1 F306 ?_;refine fU ?_;constructor<;>intro h
 ·rw[zG (by simpa using h)]at aa;subst aa;refine fU ?_;refine Ak 6 zF E vL ?_;exact dN
 rw[zD (by simpa using h)]at aa;clear h;have q2:=endsS n hn hbn src dst vni;generalize endsT n src dst vni=en at *;obtain ⟨fr,dom⟩:=en;dsimp only at aa q2;refine fU ?_;refine c0 q2 F307 ?_;refine fU ?_;constructor<;>intro h
 ·rw[zG (zK h)]at aa;subst aa;refine fU ?_;refine Ak 6 zF E vL ?_;exact dN
 rw[zD (zQ h)]at aa;clear h;have qg:=Mz f.src q_;refine fU ?_;refine c0 qg F172 ?_;cases hg:Ex f.src;rotate_left
 ·rw[zG hg]at aa;subst aa;refine fU ?_;refine Ak 6 zF E vL ?_;exact dN
 rw[zD (by rw[hg];decide)]at aa;subst aa;refine fU ?_;refine⟨z_,?_⟩;refine fW ?_;exact dN
def A58{n:Net}(hb:Ac n=true){d:Int}(hd:DomIn n d)(hi:0≤(n.domains[d.toNat]'hd.2).irb):∃h:(n.domains[d.toNat]'hd.2).irb.toNat<n.irbs.length,(n.irbs[(n.domains[d.toNat]'hd.2).irb.toNat]'h).domain=d:=by
 simp only[Ac,zE]at hb;have:=allB_iff.1 hb.1.1.1.1.1.1.1.2 _ hd.2;simp only[O1,zE,yM,yJ]at this;have h2:=this.1.2;rcases h2 with h2|⟨h2,h3⟩
 ·omega
 ·have h4:=Cc h2;have h5:(n.domains[d.toNat]'hd.2).irb.toNat<n.irbs.length:=by omega
  rw[Ai h5]at h3;have:=hd.1;exact⟨h5,by omega⟩
def Amg(n:Net)(hn:n.Fin)(a8:n.Num)(dom:Int)(m:Nat):Sp 221 [Am n,Aa dom,A2 m] (.tup [Aa (routerT n dom m).1,Ab (routerT n dom m).2]):=cT F221 ntmps221 λF hF=>by
 have aa:=routerT.eq_1 n dom m;generalize routerT n dom m=res at *;have hr:=A1 n hn
 conv=>whnf
 constructor<;>intro h
 ·have hp:Ah dom n.domains.length=false:=by
   cases hx:Ah dom n.domains.length
   ·rfl
   ·have:=Cc hx;have:=zK h;omega
  rw[zG (.inl hp)]at aa;subst aa
  (refine oT ?_;refine bT ?_)
  exact dN
 have h0:0≤dom:=qB h;clear h;refine oO ?_;constructor<;>intro h
 ·have hp:Ah dom n.domains.length=false:=by
   cases hx:Ah dom n.domains.length
   ·rfl
   ·have:=Cc hx;have:=zK h;omega
  rw[zG (.inl hp)]at aa;subst aa;refine oT ?_;exact dN
 have h1:dom<n.domains.length:=qB h;clear h;have bh:Ah dom n.domains.length=true:=Ol ⟨h0,h1⟩;refine oO ?_;refine c0 hr F22 ?_;cases hbn:Ac n
 ·rw[zG (.inr hbn)]at aa;subst aa;refine oT ?_;exact dN
 rw[zD (by simp[hbn,bh])]at aa;have hd:=K2 bh;have e2:nth n.domains dom=n.domains[dom.toNat]'hd.2:=Ai hd.2;have xe:=A58 hbn hd;obtain ⟨d,d7⟩:∃d,n.domains[dom.toNat]'hd.2=d:=⟨_,rfl⟩
 simp only[d7]at e2 xe;rw[e2]at aa;refine oF ?_;refine⟨E,hd.1,hd.2,?_⟩;rw[d7]
 conv=>whnf
 constructor<;>intro h
 ·rw[zG (.inl (zK h))]at aa;subst aa;refine oT ?_;exact dN
 have dp:0≤d.irb:=qB h;clear h;obtain ⟨rz,jo⟩:=xe dp;have ha:=a8.addr _ (zI rz);rw[Ai rz]at aa;obtain ⟨x,hx⟩:∃x,n.irbs[d.irb.toNat]'rz=x:=⟨_,rfl⟩
 rw[hx]at ha aa;obtain ⟨a,xo⟩:=xB ha.1;have qh:=Aja a q_;rw[←xo]at qh;refine oO ?_;refine⟨E,dp,rz,?_⟩;rw[hx]
 conv=>whnf
 refine c0 qh F210 ?_;refine oO ?_;constructor<;>intro h
 ·have ag:D5 x.addr≠m:=λe=>by
   rw[e]at h;simp at h
  rw[zG (.inr ag)]at aa;subst aa;exact gE
 ·have heq:D5 x.addr=m:=by
   have:(D5 x.addr:Int)=(m:Int):=by simpa using h
   omega
  rw[zD (λh=>h.elim q_ (λh2=>h2 heq))]at aa;subst aa;exact gE
def Ahg{n:Net}{i:Int}(h:Ah i n.irbs.length=true):InIrbs n i:=by
 have:=Cc h;exact⟨this.1,by omega⟩
def Avp{p:PacketM}(h:PacketOK p):PacketOK (Apf p):=⟨h.tos,h.id,by have:=h.ttl;show p.ttl-1≤255;omega,h.proto,h.src,h.dst⟩
def Atd(p:PacketM):ipPutT (Apf p)=if 1480<p.body.length then ([],14) else (Jj (Apf p),0):=rfl
def Aw9(n:Net)(hn:n.Fin)(a8:n.Num)(irb:Int)(f:FrameM)(hf:FrameOK f):Sp 222 [Am n,Aa irb,Cu f] (.tup [Aa (hopT n irb f).1,Cu (hopT n irb f).2.1,Aa (hopT n irb f).2.2]):=cT F222 ntmps222 λF hF=>by
 have aa:=hopT.eq_1 n irb f;generalize hopT n irb f=res at *;have hr:=A1 n hn;have hb:=hf.body
 conv=>whnf
 constructor<;>intro h
 ·have hp:Ah irb n.irbs.length=false:=by
   cases hx:Ah irb n.irbs.length
   ·rfl
   ·have:=Cc hx;have:=zK h;omega
  rw[zG (.inl hp)]at aa;subst aa
  (refine oT ?_;refine bT ?_)
  refine Ak 7 zF E vL ?_;exact dN
 have h0:0≤irb:=qB h;clear h;refine oO ?_;constructor<;>intro h
 ·have hp:Ah irb n.irbs.length=false:=by
   cases hx:Ah irb n.irbs.length
   ·rfl
   ·have:=Cc hx;have:=zK h;omega
  rw[zG (.inl hp)]at aa;subst aa;refine oT ?_;refine Ak 7 zF E vL ?_;exact dN
 have h1:irb<n.irbs.length:=qB h;clear h;have bh:Ah irb n.irbs.length=true:=Ol ⟨h0,h1⟩;refine oO ?_;refine c0 hr F22 ?_;cases hbn:Ac n
 ·rw[zG (.inr hbn)]at aa;subst aa;refine oT ?_;refine Ak 7 zF E vL ?_;exact dN
 rw[zD (by simp[hbn,bh])]at aa;refine Bf 3 8 (Am n) E E E ?_;refine Bf 5 4 (Cu f) E E E ?_;refine oF ?_;constructor<;>intro h
 ·rw[zG (by have:¬(f.typ:Int)=2048:=(by simpa using h);omega)]at aa;subst aa;refine oO ?_;refine Ak 7 zF E vL ?_;exact dN
 rw[zD (by have:(f.typ:Int)=2048:=(by simpa using h);omega)]at aa;clear h;have q1:=Avl f.body q_;have ar:=@X4 f.body;generalize ipTakeT f.body=tk at *;obtain ⟨p,e⟩:=tk;dsimp only at aa q1 ar;refine oO ?_;refine c0 q1 F295 ?_;refine oO ?_;by_cases he:e=0;rotate_left
 ·rw[zG he]at aa;subst aa;refine⟨λh=>zY (show e=0 by simpa using h) he,λ_=>?_⟩;refine oO ?_;refine⟨λ_=>?_,λh=>zY (show e=0 by simpa using h) he⟩;refine oO ?_;refine Ak 7 zF E vL ?_;exact dN
 subst he;rw[zD y_]at aa;obtain ⟨ur,hpb⟩:=ar rfl;have tq:=ur.ttl;have sf:=ur.dst;have q2:=ipHopS p q_ tq
 (refine⟨λ_=>?_,λh=>False.elim (zY h j_)⟩;refine rg ?_;conv=>whnf)
 by_cases ht:p.ttl≤1
 ·rw[zG ht]at aa;subst aa;rw[hop1,zG ht]at q2;refine c0 q2 F296 ?_;refine oT ?_;refine Ak 7 zF E vL ?_;exact dN
 rw[zD ht]at aa;rw[hop1,zD ht]at q2;refine c0 q2 F296 ?_;have q3:=Avh n hn hbn irb p.dst (Ahg bh);have kv:=λh=>@Uy n irb p.dst h
 generalize lookT n irb p.dst=lk at *;obtain ⟨to,ok⟩:=lk;dsimp only at aa q3 kv;refine oF ?_;refine c0 q3 F297 ?_;cases ok
 ·rw[zG rfl]at aa;subst aa;refine oT ?_;refine Ak 7 zF E vL ?_;exact dN
 rw[zD j_]at aa;have eh:=kv rfl;have j0:=Atd p;have q4:=Avm (Apf p) (Avp ur) (by show p.body.length<100000;omega);rw[j0]at q4;clear j0;by_cases hl:1480<p.body.length
 ·rw[zG hl]at aa q4;subst aa;refine oF ?_;refine c0 q4 F211 ?_;refine oT ?_;refine Ak 7 zF E vL ?_;exact dN
 rw[zD hl]at aa q4;have ha:=a8.addr _ (zI eh.2);rw[Ai eh.2]at aa;obtain ⟨x,hx⟩:∃x,n.irbs[to.toNat]'eh.2=x:=⟨_,rfl⟩
 rw[hx]at ha aa;obtain ⟨a,xo⟩:=xB ha.1;have qh:=Aja a q_;rw[←xo]at qh;have qd:=Aja p.dst sf;subst aa;refine oF ?_;refine c0 q4 F211 ?_;refine oF ?_;refine⟨E,eh.1,eh.2,?_⟩;rw[hx]
 conv=>whnf
 refine cD qd F210 ?_;refine oD ?_;refine⟨E,eh.1,eh.2,?_⟩;rw[hx]
 conv=>whnf
 refine cD qh F210 ?_;refine gH ?_;exact dN
def Atv(f:FrameM)(hb:f.body.length<100000):Sp 308 [Cu f] (Cu f):=cT F308 ntmps308 λF hF=>by
 conv=>whnf
 refine Af (Ce Γ.toTy (d:=7) (n:=f.body.length) Al 0 E E E E E E E E q_ q_ E E E) E E ?_;refine oO ?_;refine Af (Aba Γ.toTy (l:=List.replicate f.body.length 0) (m:=f.body) E E E E E .sl) E E ?_;refine oO ?_;refine Aj 7 E ?_;refine oO ?_;refine At E (.cons (.cell E E E E) .nil) ?_ E;show SV.agg [_,_,_,.sl 1 Al f.body]=SV.agg [_,_,_,.sl 1 Al (f.body.take (List.replicate f.body.length (0:UInt8)).length++(List.replicate f.body.length (0:UInt8)).drop f.body.length)];have e:f.body.take (List.replicate f.body.length (0:UInt8)).length++(List.replicate f.body.length (0:UInt8)).drop f.body.length=f.body:=by
  rw[uU,yN,uQ y_,xC]
 rw[e];rfl
def Aly(q:QueuedM)(hb:q.frame.body.length<100000):Sp 232 [Cb q] (Cb q):=cT F232 ntmps232 λF hF=>by
 have qc:=Atv q.frame hb
 conv=>whnf
 refine c0 qc F308 ?_;exact gE
def Vt(l:List QueuedM):Prop:=∀q∈l,q.frame.body.length<100000
def A6g(l:List QueuedM)(hl:l.length<1000000)(hb:Vt l):Sq 231 [.sl 7 Cb l] [] (.osl 0) [(0,.row 7 Cb l)]:=cT F231 ntmps231 λF hF=>by
 conv=>whnf
 refine B7 3 1000 7 Cb E E ?_;refine A5 l.length (λj=>[(3,.osl 1000),(6,.sl 7 Cb l),(7,Aa l.length),(8,Aa j)]) (λj=>[(1000,.row 7 Cb (l.take j))]) [] kU ?_;intro j hj;refine oO ?_;constructor<;>intro h
 ·have ab:j<l.length:=qA h;have ai:(j:Int).toNat<l.length:=by simpa using ab
  obtain ⟨q,hq⟩:∃q,l[j]=q:=⟨_,rfl⟩
  have e1:l[(j:Int).toNat]'ai=q:=hq;have hs:l.take (j+1)=l.take j++[q]:=by rw[yD ab,hq]
  have nj:=hb q (by rw[←hq];exact zI ab);have jy:(l.take j).length=j:=by rw[yA];omega
  clear h;refine oO ?_;refine⟨E,by omega,ai,?_⟩;rw[e1]
  conv=>whnf
  refine c0 (Aly q nj) F232 ?_;refine oO ?_;refine Af (Ag Γ.toTy 16 E E E E E (.row E) (.lit (e:=Cb) (l:=[q]) E E) y_ (by rw[jy];simp;omega) (by rw[jy];simp;omega)) E E ?_;refine gF ?_;exact Ay [(1000,16)] ab ⟨⟨E,E,E,E,E,E,E,E,Y⟩,⟨.inl (zH (Ob.row 7 Cb) hs),E,Y⟩,E,E⟩
 ·have gg:j=l.length:=qB h;subst gg;rw[yN];refine oO ?_;exact done E (.cons .tmp .nil) [(0,1000)] [(0,.row 7 Cb l)] (λ_ h=>h) E E kU
def Anl(l:List QueuedM)(q:QueuedM)(hl:l.length<1000000)(hb:Vt l)(nj:q.frame.body.length<100000):Sp 217 [.sl 7 Cb l,Cb q] (.tup [.sl 7 Cb (pushT l q).1,Ab (pushT l q).2]):=cT F217 ntmps217 λF hF=>by
 have aa:=pushT.eq_1 l q;generalize pushT l q=res at *
 conv=>whnf
 refine Af (Ad [(0,55)] E F231 (A6g l hl hb) E Y E ⟨.inr E,Y⟩) E E ?_;refine oO ?_;constructor<;>intro h
 ·rw[zG (qA h)]at aa;subst aa;refine oO ?_;refine Aj 55 E ?_;exact dN
 ·rw[zD (qB h)]at aa;subst aa;refine oO ?_;refine c0 (Aly q nj) F232 ?_;refine oO ?_;refine Af (Ag Γ.toTy 17 E E E E E (.row E) (.lit (e:=Cb) (l:=[q]) E E) j_ (by simp;omega) (by simp;omega)) E E ?_;refine Aj 17 E ?_;exact gE
def Ar7(l:List QueuedM)(at_:Int)(hl:l.length<1000000)(hb:Vt l):Sp 156 [.sl 7 Cb l,Aa at_] (.tup [Cb (takeT l at_).1,.sl 7 Cb (takeT l at_).2.1,Ab (takeT l at_).2.2]):=cT F156 ntmps156 λF hF=>by
 have aa:=takeT.eq_1 l at_;generalize takeT l at_=res at *
 conv=>whnf
 constructor<;>intro h
 ·rw[zG (.inl (zK h))]at aa;subst aa;refine oT ?_;refine Af (Ad [(0,55)] E F231 (A6g l hl hb) E Y E ⟨.inr E,Y⟩) E E ?_;refine Aj 55 E ?_;refine oO ?_;refine Ak 4 [Aa 0,Aa 0,Aa 0,A2 0,A2 0,Aa 0,.sl 1 Al []] E vL ?_;exact dN
 have h0:0≤at_:=qB h;clear h;refine oO ?_;constructor<;>intro h
 ·rw[zG (.inr (zK h))]at aa;subst aa;refine oO ?_;refine Af (Ad [(0,55)] E F231 (A6g l hl hb) E Y E ⟨.inr E,Y⟩) E E ?_;refine Aj 55 E ?_;refine oO ?_;refine Ak 4 [Aa 0,Aa 0,Aa 0,A2 0,A2 0,Aa 0,.sl 1 Al []] E vL ?_;exact dN
 have h1:at_<l.length:=qB h;clear h;have hk:at_.toNat<l.length:=by omega
 have ag:l≠[]:=λe=>by rw[e]at hk;simp at hk
 have m9:((at_.toNat:Nat):Int)=at_:=by omega
 rw[zD q_,zT hk,Option.getD_some]at aa;obtain ⟨q,hq⟩:∃q,l[at_.toNat]'hk=q:=⟨_,rfl⟩
 rw[hq]at aa;have nj:=hb q (by rw[←hq];exact zI hk);refine G_dat 0 90 E ag ?_;intro B off cap jj;refine run Γ hm 3 ?_
 conv=>whnf
 refine Bw (Acm 90 (.inl E) E E) z_ E ?_;refine oD ?_;refine⟨E,h0,hk,?_⟩;rw[hq]
 conv=>whnf
 refine cD (Aly q nj) F232 ?_;refine oD ?_;refine Bw (Aht (hi:=at_.toNat) Γ.toTy E E E E (zH (λz=>SV.val (.int .i64 z)) m9.symm) (zH (λz=>SV.val (.int .i64 z)) m9.symm) q_) z_ E ?_;refine Bw (Acm 90 (.inl E) E E) z_ E ?_;refine oD ?_;refine iW ?_;refine Bw (Dt (lo:=at_.toNat+1) (hi:=l.length) Γ.toTy E E E E (.inr ⟨_,_,E,zH (λz=>SV.val (.int .i64 z)) q_⟩) (.inl ⟨E,E⟩) q_ (yG _)) z_ E ?_;have jy:((l.take l.length).drop (at_.toNat+1)).length=l.length-(at_.toNat+1):=by rw[yO,yA];omega
 refine Bw (Ahy Γ.toTy 90 E E E E E E (Nat.le_of_lt hk) E (by rw[jy];omega) (by rw[jy];omega)) z_ E ?_;have he:l.take at_.toNat++(l.take l.length).drop (at_.toNat+1)=l.eraseIdx at_.toNat:=by rw[yN,List.eraseIdx_eq_take_drop_succ]
 have hel:(l.take at_.toNat++(l.take l.length).drop (at_.toNat+1)).length<1000000:=by rw[he,List.length_eraseIdx];split<;>omega
 have heb:Vt (l.take at_.toNat++(l.take l.length).drop (at_.toNat+1)):=by rw[he];exact λx hx=>hb x (uI hx)
 refine oD ?_;refine Bw (Ad [(0,55)] E F231 (A6g _ hel heb) E Y E ⟨.inr E,Y⟩) z_ E ?_;refine gH ?_;refine Aj 55 E ?_;refine At E (.cons (.cell E E E E) (.cons .tmp (.cons .tmp .nil))) ?_ E;subst aa;show SV.tup [_,.sl 7 Cb (l.eraseIdx at_.toNat),_]=SV.tup [_,.sl 7 Cb (l.take at_.toNat++(l.take l.length).drop (at_.toNat+1)),_];rw[he];rfl
def I0{α:Type}(q:α→Bool)(l:List α):Nat→Nat
 |0=>0
 |j+1=>match l[j]? with
  |some x=>if q x=true then I0 q l j+1 else I0 q l j
  |none=>I0 q l j
def dfC{α:Type}(q:α→Bool)(l:List α):Nat→List α
 |0=>l
 |j+1=>match l[j]? with
  |some x=>if q x=true then (dfC q l j).set (I0 q l j) x else dfC q l j
  |none=>dfC q l j
def Ad5{α:Type}(q:α→Bool)(l:List α)(j:Nat):I0 q l j≤j:=by
 induction j with
 |zero=>exact yG _
 |succ j ih=>
  simp only[I0];split
  ·split<;>omega
  ·omega
def Yg{α:Type}(q:α→Bool)(l:List α)(j:Nat):(dfC q l j).length=l.length:=by
 induction j with
 |zero=>rfl
 |succ j ih=>
  simp only[dfC];split
  ·split
   ·rw[yR];exact ih
   ·exact ih
  ·exact ih
def Av0{α:Type}(q:α→Bool)(l:List α)(j k:Nat)(h:j≤k):(dfC q l j)[k]? = l[k]?:=by
 induction j with
 |zero=>rfl
 |succ j ih=>
  simp only[dfC];split
  ·split
   ·rw[List.getElem?_set_ne (by have:=Ad5 q l j;omega)];exact ih q_
   ·exact ih q_
  ·exact ih q_
def Ap3{α:Type}(q:α→Bool)(l:List α)(j:Nat)(h:j≤l.length):(dfC q l j).take (I0 q l j)=(l.take j).filter q:=by
 induction j with
 |zero=>rfl
 |succ j ih=>
  have hj:j<l.length:=by omega
  have ih:=ih q_;have hc:=Ad5 q l j;simp only[dfC,I0,zT hj];rw[vJ,zT hj,List.filter_append];by_cases hq:q l[j]=true
  ·rw[zG hq,zG hq];have ab:I0 q l j<((dfC q l j).set (I0 q l j) l[j]).length:=by rw[yR,Yg];omega
   rw[vJ,zT ab,uV];rw[List.take_set_of_le (yG _),ih];simp[hq]
  ·rw[zD hq,zD hq,ih];simp[hq]
def Ajq{α:Type}(q:α→Bool)(l:List α)(i:Nat)(hi:i≤l.length)(h:∀k (hk:k<l.length),k<i→q l[k]=true):dfC q l i=l∧I0 q l i=i:=by
 induction i with
 |zero=>exact⟨rfl,rfl⟩
 |succ i ih=>
  obtain ⟨h1,h2⟩:=ih q_ (λk hk py=>h k hk q_);have gq:i<l.length:=by omega
  simp only[dfC,I0,zT gq];rw[zG (h i gq q_),zG (h i gq q_),h1,h2];exact⟨wS gq,E⟩
def X6{α:Type}(p:α→Bool)(l:List α):(Bv p l=-1∧∀x∈l,p x=false)∨∃(i:Nat) (hi:i<l.length),Bv p l=i∧p l[i]=true∧∀k (hk:k<l.length),k<i→p l[k]=false:=by
 unfold Bv;cases h:l.findIdx? p with
 |none=>exact .inl ⟨rfl,by simpa using h⟩
 |some i=>
  rw[wF]at h;obtain ⟨hi,h1,h2⟩:=h;exact .inr ⟨i,hi,E,h1,λk hk py=>by simpa using h2 k py⟩
def Vj(l:List EntryM)(hl:l.length<2147483648):Sq 233 [.sl 3 A7 l] [] (.osl 0) [(0,.row 3 A7 l)]:=cT F233 ntmps233 λF hF=>by
 conv=>whnf
 refine D1 E (.inl E) E E E .sl E E ?_;intro b hb;cases b
 ·refine oF ?_;refine Af (Ag Γ.toTy 7 E E E E E (.lit (e:=A7) (l:=[]) E E) .sl y_ (by simp;omega) (by simp;omega)) E E ?_;refine oO ?_;exact done E (.cons .tmp .nil) [(0,7)] [(0,.row 3 A7 l)] (λ_ h=>h) E E kU
 ·have h0:l=[]:=zZ (hb rfl);subst h0;refine oT ?_;refine B7 2 1000 3 A7 E E ?_;exact done E (.cons .tmp .nil) [(0,1000)] [(0,.row 3 A7 [])] (λ_ h=>h) E E kU
def Qz(l:List EntryM)(p:EntryM→Bool)(f:FuncId)(first cap:List SV)(hc:(SV.clo (.func f) first cap).inn []=true)(hf:∀x∈l,H3 prog f (first++[A7 x]++cap) (Ab (p x)))(hl:An l):Sp 309 [.sl 3 A7 l,.clo (.func f) first cap] (Aa (Bv p l)):=cT F309 ntmps309 λF hF=>by
 unfold An at hl;have az:∀x:EntryM,Cd [] (first++[A7 x]++cap)=true:=λx=>Dh hc rfl
 conv=>whnf
 refine A9 l.length (λj=>En (λ_ x=>!(p x)) l j) (λj=>[(0,.sl 3 A7 l),(1,.clo (.func f) first cap),(7,Aa l.length),(8,Aa j)]) (λ_=>[]) [] (Bl _ _) ⟨⟨E,E,Bj _,hc,E,E,E,E,Y⟩,Y,E,E⟩ ?_;intro j hj hI;refine oO ?_;constructor<;>intro h
 ·have h:=zK h;have an:j<l.length:=by omega
  refine oO ?_;refine⟨E,by omega,by omega,?_⟩
  conv=>whnf
  refine D8 (hf l[j] (zI an)) E E E (by simp only[az];rfl) E E ?_;refine oO ?_;constructor<;>intro h2
  ·refine oO ?_;refine At E (.cons .tmp .nil) (zH Aa ?_) E;exact C7 an (λi hi br=>by simpa using hI i hi br) h2
  ·refine gF ?_;exact A8 [] hI an (Bi hI an (by simp[h2])) ⟨⟨E,E,Bj _,hc,E,E,E,E,Y⟩,Y,E,E⟩
 ·have h:=zQ h;refine oO ?_;refine At E (.cons .tmp .nil) (zH Aa ?_) E;exact D4 (λi hi=>by simpa using hI i hi q_)
def Z4(l:List EntryM)(p:EntryM→Bool)(f:FuncId)(first cap:List SV)(hc:(SV.clo (.func f) first cap).inn []=true)(d6:(SV.clo (.func f) first cap).inn [0]=true)(hf:∀x∈l,H3 prog f (first++[A7 x]++cap) (Ab (p x)))(hl:An l):Sq 235 [.osl 0,.clo (.func f) first cap] [(0,.row 3 A7 l)] (.osl 1) [(0,.non),(1,.row 3 A7 (l.filter λx=>!(p x)))]:=cT F235 ntmps235 λF hF=>by
 have qi:=Qz l p f first cap hc hf hl
 unfold An at hl;have az:∀x:EntryM,Cd [] (first++[A7 x]++cap)=true:=λx=>Dh hc rfl
 conv=>whnf
 refine Aqe [0] qi F309 E (.cons (.row E E) (.cons (.refl _) .nil)) (by simp only[Cd,hc,uG];rfl) E E ?_;rcases X6 p l with ⟨h1,h2⟩|⟨i,hi,h1,h2,h3⟩
 ·rw[h1];have e1:(l.filter λx=>!(p x))=l:=List.filter_eq_self.2 (λx hx=>by simp[h2 x hx]);rw[e1];refine oT ?_;refine Aup 0 1000 [0,4] E E j_ (by simp;exact⟨E,E⟩) ?_;exact done E (.cons .tmp .nil) [(0,0),(1,1000)] _ (λ_ h=>h) E E kU
 obtain ⟨f1,f2⟩:=Ajq (λx=>!(p x)) l i q_ (λk hk py=>by simp[h3 k hk py]);have g1:dfC (λx=>!(p x)) l (i+1+0)=l:=by
  show dfC (λx=>!(p x)) l (i+1)=l;simp only[dfC,zT hi];rw[zD (by simp[h2]),f1]
 have g2:I0 (λx=>!(p x)) l (i+1+0)=i:=by
  show I0 (λx=>!(p x)) l (i+1)=i;simp only[I0,zT hi];rw[zD (by simp[h2]),f2]
 rw[h1];refine oF ?_;refine iW ?_;refine A5 (l.length-(i+1)) (λj=>[(0,.osl 0),(1,.clo (.func f) first cap),(5,Aa (I0 (λx=>!(p x)) l (i+1+j))),(6,Aa ((i+1+j:Nat)))]) (λj=>[(0,.row 3 A7 (dfC (λx=>!(p x)) l (i+1+j)))]) []
  ⟨⟨rfl,rfl,Bj _,d6,zH Aa (zH Int.ofNat g2),rfl,zH (λz=>SV.val (.int .i64 z)) q_,rfl,trivial⟩,⟨.inl (zH (Ob.row 3 A7) g1),rfl,trivial⟩,rfl,rfl⟩ ?_
 intro j hj;have j5:=Ad5 (λx=>!(p x)) l (i+1+j);have ga:=Yg (λx=>!(p x)) l (i+1+j);have bf:=Av0 (λx=>!(p x)) l (i+1+j) (i+1+j) (yG _);have s1:∀h:i+1+j<l.length,I0 (λx=>!(p x)) l (i+1+(j+1))=if (!(p l[i+1+j]))=true then I0 (λx=>!(p x)) l (i+1+j)+1 else I0 (λx=>!(p x)) l (i+1+j):=λab=>by
  show I0 (λx=>!(p x)) l (i+1+j+1)=_;simp only[I0,zT ab]
 have s2:∀h:i+1+j<l.length,dfC (λx=>!(p x)) l (i+1+(j+1))=if (!(p l[i+1+j]))=true then (dfC (λx=>!(p x)) l (i+1+j)).set (I0 (λx=>!(p x)) l (i+1+j)) l[i+1+j] else dfC (λx=>!(p x)) l (i+1+j):=λab=>by
  show dfC (λx=>!(p x)) l (i+1+j+1)=_;simp only[dfC,zT ab]
 have gh:=λh=>Ap3 (λx=>!(p x)) l (i+1+j) h
 obtain ⟨D,hD⟩:∃D,dfC (λx=>!(p x)) l (i+1+j)=D:=⟨_,rfl⟩
 obtain ⟨K,hK⟩:∃K,I0 (λx=>!(p x)) l (i+1+j)=K:=⟨_,rfl⟩
 rw[hD]at ga bf s2 gh⊢;rw[hK]at j5 s1 s2 gh⊢;refine oO ?_;constructor<;>intro h
 ·have ab:i+1+j<l.length:=qA h;have oc:=hf l[i+1+j] (zI ab);have s1:=s1 ab;have s2:=s2 ab;rw[zT ab,zT q_]at bf;have bf:=Option.some.inj bf;obtain ⟨x,hx⟩:∃x,l[i+1+j]=x:=⟨_,rfl⟩
  rw[hx]at oc s1 s2 bf;refine oO ?_;refine⟨by omega,by simp;omega,?_⟩
  conv=>whnf
  refine⟨E,by omega,?_⟩;rw[show D[((i+1+j:Nat):Int).toNat]'q_=x from bf]
  conv=>whnf
  refine D8 oc E E E (by simp only[az];rfl) E E ?_;cases yd:p x
  ·rw[yd]at s1 s2;refine oT ?_;refine⟨by omega,by simp;omega,?_⟩
   conv=>whnf
   refine⟨E,by omega,x,E,E,?_⟩
   conv=>whnf
   refine iW ?_;refine iW ?_;exact Ay [] q_ ⟨⟨E,E,Bj _,d6,zH Aa (zH Int.ofNat s1),E,zH (λz=>SV.val (.int .i64 z)) q_,E,Y⟩,⟨.inl (zH (Ob.row 3 A7) s2),E,Y⟩,E,E⟩
  ·rw[yd]at s1 s2;refine oF ?_;refine iW ?_;exact Ay [] q_ ⟨⟨E,E,Bj _,d6,zH Aa (zH Int.ofNat s1),E,zH (λz=>SV.val (.int .i64 z)) q_,E,Y⟩,⟨.inl (zH (Ob.row 3 A7) s2),E,Y⟩,E,E⟩
 ·have m6:i+1+j=l.length:=qB h;have ag:D≠[]:=λh=>by rw[h]at ga;simp at ga;omega
  have gh:=gh q_;rw[show l.take (i+1+j)=l from xK q_]at gh;refine Av9 0 [0] E ag (by simp;rfl) ?_;intro b dx jj;refine oO ?_;refine Af (Ed Γ.toTy E E E E (.inr ⟨_,_,E,E⟩) (.inl ⟨E,E⟩) q_ q_) E E ?_;refine oO ?_;refine Af (M6 Γ.toTy 0 (k:=K) E E E E j_ E E E q_ q_) E E ?_;refine oO ?_;refine Af (Ed Γ.toTy E E E E (.inl ⟨E,E⟩) (.inr ⟨_,_,E,E⟩) q_ q_) E E ?_;refine oO ?_;refine Ad8 0 1000 [4] K E E (by rw[yA];omega) (λi hi=>?_) ?_
  ·rw[yB]at hi;subst hi;show SV.val (.slice (some (if dx=0 then ⟨b,0,none⟩ else ⟨b,0*3,none⟩)) (K-0) (dx-0))=_;split<;>simp
  refine done E (.cons .tmp .nil) [(0,0),(1,1000)] _ (λ_ h=>h) E E ⟨Y,⟨.inl E,E,.inl ?_,E,Y⟩,E,E⟩;rw[←gh];exact zH (Ob.row 3 A7) (by rw[List.take_take,Nat.min_self])
def Ah2(l:List EntryM)(i:Nat)(hi:i<l.length)(_hl:An l):Sq 346 [.osl 0,Aa i,Aa ((i+1:Nat):Int)] [(0,.row 3 A7 l)] (.osl 1) [(0,.non),(1,.row 3 A7 (l.take i++l.drop (i+1)))]:=cT F346 ntmps346 λF hF=>by
 have ag:l≠[]:=λh=>by rw[h]at hi;simp at hi
 refine fW ?_;refine Av9 0 [0,8] E ag (by simp;exact⟨E,E⟩) ?_;intro b cap jj;refine fU ?_;refine Af (Ahs Γ.toTy E E E E E E E q_ q_ jj) E E ?_;refine fU ?_;refine⟨λh=>zY h (by simp;omega),λ_=>?_⟩;refine fU ?_;refine Bw (Ed Γ.toTy E E E E (.inl ⟨E,E⟩) (.inr ⟨_,_,E,E⟩) q_ q_) z_ E ?_;refine fU ?_;refine Bw (Ed (hi:=l.length) Γ.toTy E E E E (.inr ⟨_,_,E,E⟩) (.inl ⟨E,E⟩) q_ q_) z_ E ?_;refine fU ?_;have hif:(if cap=0 then (⟨b,0,none⟩:Addr) else ⟨b,0*3,none⟩)=⟨b,0,none⟩:=by split<;>simp
 refine Bw (Ado Γ.toTy 0 (n:=l.length) (i:=i) (j:=i+1) E E E (zH (λz=>SV.val (.slice (some z) i cap)) hif) E E E E q_ q_) z_ E ?_;refine fU ?_;refine⟨z_,?_⟩;refine fW ?_;refine Af (Ed (lo:=i+(l.length-(i+1))) (hi:=l.length) Γ.toTy E E E E (.inr ⟨_,_,E,E⟩) (.inr ⟨_,_,E,E⟩) q_ q_) E E ?_;refine fU ?_;have jy:(l.take i++l.drop (i+1)).length=i+(l.length-(i+1)):=by rw[zW,yA,yO];omega
 refine Af (M6 Γ.toTy 0 (k:=i+(l.length-(i+1))) E E E E j_ E E E q_ q_) E E ?_;refine fU ?_;refine Ad8 0 1000 [6] (i+(l.length-(i+1))) E E (by rw[yA];omega) (by simp;rfl) ?_;refine done E (.cons .tmp .nil) [(0,0),(1,1000)] _ (λ_ h=>h) E E ⟨Y,⟨.inl E,E,.inl ?_,E,Y⟩,E,E⟩;exact zH (Ob.row 3 A7) (by rw[List.take_take,Nat.min_self];exact(xK q_).symm)
def Abv(m:Nat)(h:m<18446744073709551616):Sp 292 [A2 m] (Ab (Ll m)):=cT F292 ntmps292 λF hF=>by
 have q:=Mz m h;refine fW ?_;constructor<;>intro h1
 ·have h2:m≤281474976710655:=by simp at h1;omega
  refine fU ?_;refine c0 q F172 ?_;refine fU ?_;exact At E (.cons .tmp .nil) (zH Ab (by rw[Ll,zO h2,yF])) E
 ·have h2:¬m≤281474976710655:=by simp at h1;omega
  refine fU ?_;exact At E (.cons .tmp .nil) (zH Ab (by rw[Ll,zL h2,yE])) E
def Xq(i:Int):Sp 234 [Aa i] (Ab (J6 i)):=cT F234 ntmps234 λF hF=>by
 conv=>whnf
 (repeat' (first|(refine⟨λh=>?_,λh=>?_⟩<;>(repeat (first|simp only[zJ]at h|simp only[zX]at h))<;>((refine oO ?_)))|(refine At rfl (.cons .tmp .nil) ?_ rfl)))
 all_goals (refine zH Ab ?_)
 all_goals grind [J6]
def Awo(m:Nat)(e:EntryM):Sp 344 [A7 e,.ref 1 (A2 m) 0] (Ab (decide (e.mac=m))):=cT F344 ntmps344 λF hF=>by
 conv=>whnf
 refine At E (.cons .tmp .nil) ?_ E;refine zH Ab ?_;rw[wN];simp;omega
def Aar(t:List EntryM)(m:Nat)(hl:An t):Sp 293 [.sl 3 A7 t,A2 m] (Aa (It t m)):=cT F293 ntmps293 λF hF=>by
 have q:=Qz t (λe=>decide (e.mac=m)) 344 [] [.ref 1 (A2 m) 0] rfl (λx _=>⟨⟨_,_,F344⟩,Awo m x⟩) hl
 conv=>whnf
 refine Bf 3 1 (A2 m) E E E ?_;refine oO ?_;refine c0 q F309 ?_;exact gE
def A0e(t:List EntryM)(m:Nat)(hl:An t):Sp 356 [.sl 3 A7 t,A2 m] (.tup [Aa (findE t m).1,Ab (findE t m).2]):=cT F356 ntmps356 λF hF=>by
 have q:=Aar t m hl;have ab:It t m<t.length:=Iy _ _;have aa:=findE.eq_1 t m;generalize findE t m=res at *;generalize It t m=i at *
 conv=>whnf
 refine c0 q F293 ?_;refine oO ?_;constructor<;>intro h
 ·rw[zG (by simpa using h)]at aa;subst aa;exact gE
 ·have h0:¬i<0:=by simpa using h
  have hi:i.toNat<t.length:=by omega
  rw[zD h0,zT hi]at aa;subst aa;refine oO ?_;refine⟨E,by omega,by omega,?_⟩
  conv=>whnf
  exact dN
def Vx(t:List EntryM)(hl:An t)(ll:∀e∈t,e.mac<18446744073709551616):Sp 219 [.sl 3 A7 t] (Ab (tableB t)):=cT F219 ntmps219 λF hF=>by
 unfold An at hl;have aa:=tableB.eq_1 t;generalize tableB t=res at *
 conv=>whnf
 constructor<;>intro h
 ·have h8:¬t.length≤8:=by simp at h;omega
  rw[zL h8,yE]at aa;subst aa;exact gE
 have h8:t.length≤8:=by simp at h;omega
 rw[zO h8,yF]at aa;refine oO ?_;refine A9 t.length (λj=>En (Abe t) t j) (λj=>[(0,.sl 3 A7 t),(8,.sl 3 A7 t),(9,Aa t.length),(10,Aa j)]) (λ_=>[]) [] (Bl _ _) kU ?_;intro j hj hI;refine oO ?_;constructor<;>intro h
 ·have ab:j<t.length:=qA h;have q1:=Abv t[j].mac (ll _ (zI ab));have q2:=Xq t[j].seen;have q3:=Aar t t[j].mac hl;have sr:Abe t j t[j]=(Ll t[j].mac&&J6 t[j].seen&&decide (It t t[j].mac=j)):=rfl;have df:Abe t j t[j]=false→res=false:=λhf=>by rw[aa];exact C8 ab hf
  have ye:Abe t j t[j]=true→En (Abe t) t (j+1):=λht=>Bi hI ab ht
  refine oO ?_;refine⟨E,by omega,by omega,?_⟩;rw[show t[(j:Int).toNat]'q_=t[j] from rfl];generalize t[j]=x at *
  conv=>whnf
  refine c0 q1 F292 ?_;cases h1:Ll x.mac
  ·rw[df (by rw[sr,h1];rfl)]
   (refine oT ?_;refine bT ?_;refine bT ?_)
   exact dN
  refine oF ?_;refine c0 q2 F234 ?_;cases h2:J6 x.seen
  ·rw[df (by rw[sr,h1,h2];rfl)]
   (refine oT ?_;refine bT ?_)
   exact dN
  refine oF ?_;refine c0 q3 F293 ?_;refine oO ?_;constructor<;>intro h3
  ·rw[df (by rw[sr,h1,h2,zL (by simpa using h3)];rfl)];exact gE
  ·have h4:=ye (by rw[sr,h1,h2,zO (by simpa using h3)];rfl);refine gF ?_;exact A8 [] hI q_ h4 kU
 ·have m6:j=t.length:=qB h;subst m6;rw[aa.trans (E5 hI (yG _))];exact gE
end Go.Sy.YticmobkdaneelaaGreatDoor
