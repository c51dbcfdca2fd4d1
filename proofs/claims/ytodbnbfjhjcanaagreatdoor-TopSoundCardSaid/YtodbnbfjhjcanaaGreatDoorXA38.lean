/- Parts of a proof. -/
import Derived.Test.YtodbnbfjhjcanaaGreatDoorXA30
import Derived.Test.YtodbnbfjhjcanaaGreatDoorXA33
set_option maxHeartbeats 4000000
set_option linter.all false
namespace Go.Sy.Zaa
open Go.Proofs Go.Proofs.Tryz
section
attribute [local irreducible]G DR
set_option maxRecDepth 100000
def Ei(p:PacketM)(v e:Int):List SV:=[Aa p.tos,Aa p.id,Aa p.ttl,Aa p.proto,A9 p.src,A9 p.dst,.sl 1 Al p.body,Aa v,Aa e]
def Dt(is:Bool)(re e:Int):Int:=if is=true/\re=0 then e else re
def bA(p:PacketM)(v re:Int)(is:Bool)(e:Int):Sq 372 [.ptr 0 0,Ab is,Aa e] [(0,.box (Ei p v re))] (.tup []) [(0,.box (Ei p v (Dt is re e)))]:=cT F372 ntmps372 λF hF=>by
 cases is
 .have h:Dt false re e=re:=by simp[Dt]
  rw[h]
  ((conv=>whnf);refine aF ?_;refine rg ?_;(conv=>whnf);refine aF ?_;refine rg ?_;conv=>whnf)
  exact A2 E .nil [] [(0,.box (Ei p v re))] (λ_ h=>h) E E kU
 ·((conv=>whnf);refine aT ?_;refine rg ?_;conv=>whnf)
  constructor<;>intro h
  .have h2:Dt true re e=e:=by show (if true=true/\re=0 then e else re)=e;rw[zE ⟨rfl,kS h⟩]
   rw[h2];refine oO ?_;exact A2 E .nil [] [(0,.box (Ei p v e))] (λ_ h=>h) E E kU
  .have h2:Dt true re e=re:=by
    show (if true=true/\re=0 then e else re)=re;rw[zD (λ h3=>by
     have h4:¬ re=0:=kS h;exact h4 h3.2)]
   rw[h2];refine oO ?_;exact A2 E .nil [] [(0,.box (Ei p v re))] (λ_ h=>h) E E kU
def A1h(b:List UInt8)(hb:b.length<100000):Sq 325 [.ptr 0 0,.sl 1 Al b] [(0,.box (Ei noP 0 0))] (.tup []) [(0,.box (Ei (outerT b).1 0 (outerT b).2))]:=cT F325 ntmps325 λF hF=>by
 have aa:=outerT.eq_1 b;generalize outerT b=res at *;have q1:=T5 b hb;have ef:=@Asa b;have ar:=@Uw b;generalize takeF b=tk at *;obtain ⟨f,e⟩:=tk;dsimp only at aa q1 ef ar
 conv=>whnf
 refine gE q1 F120 ?_;refine Ai (Ad [(0,0)] E F372 (bA noP 0 0 true e) E ⟨E,q_⟩ E ⟨.inl E,q_⟩) E E ?_;rw[show Dt true 0 e=e by simp[Dt]];refine oO ?_;refine Ai (Ad [(0,0)] E F372 (bA noP 0 e ((f.typ:Int) != 2048) 11) E ⟨E,q_⟩ E ⟨.inl E,q_⟩) E E ?_;by_cases he:e=0;rotate_left
 .rw[zE he]at aa;subst aa;rw[show Dt ((f.typ:Int) != 2048) e 11=e by simp[Dt,he]];refine oO ?_;refine⟨λh=>zX (show e=0 by simpa using h) he,λ_=>?_⟩;refine oO ?_;exact A2 E .nil [] [(0,.box (Ei noP 0 e))] (λ_ h=>h) E E kU
 subst he;rw[zD qq]at aa;by_cases ht:f.typ=2048;rotate_left
 .rw[zE ht]at aa;subst aa;have dx:((f.typ:Int) != 2048)=true:=by simp;omega
  rw[dx,show Dt true 0 11=11 by simp[Dt]];refine oF ?_;exact A2 E .nil [] [(0,.box (Ei noP 0 11))] (λ_ h=>h) E E kU
 rw[zD (λh=>h ht)]at aa;have dx:((f.typ:Int) != 2048)=false:=by simp;omega
 rw[dx,show Dt false 0 11=0 by simp[Dt]];have hfb:=(ar rfl).body;have q2:=Aq4 f.body z_;have w7:=@A29 f.body;generalize ipTakeT f.body=ip at *;obtain ⟨p,e2⟩:=ip;dsimp only at aa q2 w7;refine oT ?_;refine gE q2 F242 ?_;refine Ai (Ad [(0,0)] E F372 (bA p 0 0 true e2) E ⟨E,q_⟩ E ⟨.inl E,q_⟩) E E ?_;rw[show Dt true 0 e2=e2 by simp[Dt]];refine oO ?_;refine Ai (Ad [(0,0)] E F372 (bA p 0 e2 ((p.proto:Int) != 17) 11) E ⟨E,q_⟩ E ⟨.inl E,q_⟩) E E ?_;have fm:res=(p,Dt ((p.proto:Int) != 17) e2 11):=by
  by_cases h2:e2=0
  .subst h2;rw[zD qq]at aa;rw[aa];simp only[Dt];by_cases h3:p.proto=17
   .rw[zD (by simp[h3]),zD (by simp[h3])]
   .rw[zE h3,zE kO]
  .rw[zE h2]at aa;rw[aa,w7 h2,show Dt ((noP.proto:Int) != 17) e2 11=e2 by simp[Dt,h2]]
 rw[fm];refine oO ?_;exact A2 E .nil [] [(0,.box (Ei p 0 (Dt ((p.proto:Int) != 17) e2 11)))] (λ_ h=>h) E E kU
def frameT(p:PacketM)(e:Int):FrameM×Int×Int :=
 if e≠0 then (noF,0,e) else if (udpTakeT p.body).2.2.2≠0 then (noF,0,(udpTakeT p.body).2.2.2) else if (udpTakeT p.body).2.1≠4789 then (noF,0,11)
 else if (vniT (udpTakeT p.body).2.2.1).2.2≠0 then (noF,(vniT (udpTakeT p.body).2.2.1).1,(vniT (udpTakeT p.body).2.2.1).2.2)
 else ((takeF (vniT (udpTakeT p.body).2.2.1).2.1).1,(vniT (udpTakeT p.body).2.2.1).1,
  if (takeF (vniT (udpTakeT p.body).2.2.1).2.1).2≠0 then (takeF (vniT (udpTakeT p.body).2.2.1).2.1).2 else if (takeF (vniT (udpTakeT p.body).2.2.1).2.1).1.typ=33024 then 15 else 0)
def frameS(p:PacketM)(e:Int)(hb:p.body.length<100000):Sq 326 [.ptr 0 0] [(0,.box (Ei p 0 e))] (C5 (frameT p e).1) [(0,.box (Ei p (frameT p e).2.1 (frameT p e).2.2))]:=cT F326 ntmps326 λF hF=>by
 have aa:=frameT.eq_1 p e;generalize frameT p e=res at *;have q1:=Avz p.body hb;have nf:=@A0t p.body;generalize udpTakeT p.body=u at *;obtain ⟨u1,u2,u3,u4⟩:=u;dsimp only at aa q1 nf;have q2:=vniS u3 z_;have gl:=@vniT_body u3;generalize vniT u3=w at *;obtain ⟨w1,w2,w3⟩:=w;dsimp only at aa q2 gl;have q3:=T5 w2 z_;have ef:=@Asa w2;generalize takeF w2=t at *;obtain ⟨f,t2⟩:=t;dsimp only at aa q3 ef
 conv=>whnf
 constructor<;>intro h
 .rw[zE (kS h)]at aa;subst aa;refine oO ?_;refine Ak 2 zF E vL ?_;exact done E (.cons (.cell E E E E) .nil) [] [(0,.box (Ei p 0 e))] (λ_ h=>h) E E kU
 have he:e=0:=kS h;clear h;subst he;rw[zD qq]at aa;refine oO ?_;refine gE q1 F373 ?_;refine Ai (Ad [(0,0)] E F372 (bA p 0 0 true u4) E ⟨E,q_⟩ E ⟨.inl E,q_⟩) E E ?_;rw[show Dt true 0 u4=u4 by simp[Dt]];refine oO ?_;refine Ai (Ad [(0,0)] E F372 (bA p 0 u4 (u2 != 4789) 11) E ⟨E,q_⟩ E ⟨.inl E,q_⟩) E E ?_;by_cases h4:u4=0;rotate_left
 .rw[zE h4]at aa;subst aa;rw[show Dt (u2 != 4789) u4 11=u4 by simp[Dt,h4]];refine oO ?_;refine⟨λh=>zX (show u4=0 by simpa using h) h4,λ_=>?_⟩;refine oO ?_;refine⟨λ_=>?_,λh=>zX (show u4=0 by simpa using h) h4⟩;refine oO ?_;refine Ak 2 zF E vL ?_;exact done E (.cons (.cell E E E E) .nil) [] [(0,.box (Ei p 0 u4))] (λ_ h=>h) E E kU
 subst h4;rw[zD qq]at aa;by_cases h2:u2=4789;rotate_left
 .rw[zE h2]at aa;subst aa;rw[show Dt (u2 != 4789) 0 11=11 by simp[Dt,h2]]
  (refine oF ?_;refine bT ?_)
  refine Ak 2 zF E vL ?_;exact done E (.cons (.cell E E E E) .nil) [] [(0,.box (Ei p 0 11))] (λ_ h=>h) E E kU
 rw[zD (λh=>h h2)]at aa;rw[show Dt (u2 != 4789) 0 11=0 by simp[Dt,h2]];refine oT ?_;refine gE q2 F374 ?_;refine Ai (Ad [(0,0)] E F372 (bA p w1 0 true w3) E ⟨E,q_⟩ E ⟨.inl E,q_⟩) E E ?_;rw[show Dt true 0 w3=w3 by simp[Dt]];refine gH ?_ ?_<;>intro h
 .rw[zE (kS h)]at aa;subst aa;refine oO ?_;refine Ak 2 zF E vL ?_;exact done E (.cons (.cell E E E E) .nil) [] [(0,.box (Ei p w1 w3))] (λ_ h=>h) E E kU
 have h3:w3=0:=kS h;clear h;subst h3;rw[zD qq]at aa;refine oO ?_;refine gE q3 F120 ?_;refine Ai (Ad [(0,0)] E F372 (bA p w1 0 true t2) E ⟨E,q_⟩ E ⟨.inl E,q_⟩) E E ?_;rw[show Dt true 0 t2=t2 by simp[Dt]];refine oO ?_;refine gE (Wm f) F177 ?_;refine Ai (Ad [(0,0)] E F372 (bA p w1 t2 (decide (f.typ=33024)) 15) E ⟨E,q_⟩ E ⟨.inl E,q_⟩) E E ?_;have fm:Dt (decide (f.typ=33024)) t2 15=if t2≠0 then t2 else if f.typ=33024 then 15 else 0:=by
  by_cases k1:t2=0
  .subst k1;rw[zD qq];by_cases k2:f.typ=33024<;>simp[Dt,k2]
  .rw[zE k1];simp[Dt,k1]
 rw[<-fm]at aa;subst aa;refine oO ?_;exact done E (.cons (.cell E E E E) .nil) [] [(0,.box (Ei p w1 (Dt (decide (f.typ=33024)) t2 15)))] (λ_ h=>h) E E kU
def Afp(b:List UInt8):Ck b=if (frameT (outerT b).1 (outerT b).2).2.2≠0 then (0,0,0,noF,(frameT (outerT b).1 (outerT b).2).2.2)
  else ((outerT b).1.src,(outerT b).1.dst,(frameT (outerT b).1 (outerT b).2).2.1,(frameT (outerT b).1 (outerT b).2).1,0):=by
 unfold Ck;generalize outerT b=o;obtain ⟨p,e⟩:=o;dsimp only;by_cases he:e=0;rotate_left
 .rw[zE he];have h1:frameT p e=(noF,0,e):=by rw[frameT,zE he]
  rw[h1,zE he]
 subst he;rw[zD qq];unfold Ma frameT;rw[zD (show ¬(0:Int)≠0 by simp)];generalize udpTakeT p.body=u;obtain ⟨u1,u2,u3,u4⟩:=u;dsimp only;by_cases h4:u4=0;rotate_left
 .rw[zE h4,zE h4,zE h4];dsimp only;rw[zE h4]
 subst h4;simp only[ne_eq,not_true_eq_false,if_false];by_cases h2:u2=4789;rotate_left
 .simp[h2]
 simp only[h2,not_true_eq_false,if_false];generalize vniT u3=w;obtain ⟨w1,w2,w3⟩:=w;dsimp only;by_cases h3:w3=0;rotate_left
 .simp[h3]
 simp only[h3,not_true_eq_false,if_false];generalize takeF w2=t;obtain ⟨f,t2⟩:=t;dsimp only;by_cases k1:t2=0
 .by_cases k2:f.typ=33024<;>simp[k1,k2]
 .simp[k1]
def Arx(b:List UInt8)(hb:b.length<100000):Sp 253 [.sl 1 Al b] (.tup [A9 (Ck b).1,A9 (Ck b).2.1,Aa (Ck b).2.2.1,C5 (Ck b).2.2.2.1,Aa (Ck b).2.2.2.2]):=cT F253 ntmps253 λF hF=>by
 have aa:=Afp b;generalize Ck b=res at *;have q1:=A1h b hb;have kx:=(cY b).2;generalize outerT b=o at *;obtain ⟨p,e⟩:=o;dsimp only at aa q1 kx;have q2:=frameS p e z_;generalize frameT p e=fr at *;obtain ⟨f,v,e2⟩:=fr;dsimp only at aa q2
 conv=>whnf
 refine Ak 9 (Ei noP 0 0) E vL (oO ?_);refine Ai (Ad [(0,9)] E F325 q1 E ⟨E,q_⟩ E ⟨.inl E,q_⟩) E E (oO ?_);refine Ai (Ad [(0,9)] E F326 q2 E ⟨E,q_⟩ E ⟨.inl E,q_⟩) E E ?_;refine gH ?_ ?_<;>intro h
 .rw[zE (kS h)]at aa;subst aa;refine oO ?_;refine kW ?_;exact Ak 5 zF E vL dN
 rw[zD (kS h)]at aa;subst aa;refine oO ?_;refine kW ?_;exact dN
end
section
structure MacM where
 up:List Bool
 tables:List (List EntryM)
 queues:List (List QueuedM)
 now:Int
 injected:Int
 drops:Nat->Int
def C1(m:MacM)(e:Int):MacM:=⟨m.up,m.tables,m.queues,m.now,m.injected,λi=>if i=e.toNat then m.drops i+1 else m.drops i⟩
def queueL(m:MacM)(dom:Int):List QueuedM:=(m.queues[dom.toNat]?).getD []
def tableL(m:MacM)(dom:Int):List EntryM:=(m.tables[dom.toNat]?).getD []
def setQ(m:MacM)(dom:Int)(l:List QueuedM):MacM:=⟨m.up,m.tables,m.queues.set dom.toNat l,m.now,m.injected,m.drops⟩
def setT(m:MacM)(dom:Int)(t:List EntryM):MacM:=⟨m.up,m.tables.set dom.toNat t,m.queues,m.now,m.injected,m.drops⟩
def comeM(m:MacM)(dom:Int)(q:QueuedM)(e:Int):MacM :=
 if e≠0 then C1 m e else if (pushT (queueL m dom) q).2=true then setQ m dom (pushT (queueL m dom) q).1 else C1 m 3
def takeM(m:MacM)(dom at_:Int):MacM×QueuedM×Bool :=
 if Af dom m.queues.length=false then (m,noQ,false)
 else (setQ m dom (takeT (queueL m dom) at_).2.1,(takeT (queueL m dom) at_).1,(takeT (queueL m dom) at_).2.2)
def injectT(n:Net)(m:MacM)(port:Int)(b:List UInt8):MacM :=
 if Af port n.ports.length=false\/0<=(nth n.ports port).link then m
 else comeM ⟨m.up,m.tables,m.queues,m.now,m.injected+1,m.drops⟩ (enterT n port b).1 ⟨port,0,m.injected+1,(enterT n port b).2.1⟩ (enterT n port b).2.2
def goesM(n:Net)(m:MacM)(o:OutM)(origin:Int):MacM×List SeenM :=
 if o.kind=1 then (m,[⟨o.port,origin,o.bytes⟩])
 else if o.kind=2 then (comeM m (linkT n o.port o.bytes).2.1 ⟨(linkT n o.port o.bytes).1,0,origin,(linkT n o.port o.bytes).2.2.1⟩ (linkT n o.port o.bytes).2.2.2,[])
 else if o.kind=3 then (comeM m (comeT n o.bytes).2.1 ⟨-1,(comeT n o.bytes).1,origin,(comeT n o.bytes).2.2.1⟩ (comeT n o.bytes).2.2.2,[])
 else if o.kind=4 then (comeM m o.domain ⟨-2,0,origin,o.frame⟩ 0,[])
 else (C1 m o.error,[])
def goesL(n:Net)(m:MacM)(origin:Int):List OutM->MacM×List SeenM
 |[]=>(m,[])
 |o::l=>((goesL n (goesM n m o origin).1 origin l).1,(goesM n m o origin).2++(goesL n (goesM n m o origin).1 origin l).2)
def Qx(n:Net)(up:List Bool):List Bool:=if okB n up=true then fwdT n up else []
def Mf(n:Net)(m:MacM)(dom:Int)(q:QueuedM):List EntryM×List OutM×Int:=bridgeT n (Qx n m.up) (tableL m dom) dom q m.now
def pickD(m:MacM)(dom:Int)(r:List EntryM×List OutM×Int):MacM :=
 if r.2.2=2 then C1 m 2 else if r.2.2≠0 then C1 (setT m dom r.1) r.2.2 else setT m dom r.1
def pickT(n:Net)(m:MacM)(dom at_:Int):MacM×List SeenM :=
 if (takeM m dom at_).2.2=false then ((takeM m dom at_).1,[])
 else goesL n (pickD (takeM m dom at_).1 dom (Mf n (takeM m dom at_).1 dom (takeM m dom at_).2.1)) (takeM m dom at_).2.1.origin (Mf n (takeM m dom at_).1 dom (takeM m dom at_).2.1).2.1
def Q1(m:MacM):MacM :=
 let now:=min (m.now+1) 1099511627776
 ⟨m.up,m.tables.map (λt=>ageT t now),m.queues,now,m.injected,m.drops⟩
def doT(n:Net)(m:MacM)(x:StepM):MacM×List SeenM :=
 if x.kind=1 then (injectT n m x.port x.bytes,[])
 else if x.kind=2 then pickT n m x.domain x.at_
 else if x.kind=3 then ((takeM m x.domain x.at_).1,[])
 else if x.kind=4 then (Q1 m,[])
 else if x.kind=5 then ((if x.up.length=n.links.length then ⟨x.up,m.tables,m.queues,m.now,m.injected,m.drops⟩ else m),[])
 else (m,[])
def newT(n:Net):MacM:=⟨List.replicate n.links.length true,List.replicate n.domains.length [],List.replicate n.domains.length [],0,0,λ_=>0⟩
def C2(n:Net):MacM->List StepM->MacM×List SeenM
 |m,[]=>(m,[])
 |m,x::l=>((C2 n (doT n m x).1 l).1,(doT n m x).2++(C2 n (doT n m x).1 l).2)
def Cd(e:Int):Prop:=0<=e/\e<64
def DomIn(n:Net)(d:Int):Prop:=0<=d/\d.toNat<n.domains.length
def Iq{n:Net}{d:Int}(h:Af d n.domains.length=true):DomIn n d:=by
 have:=B3 h;unfold DomIn;omega
def cH(b:List UInt8):Cd (takeF b).2:=by
 unfold takeF Cd
 repeat' split
 all_goals (dsimp only;omega)
def Amd(f:FrameM):Cd (stripT f).2.2.2:=by
 unfold stripT Cd
 repeat' split
 all_goals (dsimp only;omega)
def Aa6(n:Net)(port:Int)(b:List UInt8):Cd (enterT n port b).2.2:=by
 have h1:=cH b;have h2:=Amd (takeF b).1;have h3:∀f tg v,Cd (Hw n port f tg v).2.2:=λf tg v=>by
  unfold Hw Cd
  repeat' split
  all_goals (dsimp only;omega)
 unfold enterT;split
 .unfold Cd;dsimp only;omega
 split
 .exact h1
 split
 .split
  .exact h2
  .exact h3 _ _ _
 .exact h3 _ _ _
def At7(n:Net)(port:Int)(b:List UInt8):Cd (linkT n port b).2.2.2:=by
 unfold linkT;split
 .unfold Cd;dsimp only;omega
 .exact Aa6 _ _ _
def Aoq(n:Net)(port dom:Int)(f:FrameM):Cd (leaveT n port dom f).2:=by
 unfold leaveT;split
 .unfold Cd;dsimp only;omega
 split
 .unfold Cd;dsimp only;omega
 split
 .unfold Cd;dsimp only;omega
 split
 .unfold Cd;dsimp only;omega
 split
 .show Cd (tagT f (nth n.domains dom).vlan).2;unfold tagT Cd
  repeat' split
  all_goals (dsimp only;omega)
 .unfold Cd;dsimp only;omega
def Arv(a b:Nat)(v:Int)(f:FrameM):Cd (wrapT a b v f).2:=by
 unfold wrapT Cd
 repeat' split
 all_goals (dsimp only;omega)
def Atu(n:Net)(dom peer:Int)(f:FrameM):Cd (meshT n dom peer f).2:=by
 unfold meshT;split
 .unfold Cd;dsimp only;omega
 split
 .unfold Cd;dsimp only;omega
 .exact Arv _ _ _ _
def eU(b:List UInt8):Cd (ipTakeT b).2:=by
 unfold ipTakeT Cd
 repeat' split
 all_goals (dsimp only;omega)
def Afr(b:List UInt8):Cd (udpTakeT b).2.2.2:=by
 unfold udpTakeT Cd
 repeat' split
 all_goals (dsimp only;omega)
def Avt(b:List UInt8):Cd (vniT b).2.2:=by
 unfold vniT Cd
 repeat' split
 all_goals (dsimp only;omega)
def An2(b:List UInt8):Cd (outerT b).2:=by
 unfold outerT;split
 .exact cH _
 split
 .unfold Cd;dsimp only;omega
 split
 .exact eU _
 .unfold Cd;dsimp only;split<;>omega
def Ao1(b:List UInt8):Cd (Ma b).2.2:=by
 unfold Ma;split
 .exact Afr _
 split
 .unfold Cd;dsimp only;omega
 split
 .exact Avt _
 split
 .exact cH _
 split
 .unfold Cd;dsimp only;omega
 .unfold Cd;dsimp only;omega
def Ah5(b:List UInt8):Cd (Ck b).2.2.2.2:=by
 unfold Ck;split
 .exact An2 _
 split
 .exact Ao1 _
 .unfold Cd;dsimp only;omega
def Au1(n:Net)(b:List UInt8):Cd (comeT n b).2.2.2:=by
 unfold comeT;split
 .unfold Cd;dsimp only;omega
 split
 .exact Ah5 _
 split
 .unfold Cd;dsimp only;omega
 split
 .unfold Cd;dsimp only;omega
 .unfold Cd;dsimp only;omega
def Ay9(n:Net)(irb:Int)(f:FrameM):Cd (hopT n irb f).2.2:=by
 unfold hopT;split
 .unfold Cd;dsimp only;omega
 split
 .unfold Cd;dsimp only;omega
 split
 .exact eU _
 split
 .unfold Cd;dsimp only;omega
 split
 .unfold Cd;dsimp only;omega
 split
 .unfold Cd;dsimp only;omega
 .unfold Cd;dsimp only;omega
def Alm(n:Net)(fw:List Bool)(t:List EntryM)(dom:Int)(q:QueuedM)(now:Int):Cd (bridgeT n fw t dom q now).2.2:=by
 unfold bridgeT;split
 .unfold Cd;dsimp only;omega
 split
 .split
  .exact Ay9 _ _ _
  .unfold Cd;dsimp only;omega
 .unfold Cd;dsimp only;omega
def Arf{n:Net}{dev v:Int}(h:Ec n dev v=true):DomIn n (Da n dev v):=by
 have h1:0<=Da n dev v:=by simpa [Ec] using h
 have h2:Da n dev v<n.domains.length:=Il _ _;exact⟨h1,by omega⟩
def Avv{n:Net}(hb:Ac n=true){port:Int}(hp:Af port n.ports.length=true){tg:Bool}{eh:Int}(h:(vlanT (nth n.ports port) tg eh).2=true):DomIn n (Da n (nth n.ports port).dev (vlanT (nth n.ports port) tg eh).1):=by
 have hk:=B3 hp;have dw:port.toNat<n.ports.length:=by omega
 simp only[Ac,zG]at hb;have y9:=allB_iff.1 hb.1.1.1.1.1.2 _ dw;rw[Ag dw]at h|-;generalize n.ports[port.toNat]=p at *;simp only[J7,zG]at y9;obtain ⟨⟨⟨⟨⟨⟨⟨⟨g1,g2⟩,g3⟩,g4⟩,g5⟩,g6⟩,g7⟩,g8⟩,g9⟩:=y9;unfold vlanT at h|-;split
 .rw[zE (by assumption)]at h;have h1:p.native≠0:=kS h;have h2:0<=p.native:=kS g2;refine Arf ?_;have h3:decide (0<p.native)=true:=by simp;omega
  rw[h3,yD]at g8;simpa using g8
 .rw[zD (by assumption)]at h;split
  .rename_i h4;have h5:eh∈p.tagged:=inB_mem.1 h4;obtain ⟨i,hi,rfl⟩:=yY.1 h5;exact Arf (allB_iff.1 g7 i hi)
  .rw[zD (by assumption)]at h;cases h
def Oq{n:Net}{port:Int}{b:List UInt8}(h:(enterT n port b).2.2=0):DomIn n (enterT n port b).1:=by
 unfold enterT at h|-;split
 .rw[zE (by assumption)]at h;cases h
 rename_i hc;rw[zD hc]at h;have hp:Af port n.ports.length=true:=by cases hx:Af port n.ports.length;exact zX (.inl hx) hc;rfl
 have hb:Ac n=true:=by cases hx:Ac n;exact zX (.inr hx) hc;rfl
 have key:∀f tg v,(Hw n port f tg v).2.2=0->DomIn n (Hw n port f tg v).1:=λf tg v h=>by
  unfold Hw at h|-;split
  .rw[zE (by assumption)]at h;cases h
  rw[zD (by assumption)]at h;split
  .rw[zE (by assumption)]at h;cases h
  rename_i h5;show DomIn n (Ce n _ _);rw[Ce,zE hb];exact Avv hb hp (kS h5)
 split
 .rename_i h2;rw[zE h2]at h;exact zX h h2
 rename_i h2;rw[zD h2]at h;split
 .rename_i h3;rw[zE h3]at h;split
  .rename_i h4;rw[zE h4]at h;exact zX h h4
  .rename_i h4;rw[zD h4]at h;exact key _ _ _ h
 .rename_i h3;rw[zD h3]at h;exact key _ _ _ h
def Wv{n:Net}{port:Int}{b:List UInt8}(h:(linkT n port b).2.2.2=0):DomIn n (linkT n port b).2.1:=by
 unfold linkT at h|-;split
 .rw[zE (by assumption)]at h;cases h
 .rename_i h2;rw[zD h2]at h;exact Oq h
def Ai9{n:Net}(hb:Ac n=true){dom:Nat}(hd:dom<n.domains.length){k:Int}(hk:k∈n.domains[dom].peers):DomIn n k:=by
 simp only[Ac,zG]at hb;have:=allB_iff.1 hb.1.1.1.1.1.1.2 _ hd;obtain ⟨i,hi,rfl⟩:=yY.1 hk;have h2:=allB_iff.1 this i hi;simp only[Sc,zG]at h2;exact Iq h2.1.1.1.1.1.1.1.1.1
def Azr{n:Net}(hb:Ac n=true){src dst:Nat}{vni:Int}(h:¬(endsT n src dst vni).1<0):DomIn n (endsT n src dst vni).1/\DomIn n (endsT n src dst vni).2:=by
 unfold endsT at h|-;dsimp only at h|-;split
 .rw[zE (by assumption)]at h;exact zX y_ h
 rename_i h1;rw[zD h1]at h;split
 .rw[zE (by assumption)]at h;exact zX y_ h
 rename_i h2;have hd:=Il (λd:Domain=>decide (d.dev=Bs (λd:Device=>decide (d.vtep=(dst:Int))) n.devices)&&decide (d.vni=vni)) n.domains;generalize Bs (λd:Domain=>decide (d.dev=Bs (λd:Device=>decide (d.vtep=(dst:Int))) n.devices)&&decide (d.vni=vni)) n.domains=dom at *;have jc:dom.toNat<n.domains.length:=by omega
 have hi:=Il (λk:Int=>decide (C3 n k=(src:Int))) (nth n.domains dom).peers;generalize Bs (λk:Int=>decide (C3 n k=(src:Int))) (nth n.domains dom).peers=i at *;rw[Ag jc]at hi|-;have km:i.toNat<(n.domains[dom.toNat]).peers.length:=by omega
 refine⟨?_,⟨by dsimp only;omega,jc⟩⟩;show DomIn n (nth (n.domains[dom.toNat]).peers i);rw[Ag km];exact Ai9 hb jc (zI km)
def Sx{n:Net}{b:List UInt8}(h:(comeT n b).2.2.2=0):DomIn n (comeT n b).1/\DomIn n (comeT n b).2.1:=by
 unfold comeT at h|-;split
 .rw[zE (by assumption)]at h;cases h
 rename_i hb;rw[zD hb]at h;split
 .rename_i h2;rw[zE h2]at h;exact zX h h2
 rename_i h2;rw[zD h2]at h;split
 .rw[zE (by assumption)]at h;cases h
 rename_i h3;rw[zD h3]at h;split
 .rw[zE (by assumption)]at h;cases h
 exact Azr (kS hb) h3
def Akp{n:Net}{irb:Int}{f:FrameM}(az:∀(d:Int),(lookT n irb d).2=true->0<=(lookT n irb d).1/\(lookT n irb d).1.toNat<n.irbs.length)(h:(hopT n irb f).2.2=0):DomIn n (hopT n irb f).1:=by
 unfold hopT at h|-;split
 .rw[zE (by assumption)]at h;cases h
 rename_i h1;rw[zD h1]at h;split
 .rw[zE (by assumption)]at h;cases h
 rename_i h2;rw[zD h2]at h;split
 .rename_i h3;rw[zE h3]at h;exact zX h h3
 rename_i h3;rw[zD h3]at h;split
 .rw[zE (by assumption)]at h;cases h
 rename_i h4;rw[zD h4]at h;split
 .rw[zE (by assumption)]at h;cases h
 rename_i h5;rw[zD h5]at h;split
 .rw[zE (by assumption)]at h;cases h
 have hl:=az ((ipTakeT f.body).1.dst:Int) (kS h5);have hb:Ac n=true:=by cases hx:Ac n;exact zX (.inr hx) h1;rfl
 have:=(Dg hb hl.2).1;show DomIn n (nth n.irbs _).domain;rw[Ag hl.2];exact this
attribute [local irreducible]G DR
set_option maxRecDepth 100000
def Yy:=iA A4 5 F226 ntmps226
def Ag8{n:Net}(hb:Ac n=true){d:Int}(hd:DomIn n d):0<=(n.domains[d.toNat]'hd.2).dev/\(n.domains[d.toNat]'hd.2).dev.toNat<n.devices.length:=by
 simp only[Ac,zG]at hb;have:=Alr hb.1.1.1.1.1.1.1.2 hd.2;have:=B3 this;omega
def Aht{n:Net}(hb:Ac n=true){d:Int}(hd:DomIn n d):C3 n d=(n.devices[(n.domains[d.toNat]'hd.2).dev.toNat]'(Ag8 hb hd).2).vtep:=by
 rw[C3,Ag hd.2,Ag (Ag8 hb hd).2]
def Ahs{n:Net}(hm:n.Num)(hb:Ac n=true){d:Int}(hd:DomIn n d):0<=C3 n d/\C3 n d<4294967296:=by
 rw[Aht hb hd];exact hm.vtep _ (zI _)
def Yu(n:Net)(hb:Ac n=true)(d:Int)(hd:DomIn n d):Sp 250 [Am n,Aa d] (A9 (C3 n d)):=cT F250 ntmps250 λF hF=>by
 have hv:=Aht hb hd;have h2:=Ag8 hb hd;obtain ⟨x,hx⟩:=kE (n.domains[d.toNat]'hd.2);rw[hx]at h2;simp only[hx]at hv;obtain ⟨y,hy⟩:=kE (n.devices[x.dev.toNat]'h2.2);rw[hy]at hv;rw[hv]
 conv=>whnf
 refine⟨E,hd.1,hd.2,?_⟩;rw[hx]
 conv=>whnf
 refine⟨E,h2.1,h2.2,?_⟩;rw[hy]
 conv=>whnf
 refine kW ?_;exact dN
def Aor(n:Net)(hn:n.Fin)(ax:n.Num)(dom peer:Int)(f:FrameM)(h:FrameOK f):Sp 190 [Am n,Aa dom,Aa peer,C5 f] (.tup [.sl 1 Al (meshT n dom peer f).1,Aa (meshT n dom peer f).2]):=cT F190 ntmps190 λF hF=>by
 have aa:=meshT.eq_1 n dom peer f;generalize meshT n dom peer f=res at *;have hr:=A0 n hn;have hpS:=Qc peer n.domains.length;have hdS:=Qc dom n.domains.length
 conv=>whnf
 refine Ba 4 8 (Am n) E E E ?_;refine Ba 7 4 (C5 f) E E E (oO ?_);refine c0 hpS F246 ?_;cases bd:Af peer n.domains.length
 .rw[zE (.inl bd)]at aa;subst aa
  (refine oT ?_;refine bT ?_;refine bT ?_)
  exact Ao 8 1 Al E dN
 refine oF ?_;refine c0 hdS F246 ?_;cases fh:Af dom n.domains.length
 .rw[zE (.inr (.inl fh))]at aa;subst aa
  (refine oT ?_;refine bT ?_)
  exact Ao 8 1 Al E dN
 refine oF ?_;refine c0 hr F39 ?_;cases hbn:Ac n
 .rw[zE (.inr (.inr hbn))]at aa;subst aa;refine oT ?_;exact Ao 8 1 Al E dN
 rw[zD (by simp[hbn,bd,fh])]at aa;have hd:=Iq fh;have hp:=Iq bd;have r7:=hd.1;have cm:=hd.2;have e2:nth n.domains dom=n.domains[dom.toNat]:=Ag cm;have gp:=hn.peers _ (zI cm);have va:=Ahs ax hbn hd;have vb:=Ahs ax hbn hp;have qa:=Yu n hbn dom hd;have qb:=Yu n hbn peer hp;generalize C3 n dom=a at *;generalize C3 n peer=c at *;obtain ⟨a,rfl⟩:=xM va.1;obtain ⟨c,rfl⟩:=xM vb.1;rw[yE,yE]at aa;obtain ⟨d,dz⟩:=kE (n.domains[dom.toNat]'cm);rw[dz]at e2 gp;rw[e2]at aa;have qc:=D3 d.peers peer gp;have qw:=A0x a c d.vni f z_ z_ h;refine oF ?_;refine⟨E,r7,cm,?_⟩;rw[dz]
 conv=>whnf
 refine c0 qc F115 ?_;cases hi:inB d.peers peer
 .rw[zE hi]at aa;subst aa;refine oT ?_;exact Ao 8 1 Al E dN
 rw[zD (by rw[hi];decide)]at aa;subst aa;refine oF ?_;refine cD qa F250 (oD ?_);refine cD qb F250 (oD ?_);refine⟨E,r7,cm,?_⟩;rw[dz]
 conv=>whnf
 refine cD qw F249 (gM ?_);exact dN
def endsC1(dst:Int)(d:Device):Sp 327 [A4 d,.ref 1 (A9 dst) 0] (Ab (decide (d.vtep=dst))):=cT F327 ntmps327 λF hF=>by
 conv=>whnf
 refine Aq E Ap (zH Ab ?_) E;rw[wO];simp
def endsC2(dev vni:Int)(d:Domain):Sp 328 [At d,.ref 1 (Aa dev) 0,.ref 1 (Aa vni) 0] (Ab (decide (d.dev=dev)&&decide (d.vni=vni))):=cT F328 ntmps328 λF hF=>by
 conv=>whnf
 constructor<;>intro h
 .have h1:d.dev=dev:=by simpa using h
  refine oO ?_;refine Aq E Ap (zH Ab ?_) E;rw[zK h1,yD,wO];simp
 .have h1:¬d.dev=dev:=by simpa using h
  refine oO ?_;refine Aq E Ap (zH Ab ?_) E;rw[zL h1,yC]
def endsC3(n:Net)(hb:Ac n=true)(src:Int)(k:Int)(hk:DomIn n k):Sp 330 [Aa k,.ref 8 (Am n) 0,.ref 1 (A9 src) 0] (Ab (decide (C3 n k=src))):=cT F330 ntmps330 λF hF=>by
 have q:=Yu n hb k hk
 conv=>whnf
 refine cD q F250 (gM ?_);refine Aq E Ap (zH Ab ?_) E;rw[wO];simp
def endsS(n:Net)(hn:n.Fin)(hb:Ac n=true)(src dst:Nat)(vni:Int):Sp 254 [Am n,A9 src,A9 dst,Aa vni] (.tup [Aa (endsT n src dst vni).1,Aa (endsT n src dst vni).2]):=cT F254 ntmps254 λF hF=>by
 have aa:=endsT.eq_1 n src dst vni;dsimp only at aa;generalize endsT n src dst vni=res at *;have q1:=Yy n.devices (λd=>decide (d.vtep=(dst:Int))) 327 [] [.ref 1 (A9 dst) 0] rfl (λd _=>⟨⟨_,_,F327⟩,endsC1 dst d⟩) hn.devices;generalize Bs (λd:Device=>decide (d.vtep=(dst:Int))) n.devices=dev at *;have q2:=Ey n.domains (λd=>decide (d.dev=dev)&&decide (d.vni=vni)) 328 [] [.ref 1 (Aa dev) 0,.ref 1 (Aa vni) 0] rfl (λd _=>⟨⟨_,_,F328⟩,endsC2 dev vni d⟩) hn.domains;have ab:=Il (λd:Domain=>decide (d.dev=dev)&&decide (d.vni=vni)) n.domains;generalize Bs (λd:Domain=>decide (d.dev=dev)&&decide (d.vni=vni)) n.domains=dom at *;refine fW ?_;refine Ba 4 8 (Am n) E E E ?_;refine Ba 5 1 (A9 src) E E E (Ba 6 1 (A9 dst) E E E ?_);refine Ba 7 1 (Aa vni) E E E (gN q1 F226 ?_);refine fU ?_;refine Ba 10 1 (Aa dev) E E E (gN q2 F222 ?_);refine gK ?_ ?_<;>intro h
 .rw[zE (.inl (zO h))]at aa;subst aa;exact gD
 have h1:=zQ h;clear h;refine gK ?_ ?_<;>intro h
 .rw[zE (.inr (zO h))]at aa;subst aa;exact gD
 have h2:=zQ h;clear h;rw[zD (λh=>h.elim h1 h2)]at aa;have r7:0<=dom:=by omega
 have cm:dom.toNat<n.domains.length:=by omega
 have e2:nth n.domains dom=n.domains[dom.toNat]:=Ag cm;have gp:=hn.peers _ (zI cm);have za:∀k∈(n.domains[dom.toNat]'cm).peers,DomIn n k:=λk hk=>Ai9 hb cm hk
 obtain ⟨d,dz⟩:=kE (n.domains[dom.toNat]'cm);rw[dz]at e2 gp za;rw[e2]at aa;have q3:=Oj d.peers (λk=>decide (C3 n k=(src:Int))) 330 [] [.ref 8 (Am n) 0,.ref 1 (A9 src) 0] rfl (λk hk=>⟨⟨_,_,F330⟩,endsC3 n hb src k (za k hk)⟩) gp;have db:=Il (λk:Int=>decide (C3 n k=(src:Int))) d.peers;generalize Bs (λk:Int=>decide (C3 n k=(src:Int))) d.peers=i at *;refine fU ?_;refine⟨E,r7,cm,?_⟩;rw[dz];refine gP q3 F329 ?_;refine gK ?_ ?_<;>intro h
 .rw[zE (zO h)]at aa;subst aa;exact gD
 have h3:=zQ h;clear h;rw[zD h3]at aa;have rl:i.toNat<d.peers.length:=by omega
 rw[Ag rl]at aa;subst aa;refine fU ?_;refine⟨E,by omega,rl,?_⟩;refine fW ?_;exact dN
def Aot(n:Net)(hn:n.Fin)(b:List UInt8)(hb:b.length<100000):Sp 194 [Am n,.sl 1 Al b] (.tup [Aa (comeT n b).1,Aa (comeT n b).2.1,C5 (comeT n b).2.2.1,Aa (comeT n b).2.2.2]):=cT F194 ntmps194 λF hF=>by
 have aa:=comeT.eq_1 n b;generalize comeT n b=res at *;have hr:=A0 n hn;refine fW ?_;refine Ba 2 8 (Am n) E E E (gN hr F39 ?_);cases hbn:Ac n
 .rw[zE hbn]at aa;subst aa;refine fU ?_;exact Ak 6 zF E vL dN
 rw[zD (by rw[hbn];decide)]at aa;have q1:=Arx b hb;have huo:=nC b;generalize Ck b=u at *;obtain ⟨src,dst,vni,f,e⟩:=u;dsimp only at aa q1 huo;have jl:=huo.2.2.2.src;refine gN q1 F253 ?_;refine gK ?_ ?_<;>intro h
 .rw[zE (kS h)]at aa;subst aa;refine fU ?_;exact Ak 6 zF E vL dN
 rw[zD (kS h)]at aa;clear h;have q2:=endsS n hn hbn src dst vni;generalize endsT n src dst vni=en at *;obtain ⟨fr,dom⟩:=en;dsimp only at aa q2;refine gN q2 F254 ?_;refine gK ?_ ?_<;>intro h
 .rw[zE (zO h)]at aa;subst aa;refine fU ?_;exact Ak 6 zF E vL dN
 rw[zD (zQ h)]at aa;clear h;have qg:=Oe f.src z_;refine gN qg F179 ?_;cases hg:E1 f.src;rotate_left
 .rw[zE hg]at aa;subst aa;refine fU ?_;exact Ak 6 zF E vL dN
 rw[zD (by rw[hg];decide)]at aa;subst aa;refine fU ?_;refine⟨j_,?_⟩;refine fW ?_;exact dN
def A2i{n:Net}(hb:Ac n=true){d:Int}(hd:DomIn n d)(hi:0<=(n.domains[d.toNat]'hd.2).irb):∃h:(n.domains[d.toNat]'hd.2).irb.toNat<n.irbs.length,(n.irbs[(n.domains[d.toNat]'hd.2).irb.toNat]'h).domain=d:=by
 simp only[Ac,zG]at hb;have:=allB_iff.1 hb.1.1.1.1.1.1.1.2 _ hd.2;simp only[Ov,zG,yQ,yJ]at this;have h2:=this.1.2;rcases h2 with h2|⟨h2,h3⟩
 .omega
 .have h4:=B3 h2;have h5:(n.domains[d.toNat]'hd.2).irb.toNat<n.irbs.length:=by omega
  rw[Ag h5]at h3;have:=hd.1;exact⟨h5,by omega⟩
def Ahu(n:Net)(hn:n.Fin)(ax:n.Num)(dom:Int)(m:Nat):Sp 185 [Am n,Aa dom,Bi m] (.tup [Aa (routerT n dom m).1,Ab (routerT n dom m).2]):=cT F185 ntmps185 λF hF=>by
 have aa:=routerT.eq_1 n dom m;generalize routerT n dom m=res at *;have hr:=A0 n hn
 conv=>whnf
 constructor<;>intro h
 .have hp:Af dom n.domains.length=false:=by
   cases hx:Af dom n.domains.length
   .rfl
   .have:=B3 hx;have:=zO h;omega
  rw[zE (.inl hp)]at aa;subst aa
  (refine oT ?_;refine bT ?_)
  exact dN
 have h0:0<=dom:=qB h;clear h;refine gH ?_ ?_<;>intro h
 .have hp:Af dom n.domains.length=false:=by
   cases hx:Af dom n.domains.length
   .rfl
   .have:=B3 hx;have:=zO h;omega
  rw[zE (.inl hp)]at aa;subst aa;refine oT ?_;exact dN
 have h1:dom<n.domains.length:=qB h;clear h;have bd:Af dom n.domains.length=true:=Et ⟨h0,h1⟩;refine oO ?_;refine c0 hr F39 ?_;cases hbn:Ac n
 .rw[zE (.inr hbn)]at aa;subst aa;refine oT ?_;exact dN
 rw[zD (by simp[hbn,bd])]at aa;have hd:=Iq bd;have e2:nth n.domains dom=n.domains[dom.toNat]'hd.2:=Ag hd.2;have ox:=A2i hbn hd;obtain ⟨d,dz⟩:=kE (n.domains[dom.toNat]'hd.2);simp only[dz]at e2 ox;rw[e2]at aa;refine oF ?_;refine⟨E,hd.1,hd.2,?_⟩;rw[dz]
 conv=>whnf
 constructor<;>intro h
 .rw[zE (.inl (zO h))]at aa;subst aa;refine oT ?_;exact dN
 have dq:0<=d.irb:=qB h;clear h;obtain ⟨sx,km⟩:=ox dq;have ha:=ax.addr _ (zI sx);rw[Ag sx]at aa;obtain ⟨x,hx⟩:=kE (n.irbs[d.irb.toNat]'sx);rw[hx]at ha aa;obtain ⟨a,vh⟩:=xM ha.1;have qh:=Ael a z_;rw[<-vh]at qh;refine oO ?_;refine⟨E,dq,sx,?_⟩;rw[hx]
 conv=>whnf
 refine gE qh F204 ?_;constructor<;>intro h
 .have ag:D7 x.addr≠m:=λe=>by
   rw[e]at h;simp at h
  rw[zE (.inr ag)]at aa;subst aa;exact gJ
 .have heq:D7 x.addr=m:=by
   have:(D7 x.addr:Int)=(m:Int):=kS h;omega
  rw[zD (λh=>h.elim z_ (λh2=>h2 heq))]at aa;subst aa;exact gJ
def Ack{n:Net}{i:Int}(h:Af i n.irbs.length=true):InIrbs n i:=by
 have:=B3 h;exact⟨this.1,by omega⟩
def Aq7{p:PacketM}(h:PacketOK p):PacketOK (Akq p):=⟨h.tos,h.id,by have:=h.ttl;show p.ttl-1<=255;omega,h.proto,h.src,h.dst⟩
def Aoz(p:PacketM):ipPutT (Akq p)=if 1480<p.body.length then ([],14) else (Jq (Akq p),0):=rfl
def Asx(n:Net)(hn:n.Fin)(ax:n.Num)(irb:Int)(f:FrameM)(hf:FrameOK f):Sp 186 [Am n,Aa irb,C5 f] (.tup [Aa (hopT n irb f).1,C5 (hopT n irb f).2.1,Aa (hopT n irb f).2.2]):=cT F186 ntmps186 λF hF=>by
 have aa:=hopT.eq_1 n irb f;generalize hopT n irb f=res at *;have hr:=A0 n hn;have hb:=hf.body
 conv=>whnf
 constructor<;>intro h
 .have hp:Af irb n.irbs.length=false:=by
   cases hx:Af irb n.irbs.length
   .rfl
   .have:=B3 hx;have:=zO h;omega
  rw[zE (.inl hp)]at aa;subst aa
  (refine oT ?_;refine bT ?_)
  exact Ak 7 zF E vL dN
 have h0:0<=irb:=qB h;clear h;refine gH ?_ ?_<;>intro h
 .have hp:Af irb n.irbs.length=false:=by
   cases hx:Af irb n.irbs.length
   .rfl
   .have:=B3 hx;have:=zO h;omega
  rw[zE (.inl hp)]at aa;subst aa;refine oT ?_;exact Ak 7 zF E vL dN
 have h1:irb<n.irbs.length:=qB h;clear h;have bd:Af irb n.irbs.length=true:=Et ⟨h0,h1⟩;refine oO ?_;refine c0 hr F39 ?_;cases hbn:Ac n
 .rw[zE (.inr hbn)]at aa;subst aa;refine oT ?_;exact Ak 7 zF E vL dN
 rw[zD (by simp[hbn,bd])]at aa;refine Ba 3 8 (Am n) E E E ?_;refine Ba 5 4 (C5 f) E E E (oF ?_);constructor<;>intro h
 .rw[zE (by have:¬(f.typ:Int)=2048:=(kS h);omega)]at aa;subst aa;refine oO ?_;exact Ak 7 zF E vL dN
 rw[zD (by have:(f.typ:Int)=2048:=(kS h);omega)]at aa;clear h;have q1:=Aq4 f.body z_;have ar:=@Yx f.body;generalize ipTakeT f.body=tk at *;obtain ⟨p,e⟩:=tk;dsimp only at aa q1 ar;refine oO ?_;refine gE q1 F242 ?_;by_cases he:e=0;rotate_left
 .rw[zE he]at aa;subst aa;refine⟨λh=>zX (show e=0 by simpa using h) he,λ_=>?_⟩;refine oO ?_;refine⟨λ_=>?_,λh=>zX (show e=0 by simpa using h) he⟩;refine oO ?_;exact Ak 7 zF E vL dN
 subst he;rw[zD qq]at aa;obtain ⟨lh,y9⟩:=ar rfl;have tz:=lh.ttl;have te:=lh.dst;have q2:=ipHopS p z_ tz
 (refine⟨λ_=>?_,λh=>False.elim (zX h y_)⟩;refine rg ?_;conv=>whnf)
 by_cases ht:p.ttl<=1
 .rw[zE ht]at aa;subst aa;rw[hop1,zE ht]at q2;refine c0 q2 F243 (oT ?_);exact Ak 7 zF E vL dN
 rw[zD ht]at aa;rw[hop1,zD ht]at q2;refine c0 q2 F243 ?_;have q3:=Aq0 n hn hbn irb p.dst (Ack bd);have lq:=λh=>@Vn n irb p.dst h
 generalize lookT n irb p.dst=lk at *;obtain ⟨to,ok⟩:=lk;dsimp only at aa q3 lq;refine oF ?_;refine c0 q3 F244 ?_;cases ok
 .rw[zE rfl]at aa;subst aa;refine oT ?_;exact Ak 7 zF E vL dN
 rw[zD y_]at aa;have d7:=lq rfl;have l7:=Aoz p;have q4:=Agt (Akq p) (Aq7 lh) (by show p.body.length<100000;omega);rw[l7]at q4;clear l7;by_cases hl:1480<p.body.length
 .rw[zE hl]at aa q4;subst aa;refine oF ?_;refine c0 q4 F203 (oT ?_);exact Ak 7 zF E vL dN
 rw[zD hl]at aa q4;have ha:=ax.addr _ (zI d7.2);rw[Ag d7.2]at aa;obtain ⟨x,hx⟩:=kE (n.irbs[to.toNat]'d7.2);rw[hx]at ha aa;obtain ⟨a,vh⟩:=xM ha.1;have qh:=Ael a z_;rw[<-vh]at qh;have qd:=Ael p.dst te;subst aa;refine oF ?_;refine c0 q4 F203 (oF ?_);refine⟨E,d7.1,d7.2,?_⟩;rw[hx]
 conv=>whnf
 refine cD qd F204 (oD ?_);refine⟨E,d7.1,d7.2,?_⟩;rw[hx]
 conv=>whnf
 refine cD qh F204 (gM ?_);exact dN
def Apf(f:FrameM)(hb:f.body.length<100000):Sp 235 [C5 f] (C5 f):=cT F235 ntmps235 λF hF=>by
 conv=>whnf
 refine Ai (B5 Γ.toTy (d:=7) (n:=f.body.length) Al 0 E E E E E E E E z_ z_ E E E) E E (oO ?_);refine Ai (Wy Γ.toTy (l:=List.replicate f.body.length 0) (m:=f.body) E E E E E .sl) E E (oO ?_);refine Aj 7 E (oO ?_);refine Aq E (.cons (.cell E E E E) .nil) ?_ E;show SV.agg [_,_,_,.sl 1 Al f.body]=SV.agg [_,_,_,.sl 1 Al (f.body.take (List.replicate f.body.length (0:UInt8)).length++(List.replicate f.body.length (0:UInt8)).drop f.body.length)];have e:f.body.take (List.replicate f.body.length (0:UInt8)).length++(List.replicate f.body.length (0:UInt8)).drop f.body.length=f.body:=by
  rw[vC,yM,vK qq,xG]
 rw[e];rfl
def Ahe(q:QueuedM)(hb:q.frame.body.length<100000):Sp 176 [Bz q] (Bz q):=cT F176 ntmps176 λF hF=>by
 have qc:=Apf q.frame hb
 conv=>whnf
 refine gE qc F235 ?_;exact dN
def Wk(l:List QueuedM):Prop:=∀q∈l,q.frame.body.length<100000
def A2s(l:List QueuedM)(hl:l.length<1000000)(hb:Wk l):Sq 175 [.sl 7 Bz l] [] (.osl 0) [(0,.row 7 Bz l)]:=cT F175 ntmps175 λF hF=>by
 conv=>whnf
 refine B6 3 1000 7 Bz E E ?_;refine A8 l.length (λj=>[(3,.osl 1000),(6,.sl 7 Bz l),(7,Aa l.length),(8,Aa j)]) (λj=>[(1000,.row 7 Bz (l.take j))]) [] kU ?_;intro j hj;refine gH ?_ ?_<;>intro h
 .have ab:j<l.length:=qA h;have aj:(j:Int).toNat<l.length:=kS ab;obtain ⟨q,hq⟩:=kE (l[j]);have e1:l[(j:Int).toNat]'aj=q:=hq;have hs:l.take (j+1)=l.take j++[q]:=by rw[yA ab,hq]
  have nz:=hb q (by rw[<-hq];exact zI ab);have kf:(l.take j).length=j:=by rw[zW];omega
  clear h;refine oO ?_;refine⟨E,by omega,aj,?_⟩;rw[e1]
  conv=>whnf
  refine gE (Ahe q nz) F176 ?_;refine Ai (Ah Γ.toTy 16 E E E E E (.row E) (.lit (e:=Bz) (l:=[q]) E E) qq (by rw[kf];simp;omega) (by rw[kf];simp;omega)) E E (gF ?_);exact Ax [(1000,16)] ab ⟨kA,⟨.inl (zH (Ob.row 7 Bz) hs),E,q_⟩,E,E⟩
 .have ej:j=l.length:=qB h;subst ej;rw[yM];refine oO ?_;exact done E Ap [(0,1000)] [(0,.row 7 Bz l)] (λ_ h=>h) E E kU
def Ai1(l:List QueuedM)(q:QueuedM)(hl:l.length<1000000)(hb:Wk l)(nz:q.frame.body.length<100000):Sp 182 [.sl 7 Bz l,Bz q] (.tup [.sl 7 Bz (pushT l q).1,Ab (pushT l q).2]):=cT F182 ntmps182 λF hF=>by
 have aa:=pushT.eq_1 l q;generalize pushT l q=res at *
 conv=>whnf
 refine Ai (Ad [(0,55)] E F175 (A2s l hl hb) E q_ E ⟨.inr E,q_⟩) E E ?_;refine gH ?_ ?_<;>intro h
 .rw[zE (qA h)]at aa;subst aa;refine oO ?_;exact Aj 55 E dN
 .rw[zD (qB h)]at aa;subst aa;refine oO ?_;refine gE (Ahe q nz) F176 ?_;exact Ai (Ah Γ.toTy 17 E E E E E (.row E) (.lit (e:=Bz) (l:=[q]) E E) y_ kO kO) E E (Aj 17 E gJ)
def oJ(l:List QueuedM)(at_:Int)(hl:l.length<1000000)(hb:Wk l):Sp 106 [.sl 7 Bz l,Aa at_] (.tup [Bz (takeT l at_).1,.sl 7 Bz (takeT l at_).2.1,Ab (takeT l at_).2.2]):=cT F106 ntmps106 λF hF=>by
 have aa:=takeT.eq_1 l at_;generalize takeT l at_=res at *
 conv=>whnf
 constructor<;>intro h
 .rw[zE (.inl (zO h))]at aa;subst aa;refine oT ?_;refine Ai (Ad [(0,55)] E F175 (A2s l hl hb) E q_ E ⟨.inr E,q_⟩) E E ?_;refine Aj 55 E (oO ?_);exact Ak 4 [Aa 0,Aa 0,Aa 0,Bi 0,Bi 0,Aa 0,.sl 1 Al []] E vL dN
 have h0:0<=at_:=qB h;clear h;refine gH ?_ ?_<;>intro h
 .rw[zE (.inr (zO h))]at aa;subst aa;refine oO ?_;refine Ai (Ad [(0,55)] E F175 (A2s l hl hb) E q_ E ⟨.inr E,q_⟩) E E ?_;refine Aj 55 E (oO ?_);exact Ak 4 [Aa 0,Aa 0,Aa 0,Bi 0,Bi 0,Aa 0,.sl 1 Al []] E vL dN
 have h1:at_<l.length:=qB h;clear h;have hk:at_.toNat<l.length:=by omega
 have ag:l≠[]:=λe=>by rw[e]at hk;simp at hk
 have pn:((at_.toNat:Nat):Int)=at_:=by omega
 rw[zD z_,zR hk,Option.getD_some]at aa;obtain ⟨q,hq⟩:=kE (l[at_.toNat]'hk);rw[hq]at aa;have nz:=hb q (by rw[<-hq];exact zI hk);refine G_dat 0 90 E ag ?_;intro B off cap ji;refine run Γ hm 3 ?_
 conv=>whnf
 refine Cc (eV 90 (.inl E) E E) j_ E (oD ?_);refine⟨E,h0,hk,?_⟩;rw[hq]
 conv=>whnf
 refine cD (Ahe q nz) F176 (oD ?_);refine Cc (Acy (hi:=at_.toNat) Γ.toTy E E E E (zH (λz=>SV.val (.int .i64 z)) pn.symm) (zH (λz=>SV.val (.int .i64 z)) pn.symm) z_) j_ E ?_;refine Cc (eV 90 (.inl E) E E) j_ E (oD ?_);refine iW ?_;refine Cc (Du (lo:=at_.toNat+1) (hi:=l.length) Γ.toTy E E E E (.inr ⟨_,_,E,zH (λz=>SV.val (.int .i64 z)) z_⟩) (.inl ⟨E,E⟩) z_ (yG _)) j_ E ?_;have kf:((l.take l.length).drop (at_.toNat+1)).length=l.length-(at_.toNat+1):=by rw[yP,zW];omega
 refine Cc (Ac2 Γ.toTy 90 E E E E E E (Nat.le_of_lt hk) E (by rw[kf];omega) (by rw[kf];omega)) j_ E ?_;have he:l.take at_.toNat++(l.take l.length).drop (at_.toNat+1)=l.eraseIdx at_.toNat:=by rw[yM,List.eraseIdx_eq_take_drop_succ]
 have hel:(l.take at_.toNat++(l.take l.length).drop (at_.toNat+1)).length<1000000:=by rw[he,List.length_eraseIdx];split<;>omega
 have heb:Wk (l.take at_.toNat++(l.take l.length).drop (at_.toNat+1)):=by rw[he];exact λx hx=>hb x (uK hx)
 refine oD ?_;refine Cc (Ad [(0,55)] E F175 (A2s _ hel heb) E q_ E ⟨.inr E,q_⟩) j_ E (gM ?_);refine Aj 55 E ?_;refine Aq E (.cons (.cell E E E E) (.cons .tmp Ap)) ?_ E;subst aa;show SV.tup [_,.sl 7 Bz (l.eraseIdx at_.toNat),_]=SV.tup [_,.sl 7 Bz (l.take at_.toNat++(l.take l.length).drop (at_.toNat+1)),_];rw[he];rfl
def I8{k:Type}(q:k->Bool)(l:List k):Nat->Nat
 |0=>0
 |j+1=>match l[j]? with
  |some x=>if q x=true then I8 q l j+1 else I8 q l j
  |none=>I8 q l j
def dfC{k:Type}(q:k->Bool)(l:List k):Nat->List k
 |0=>l
 |j+1=>match l[j]? with
  |some x=>if q x=true then (dfC q l j).set (I8 q l j) x else dfC q l j
  |none=>dfC q l j
def lT{k:Type}(q:k->Bool)(l:List k)(j:Nat):I8 q l j<=j:=by
 induction j with
 |zero=>exact yG _
 |succ j ih=>
  simp only[I8];split
  .split<;>omega
  .omega
def Y4{k:Type}(q:k->Bool)(l:List k)(j:Nat):(dfC q l j).length=l.length:=by
 induction j with
 |zero=>rfl
 |succ j ih=>
  simp only[dfC];split
  .split
   .rw[yN];exact ih
   .exact ih
  .exact ih
def Ari{a:Type}(q:a->Bool)(l:List a)(j k:Nat)(h:j<=k):(dfC q l j)[k]? = l[k]?:=by
 induction j with
 |zero=>rfl
 |succ j ih=>
  simp only[dfC];split
  .split
   .rw[List.getElem?_set_ne (by have:=lT q l j;omega)];exact ih z_
   .exact ih z_
  .exact ih z_
def Ala{k:Type}(q:k->Bool)(l:List k)(j:Nat)(h:j<=l.length):(dfC q l j).take (I8 q l j)=(l.take j).filter q:=by
 induction j with
 |zero=>rfl
 |succ j ih=>
  have hj:j<l.length:=by omega
  have ih:=ih z_;have hc:=lT q l j;simp only[dfC,I8,zR hj];rw[vO,zR hj,List.filter_append];by_cases hq:q l[j]=true
  .rw[zE hq,zE hq];have ab:I8 q l j<((dfC q l j).set (I8 q l j) l[j]).length:=by rw[yN,Y4];omega
   rw[vO,zR ab,uS];rw[List.take_set_of_le (yG _),ih];simp[hq]
  .rw[zD hq,zD hq,ih];simp[hq]
def Ae2{a:Type}(q:a->Bool)(l:List a)(i:Nat)(hi:i<=l.length)(h:∀k (hk:k<l.length),k<i->q l[k]=true):dfC q l i=l/\I8 q l i=i:=by
 induction i with
 |zero=>exact⟨rfl,rfl⟩
 |succ i ih=>
  obtain ⟨h1,h2⟩:=ih z_ (λk hk rl=>h k hk z_);have l5:i<l.length:=by omega
  simp only[dfC,I8,zR l5];rw[zE (h i l5 z_),zE (h i l5 z_),h1,h2];exact⟨uR l5,E⟩
def T4{a:Type}(p:a->Bool)(l:List a):(Bs p l=-1/\∀x∈l,p x=false)\/∃(i:Nat) (hi:i<l.length),Bs p l=i/\p l[i]=true/\∀k (hk:k<l.length),k<i->p l[k]=false:=by
 unfold Bs;cases h:l.findIdx? p with
 |none=>exact .inl ⟨rfl,kS h⟩
 |some i=>
  rw[wD]at h;obtain ⟨hi,h1,h2⟩:=h;exact .inr ⟨i,hi,E,h1,λk hk rl=>kS (h2 k rl)⟩
def V9:=iE A5 3 F105 ntmps105
def Sn:=iD A5 3 F233 ntmps233
def bG(l:List EntryM)(p:EntryM->Bool)(f:FuncId)(first cap:List SV)(hc:(SV.clo (.func f) first cap).inn []=true)(d9:(SV.clo (.func f) first cap).inn [0]=true)(hf:∀x∈l,E4 prog f (first++[A5 x]++cap) (Ab (p x)))(hl:An l):Sq 195 [.osl 0,.clo (.func f) first cap] [(0,.row 3 A5 l)] (.osl 1) [(0,.non),(1,.row 3 A5 (l.filter λx=>!(p x)))]:=cT F195 ntmps195 λF hF=>by
 have qi:=Sn l p f first cap hc hf hl
 unfold An at hl;have az:∀x:EntryM,B7 [] (first++[A5 x]++cap)=true:=λx=>C6 hc rfl
 conv=>whnf
 refine Ark [0] qi F233 E (.cons (.row E E) (.cons (.refl _) .nil)) (by simp only[B7,hc,uJ];rfl) E E ?_;rcases T4 p l with ⟨h1,h2⟩|⟨i,hi,h1,h2,h3⟩
 .rw[h1];have e1:(l.filter λx=>!(p x))=l:=List.filter_eq_self.2 (λx hx=>by simp[h2 x hx]);rw[e1];refine oT ?_;refine Aqb 0 1000 [0,4] E E y_ (by simp;exact⟨E,E⟩) ?_;exact done E Ap [(0,0),(1,1000)] _ (λ_ h=>h) E E kU
 obtain ⟨f1,f2⟩:=Ae2 (λx=>!(p x)) l i z_ (λk hk rl=>by simp[h3 k hk rl]);have g1:dfC (λx=>!(p x)) l (i+1+0)=l:=by
  show dfC (λx=>!(p x)) l (i+1)=l;simp only[dfC,zR hi];rw[zD (by simp[h2]),f1]
 have g2:I8 (λx=>!(p x)) l (i+1+0)=i:=by
  show I8 (λx=>!(p x)) l (i+1)=i;simp only[I8,zR hi];rw[zD (by simp[h2]),f2]
 rw[h1];refine oF ?_;refine iW ?_;refine A8 (l.length-(i+1)) (λj=>[(0,.osl 0),(1,.clo (.func f) first cap),(5,Aa (I8 (λx=>!(p x)) l (i+1+j))),(6,Aa ((i+1+j:Nat)))]) (λj=>[(0,.row 3 A5 (dfC (λx=>!(p x)) l (i+1+j)))]) []
  ⟨⟨rfl,rfl,Be _,d9,zH Aa (zH Int.ofNat g2),rfl,zH (λz=>SV.val (.int .i64 z)) z_,rfl,trivial⟩,⟨.inl (zH (Ob.row 3 A5) g1),rfl,trivial⟩,rfl,rfl⟩ ?_
 intro j hj;have gq:=lT (λx=>!(p x)) l (i+1+j);have fh:=Y4 (λx=>!(p x)) l (i+1+j);have a8:=Ari (λx=>!(p x)) l (i+1+j) (i+1+j) (yG _);have s1:∀h:i+1+j<l.length,I8 (λx=>!(p x)) l (i+1+(j+1))=if (!(p l[i+1+j]))=true then I8 (λx=>!(p x)) l (i+1+j)+1 else I8 (λx=>!(p x)) l (i+1+j):=λab=>by
  show I8 (λx=>!(p x)) l (i+1+j+1)=_;simp only[I8,zR ab]
 have s2:∀h:i+1+j<l.length,dfC (λx=>!(p x)) l (i+1+(j+1))=if (!(p l[i+1+j]))=true then (dfC (λx=>!(p x)) l (i+1+j)).set (I8 (λx=>!(p x)) l (i+1+j)) l[i+1+j] else dfC (λx=>!(p x)) l (i+1+j):=λab=>by
  show dfC (λx=>!(p x)) l (i+1+j+1)=_;simp only[dfC,zR ab]
 have gj:=λh=>Ala (λx=>!(p x)) l (i+1+j) h
 obtain ⟨D,hD⟩:∃D,dfC (λx=>!(p x)) l (i+1+j)=D:=⟨_,rfl⟩
 obtain ⟨K,hK⟩:∃K,I8 (λx=>!(p x)) l (i+1+j)=K:=⟨_,rfl⟩
 rw[hD]at fh a8 s2 gj|-;rw[hK]at gq s1 s2 gj|-;refine gH ?_ ?_<;>intro h
 .have ab:i+1+j<l.length:=qA h;have oz:=hf l[i+1+j] (zI ab);have s1:=s1 ab;have s2:=s2 ab;rw[zR ab,zR z_]at a8;have a8:=Option.some.inj a8;obtain ⟨x,hx⟩:=kE (l[i+1+j]);rw[hx]at oz s1 s2 a8;refine oO ?_;refine⟨by omega,by simp;omega,?_⟩
  conv=>whnf
  refine⟨E,by omega,?_⟩;rw[show D[((i+1+j:Nat):Int).toNat]'z_=x from a8]
  conv=>whnf
  refine D4 oz E E E (by simp only[az];rfl) E E ?_;cases uj:p x
  .rw[uj]at s1 s2;refine oT ?_;refine⟨by omega,by simp;omega,?_⟩
   conv=>whnf
   refine⟨E,by omega,x,E,E,?_⟩
   conv=>whnf
   refine iW ?_;refine iW ?_;exact Ax [] z_ ⟨⟨E,E,Be _,d9,zH Aa (zH Int.ofNat s1),E,zH (λz=>SV.val (.int .i64 z)) z_,E,q_⟩,⟨.inl (zH (Ob.row 3 A5) s2),E,q_⟩,E,E⟩
  .rw[uj]at s1 s2;refine oF ?_;refine iW ?_;exact Ax [] z_ ⟨⟨E,E,Be _,d9,zH Aa (zH Int.ofNat s1),E,zH (λz=>SV.val (.int .i64 z)) z_,E,q_⟩,⟨.inl (zH (Ob.row 3 A5) s2),E,q_⟩,E,E⟩
 .have jq:i+1+j=l.length:=qB h;have ag:D≠[]:=λh=>by rw[h]at fh;simp at fh;omega
  have gj:=gj z_;rw[show l.take (i+1+j)=l from xD z_]at gj;refine Al3 0 [0] E ag (by simp;rfl) ?_;intro b d5 ji;refine oO ?_;refine Ai (Dm Γ.toTy E E E E (.inr ⟨_,_,E,E⟩) (.inl ⟨E,E⟩) z_ z_) E E (oO ?_);refine Ai (Ol Γ.toTy 0 (k:=K) E E E E y_ E E E z_ z_) E E (oO ?_);refine Ai (Dm Γ.toTy E E E E (.inl ⟨E,E⟩) (.inr ⟨_,_,E,E⟩) z_ z_) E E (oO ?_);refine bX 0 1000 [4] K E E (by rw[zW];omega) (λi hi=>?_) ?_
  .rw[zZ]at hi;subst hi;show SV.val (.slice (some (if d5=0 then ⟨b,0,none⟩ else ⟨b,0*3,none⟩)) (K-0) (d5-0))=_;split<;>simp
  refine done E Ap [(0,0),(1,1000)] _ (λ_ h=>h) E E ⟨q_,⟨.inl E,E,.inl ?_,E,q_⟩,E,E⟩;rw[<-gj];exact zH (Ob.row 3 A5) (by rw[List.take_take,Nat.min_self])
def Ac5(l:List EntryM)(i:Nat)(hi:i<l.length)(_hl:An l):Sq 310 [.osl 0,Aa i,Aa ((i+1:Nat):Int)] [(0,.row 3 A5 l)] (.osl 1) [(0,.non),(1,.row 3 A5 (l.take i++l.drop (i+1)))]:=cT F310 ntmps310 λF hF=>by
 have ag:l≠[]:=λh=>by rw[h]at hi;simp at hi
 refine fW ?_;refine Al3 0 [0,8] E ag (by simp;exact⟨E,E⟩) ?_;intro b cap ji;refine fU ?_;refine Ai (Acx Γ.toTy E E E E E E E z_ z_ ji) E E (fU ?_);refine⟨λh=>zX h kO,λ_=>?_⟩;refine fU ?_;refine Cc (Dm Γ.toTy E E E E (.inl ⟨E,E⟩) (.inr ⟨_,_,E,E⟩) z_ z_) j_ E (fU ?_);refine Cc (Dm (hi:=l.length) Γ.toTy E E E E (.inr ⟨_,_,E,E⟩) (.inl ⟨E,E⟩) z_ z_) j_ E (fU ?_);have hif:(if cap=0 then (⟨b,0,none⟩:Addr) else ⟨b,0*3,none⟩)=⟨b,0,none⟩:=by split<;>simp
 refine Cc (lF Γ.toTy 0 (n:=l.length) (i:=i) (j:=i+1) E E E (zH (λz=>SV.val (.slice (some z) i cap)) hif) E E E E z_ z_) j_ E (fU ?_);refine⟨j_,?_⟩;refine fW ?_;refine Ai (Dm (lo:=i+(l.length-(i+1))) (hi:=l.length) Γ.toTy E E E E (.inr ⟨_,_,E,E⟩) (.inr ⟨_,_,E,E⟩) z_ z_) E E (fU ?_);have kf:(l.take i++l.drop (i+1)).length=i+(l.length-(i+1)):=by rw[zU,zW,yP];omega
 refine Ai (Ol Γ.toTy 0 (k:=i+(l.length-(i+1))) E E E E y_ E E E z_ z_) E E (fU ?_);refine bX 0 1000 [6] (i+(l.length-(i+1))) E E (by rw[zW];omega) (by simp;rfl) ?_;refine done E Ap [(0,0),(1,1000)] _ (λ_ h=>h) E E ⟨q_,⟨.inl E,E,.inl ?_,E,q_⟩,E,E⟩;exact zH (Ob.row 3 A5) (by rw[List.take_take,Nat.min_self];exact(xD z_).symm)
def dS(m:Nat)(h:m<18446744073709551616):Sp 172 [Bi m] (Ab (Ls m)):=cT F172 ntmps172 λF hF=>by
 have q:=Oe m h;refine fW ?_;constructor<;>intro h1
 .have h2:m<=281474976710655:=by simp at h1;omega
  refine gN q F179 ?_;refine fU ?_;exact Aq E Ap (zH Ab (by rw[Ls,zK h2,yD])) E
 .have h2:¬m<=281474976710655:=by simp at h1;omega
  refine fU ?_;exact Aq E Ap (zH Ab (by rw[Ls,zL h2,yC])) E
def Yj(i:Int):Sp 173 [Aa i] (Ab (Kl i)):=cT F173 ntmps173 λF hF=>by
 conv=>whnf
 (repeat' (first|(refine⟨λh=>?_,λh=>?_⟩<;>(repeat (first|simp only[zJ]at h|simp only[zY]at h))<;>((refine oO ?_)))|(refine Aq rfl Ap ?_ rfl)))
 all_goals (refine zH Ab ?_)
 all_goals grind [Kl]
def Asc(m:Nat)(e:EntryM):Sp 234 [A5 e,.ref 1 (Bi m) 0] (Ab (decide (e.mac=m))):=cT F234 ntmps234 λF hF=>by
 conv=>whnf
 refine Aq E Ap ?_ E;refine zH Ab ?_;rw[wO];simp;omega
def cJ(t:List EntryM)(m:Nat)(hl:An t):Sp 174 [.sl 3 A5 t,Bi m] (Aa (Iy t m)):=cT F174 ntmps174 λF hF=>by
 have q:=Sn t (λe=>decide (e.mac=m)) 234 [] [.ref 1 (Bi m) 0] rfl (λx _=>⟨⟨_,_,F234⟩,Asc m x⟩) hl
 conv=>whnf
 refine Ba 3 1 (Bi m) E E E (oO ?_);refine gE q F233 ?_;exact dN
def Awc(t:List EntryM)(m:Nat)(hl:An t):Sp 321 [.sl 3 A5 t,Bi m] (.tup [Aa (findE t m).1,Ab (findE t m).2]):=cT F321 ntmps321 λF hF=>by
 have q:=cJ t m hl;have ab:Iy t m<t.length:=Il _ _;have aa:=findE.eq_1 t m;generalize findE t m=res at *;generalize Iy t m=i at *
 conv=>whnf
 refine gE q F174 ?_;constructor<;>intro h
 .rw[zE (kS h)]at aa;subst aa;exact gJ
 .have h0:¬i<0:=by simpa using h
  have hi:i.toNat<t.length:=by omega
  rw[zD h0,zR hi]at aa;subst aa;refine oO ?_;refine⟨E,by omega,by omega,?_⟩
  conv=>whnf
  exact dN
def Wn(t:List EntryM)(hl:An t)(mg:∀e∈t,e.mac<18446744073709551616):Sp 104 [.sl 3 A5 t] (Ab (tableB t)):=cT F104 ntmps104 λF hF=>by
 unfold An at hl;have aa:=tableB.eq_1 t;generalize tableB t=res at *
 conv=>whnf
 constructor<;>intro h
 .have h8:¬t.length<=8:=by simp at h;omega
  rw[zL h8,yC]at aa;subst aa;exact gJ
 have h8:t.length<=8:=by simp at h;omega
 rw[zK h8,yD]at aa;refine oO ?_;refine A7 t.length (λj=>Ek (dJ t) t j) (λj=>[(0,.sl 3 A5 t),(8,.sl 3 A5 t),(9,Aa t.length),(10,Aa j)]) (λ_=>[]) [] (Bh _ _) kU ?_;intro j hj hI;refine gH ?_ ?_<;>intro h
 .have ab:j<t.length:=qA h;have q1:=dS t[j].mac (mg _ (zI ab));have q2:=Yj t[j].seen;have q3:=cJ t t[j].mac hl;have tj:dJ t j t[j]=(Ls t[j].mac&&Kl t[j].seen&&decide (Iy t t[j].mac=j)):=rfl;have ef:dJ t j t[j]=false->res=false:=λhf=>by rw[aa];exact Dd ab hf
  have zb:dJ t j t[j]=true->Ek (dJ t) t (j+1):=λht=>Bc hI ab ht
  refine oO ?_;refine⟨E,by omega,by omega,?_⟩;rw[show t[(j:Int).toNat]'z_=t[j] from rfl];generalize t[j]=x at *
  conv=>whnf
  refine c0 q1 F172 ?_;cases h1:Ls x.mac
  .rw[ef (by rw[tj,h1];rfl)]
   (refine oT ?_;refine bT ?_;refine bT ?_)
   exact dN
  refine oF ?_;refine c0 q2 F173 ?_;cases h2:Kl x.seen
  .rw[ef (by rw[tj,h1,h2];rfl)]
   (refine oT ?_;refine bT ?_)
   exact dN
  refine oF ?_;refine gE q3 F174 ?_;constructor<;>intro h3
  .rw[ef (by rw[tj,h1,h2,zL (kS h3)];rfl)];exact gJ
  .have h4:=zb (by rw[tj,h1,h2,zK (kS h3)];rfl);refine gF ?_;exact A6 [] hI z_ h4 kU
 .have jq:j=t.length:=qB h;subst jq;rw[aa.trans (Hc hI (yG _))];exact gJ
def A09(now:Int)(hn:Kl now=true)(e:EntryM):Sp 196 [A5 e,.ref 1 (Aa now) 0] (Ab (decide (e.seen<now-4))):=cT F196 ntmps196 λF hF=>by
 have hn2:0<=now/\now<=1099511627776:=by simpa [Kl] using hn
 conv=>whnf
 refine iW ?_;exact dN
def A08(t:List EntryM)(now:Int)(hl:An t)(mg:∀e∈t,e.mac<18446744073709551616):Sp 113 [.sl 3 A5 t,Aa now] (.sl 3 A5 (ageT t now)):=cT F113 ntmps113 λF hF=>by
 have gd:=hl;unfold An at gd;have aa:=ageT.eq_1 t now;generalize ageT t now=res at *;have q1:=Wn t hl mg;have q2:=Yj now
 conv=>whnf
 refine Ai (Ad [(0,55)] E F105 (V9 t gd) E q_ E ⟨.inr E,q_⟩) E E (oO ?_);refine c0 q1 F104 ?_;cases h1:tableB t
 .rw[zE (.inl h1)]at aa;subst aa
  (refine oT ?_;refine bT ?_)
  exact Aj 55 E dN
 refine oF ?_;refine c0 q2 F173 ?_;cases h2:Kl now
 .rw[zE (.inr h2)]at aa;subst aa;refine oT ?_;exact Aj 55 E dN
 rw[zD (by simp[h1,h2])]at aa;refine oF ?_;refine Ba 3 1 (Aa now) E E E (oO ?_);have q3:=bG t (λe=>decide (e.seen<now-4)) 196 [] [.ref 1 (Aa now) 0] rfl rfl (λx _=>⟨⟨_,_,F196⟩,A09 now h2 x⟩) hl;refine Ai (Ad [(0,55),(1,56)] E F195 q3 E ⟨E,q_⟩ E kB) E E (oO ?_);refine Aj 56 E ?_;refine Aq E Ap ?_ E;subst aa;refine zH (SV.sl 3 A5) (List.filter_congr λe _=>?_);rw[wO];simp
def oV(t:List EntryM)(j:Nat)(h:0<t.length)(hj:j<=t.length):oldestU t j<t.length:=by
 induction j with
 |zero=>exact h
 |succ j ih=>
  rw[oldestU];split
  .omega
  .exact ih z_
def Amc(t:List EntryM)(hl:An t)(h0:0<t.length):Sp 309 [.sl 3 A5 t] (Aa (oldestU t t.length:Nat)):=cT F309 ntmps309 λF hF=>by
 unfold An at hl
 conv=>whnf
 refine A8 t.length (λj=>[(0,.sl 3 A5 t),(3,Aa (oldestU t j:Nat)),(6,.sl 3 A5 t),(7,Aa t.length),(8,Aa j)]) (λ_=>[]) [] kU ?_;intro j hj;refine gH ?_ ?_<;>intro h
 .have ab:j<t.length:=qA h;have kx:=oV t j h0 z_;have hs:=oldestU.eq_2 t j;rw[zR ab,zR kx]at hs;obtain ⟨o,ho⟩:=kE (oldestU t j);simp only[ho]at hs kx|-;have my:oldestU t (j+1)=if t[j].seen<t[o].seen then j else o:=hs
  refine oO ?_;refine⟨E,by omega,by omega,?_⟩;rw[show t[(j:Int).toNat]'z_=t[j] from rfl]
  conv=>whnf
  refine⟨E,by omega,by omega,?_⟩;rw[show t[(o:Int).toNat]'z_=t[o] from rfl]
  conv=>whnf
  refine kW ?_;constructor<;>intro h2
  .rw[zE (zO h2)]at my;refine gF ?_;exact Ax [] z_ ⟨⟨E,E,zH (λz:Nat=>Aa z) my,E,E,E,E,E,E,E,q_⟩,q_,E,E⟩
  .rw[zD (zQ h2)]at my;refine gF ?_;exact Ax [] z_ ⟨⟨E,E,zH (λz:Nat=>Aa z) my,E,E,E,E,E,E,E,q_⟩,q_,E,E⟩
 .have:j=t.length:=qB h;subst this;exact gJ
def Adk(t:List EntryM)(m:Nat)(wh now:Int)(hl:An t)(mg:∀e∈t,e.mac<18446744073709551616)(vw:m<18446744073709551616):Sp 241 [.sl 3 A5 t,Bi m,Aa wh,Aa now] (.sl 3 A5 (learnT t m wh now)):=cT F241 ntmps241 λF hF=>by
 have gd:=hl;unfold An at gd;have aa:=learnT.eq_1 t m wh now;generalize learnT t m wh now=res at *;have q1:=Wn t hl mg;have q2:=dS m vw;have q3:=Yj now;have q4:=cJ t m hl
 conv=>whnf
 refine Ai (Ad [(0,55)] E F105 (V9 t gd) E q_ E ⟨.inr E,q_⟩) E E (oO ?_);refine c0 q1 F104 ?_;cases h1:tableB t
 .rw[zE (.inl h1)]at aa;subst aa
  (refine oT ?_;refine bT ?_;refine bT ?_)
  exact Aj 55 E dN
 refine oF ?_;refine c0 q2 F172 ?_;cases h2:Ls m
 .rw[zE (.inr (.inl h2))]at aa;subst aa
  (refine oT ?_;refine bT ?_)
  exact Aj 55 E dN
 refine oF ?_;refine c0 q3 F173 ?_;cases h3:Kl now
 .rw[zE (.inr (.inr h3))]at aa;subst aa;refine oT ?_;exact Aj 55 E dN
 rw[zD (by simp[h1,h2,h3])]at aa;have ht8:t.length<=8:=by simp only[tableB,zG,zJ]at h1;exact h1.1
 have vx:∀hi:0<=Iy t m,∃h:(Iy t m).toNat<t.length,t[(Iy t m).toNat].mac=m:=λhi=>by
  rcases T4 (λe=>decide (EntryM.mac e=m)) t with ⟨h,_⟩|⟨k,hk,h,h2,_⟩
  .rw[Iy,h]at hi;exact zX hi y_
  .have e1:Iy t m=k:=h;simp only[e1,yE];exact⟨hk,zO h2⟩
 generalize Iy t m=i at *;refine oF ?_;refine gE q4 F174 ?_;constructor<;>intro h4
 .have h5:0<=i:=by simpa using h4
  obtain ⟨hi,tn⟩:=vx h5;rw[zE h5]at aa;refine oO ?_;have ag:t≠[]:=λh=>by rw[h]at hi;simp at hi
  refine⟨h5,by omega,?_⟩
  conv=>whnf
  refine⟨ag,?_⟩
  conv=>whnf
  refine⟨E,hi,⟨t[i.toNat].mac,wh,t[i.toNat].seen⟩,E,E,?_⟩
  conv=>whnf
  refine⟨h5,by simp;omega,?_⟩
  conv=>whnf
  refine⟨by simp;exact ag,?_⟩
  conv=>whnf
  refine⟨E,by simp;omega,⟨t[i.toNat].mac,wh,now⟩,by rw[uS];rfl,by rw[uS];rfl,?_⟩
  conv=>whnf
  refine Aj 55 E (oO ?_);refine Aq E Ap (zH (SV.sl 3 A5) ?_) E;rw[aa,List.set_set,tn]
 .have h5:¬0<=i:=by simp at h4|-;omega
  rw[zD h5]at aa;refine oO ?_;constructor<;>intro h6
  .have h7:t.length=8:=by simp at h6;omega
   rw[zE h7]at aa;have q5:=Amc t hl z_;have kx:=oV t t.length z_ (yG _);refine oO ?_;refine Ark [55] q5 F309 E (.cons (.row E E) .nil) E E E ?_;generalize oldestU t t.length=o at *;have q6:=Ac5 t o kx hl;refine gF ?_;refine Ai (Ad [(0,55),(1,56)] E F310 q6 E ⟨E,q_⟩ E kB) E E (oO ?_);refine Ai (Ah Γ.toTy 60 rfl rfl rfl rfl rfl (.row rfl) (.lit (e:=A5) (l:=[⟨m,wh,now⟩]) rfl rfl) (λj hj=>by cases hj;decide) kO kO) rfl rfl ?_;refine Aj 60 E (oO ?_);refine Aq E Ap (zH (SV.sl 3 A5) ?_) E;rw[aa,List.eraseIdx_eq_take_drop_succ]
  .have h7:¬t.length=8:=by simp at h6;omega
   rw[zD h7]at aa;refine oO ?_;refine Ai (Ah Γ.toTy 60 rfl rfl rfl rfl rfl (.row rfl) (.lit (e:=A5) (l:=[⟨m,wh,now⟩]) rfl rfl) (λj hj=>by cases hj;decide) kO kO) rfl rfl ?_;refine Aj 60 E (oO ?_);exact Aq E Ap (zH (SV.sl 3 A5) aa) E
def Ahf:=iE Aa 1 F170 ntmps170
def lH(l:List Int)(p:Int->Bool)(f:FuncId)(first cap:List SV)(hc:(SV.clo (.func f) first cap).inn []=true)(d9:(SV.clo (.func f) first cap).inn [0]=true)(hf:∀x∈l,E4 prog f (first++[Aa x]++cap) (Ab (p x)))(hl:An l):Sq 308 [.osl 0,.clo (.func f) first cap] [(0,.row 1 Aa l)] (.osl 1) [(0,.non),(1,.row 1 Aa (l.filter λx=>!(p x)))]:=cT F308 ntmps308 λF hF=>by
 have qi:=Oj l p f first cap hc hf hl
 unfold An at hl;have az:∀x:Int,B7 [] (first++[Aa x]++cap)=true:=λx=>C6 hc rfl
 conv=>whnf
 refine Ark [0] qi F329 E (.cons (.row E E) (.cons (.refl _) .nil)) (by simp only[B7,hc,uJ];rfl) E E ?_;rcases T4 p l with ⟨h1,h2⟩|⟨i,hi,h1,h2,h3⟩
 .rw[h1];have e1:(l.filter λx=>!(p x))=l:=List.filter_eq_self.2 (λx hx=>by simp[h2 x hx]);rw[e1];refine oT ?_;refine Aqb 0 1000 [0,4] E E y_ (by simp;exact⟨E,E⟩) ?_;exact done E Ap [(0,0),(1,1000)] _ (λ_ h=>h) E E kU
 obtain ⟨f1,f2⟩:=Ae2 (λx=>!(p x)) l i z_ (λk hk rl=>by simp[h3 k hk rl]);have g1:dfC (λx=>!(p x)) l (i+1+0)=l:=by
  show dfC (λx=>!(p x)) l (i+1)=l;simp only[dfC,zR hi];rw[zD (by simp[h2]),f1]
 have g2:I8 (λx=>!(p x)) l (i+1+0)=i:=by
  show I8 (λx=>!(p x)) l (i+1)=i;simp only[I8,zR hi];rw[zD (by simp[h2]),f2]
 rw[h1];refine oF ?_;refine iW ?_;refine A8 (l.length-(i+1)) (λj=>[(0,.osl 0),(1,.clo (.func f) first cap),(5,Aa (I8 (λx=>!(p x)) l (i+1+j))),(6,Aa ((i+1+j:Nat)))]) (λj=>[(0,.row 1 Aa (dfC (λx=>!(p x)) l (i+1+j)))]) []
  ⟨⟨rfl,rfl,Be _,d9,zH Aa (zH Int.ofNat g2),rfl,zH (λz=>SV.val (.int .i64 z)) z_,rfl,trivial⟩,⟨.inl (zH (Ob.row 1 Aa) g1),rfl,trivial⟩,rfl,rfl⟩ ?_
 intro j hj;have gq:=lT (λx=>!(p x)) l (i+1+j);have fh:=Y4 (λx=>!(p x)) l (i+1+j);have a8:=Ari (λx=>!(p x)) l (i+1+j) (i+1+j) (yG _);have s1:∀h:i+1+j<l.length,I8 (λx=>!(p x)) l (i+1+(j+1))=if (!(p l[i+1+j]))=true then I8 (λx=>!(p x)) l (i+1+j)+1 else I8 (λx=>!(p x)) l (i+1+j):=λab=>by
  show I8 (λx=>!(p x)) l (i+1+j+1)=_;simp only[I8,zR ab]
 have s2:∀h:i+1+j<l.length,dfC (λx=>!(p x)) l (i+1+(j+1))=if (!(p l[i+1+j]))=true then (dfC (λx=>!(p x)) l (i+1+j)).set (I8 (λx=>!(p x)) l (i+1+j)) l[i+1+j] else dfC (λx=>!(p x)) l (i+1+j):=λab=>by
  show dfC (λx=>!(p x)) l (i+1+j+1)=_;simp only[dfC,zR ab]
 have gj:=λh=>Ala (λx=>!(p x)) l (i+1+j) h
 obtain ⟨D,hD⟩:∃D,dfC (λx=>!(p x)) l (i+1+j)=D:=⟨_,rfl⟩
 obtain ⟨K,hK⟩:∃K,I8 (λx=>!(p x)) l (i+1+j)=K:=⟨_,rfl⟩
 rw[hD]at fh a8 s2 gj|-;rw[hK]at gq s1 s2 gj|-;refine gH ?_ ?_<;>intro h
 .have ab:i+1+j<l.length:=qA h;have oz:=hf l[i+1+j] (zI ab);have s1:=s1 ab;have s2:=s2 ab;rw[zR ab,zR z_]at a8;have a8:=Option.some.inj a8;obtain ⟨x,hx⟩:=kE (l[i+1+j]);rw[hx]at oz s1 s2 a8;refine oO ?_;refine⟨by omega,by simp;omega,?_⟩
  conv=>whnf
  refine⟨E,by omega,?_⟩;rw[show D[((i+1+j:Nat):Int).toNat]'z_=x from a8]
  conv=>whnf
  refine D4 oz E E E (by simp only[az];rfl) E E ?_;cases uj:p x
  .rw[uj]at s1 s2;refine oT ?_;refine⟨by omega,by simp;omega,?_⟩
   conv=>whnf
   refine⟨E,by omega,x,E,E,?_⟩
   conv=>whnf
   refine iW ?_;refine iW ?_;exact Ax [] z_ ⟨⟨E,E,Be _,d9,zH Aa (zH Int.ofNat s1),E,zH (λz=>SV.val (.int .i64 z)) z_,E,q_⟩,⟨.inl (zH (Ob.row 1 Aa) s2),E,q_⟩,E,E⟩
  .rw[uj]at s1 s2;refine oF ?_;refine iW ?_;exact Ax [] z_ ⟨⟨E,E,Be _,d9,zH Aa (zH Int.ofNat s1),E,zH (λz=>SV.val (.int .i64 z)) z_,E,q_⟩,⟨.inl (zH (Ob.row 1 Aa) s2),E,q_⟩,E,E⟩
 .have jq:i+1+j=l.length:=qB h;have ag:D≠[]:=λh=>by rw[h]at fh;simp at fh;omega
  have gj:=gj z_;rw[show l.take (i+1+j)=l from xD z_]at gj;refine Al3 0 [0] E ag (by simp;rfl) ?_;intro b d5 ji;refine oO ?_;refine Ai (Dm Γ.toTy E E E E (.inr ⟨_,_,E,E⟩) (.inl ⟨E,E⟩) z_ z_) E E (oO ?_);refine Ai (Ol Γ.toTy 0 (k:=K) E E E E y_ E E E z_ z_) E E (oO ?_);refine Ai (Dm Γ.toTy E E E E (.inl ⟨E,E⟩) (.inr ⟨_,_,E,E⟩) z_ z_) E E (oO ?_);refine bX 0 1000 [4] K E E (by rw[zW];omega) (λi hi=>?_) ?_
  .rw[zZ]at hi;subst hi;show SV.val (.slice (some (if d5=0 then ⟨b,0,none⟩ else ⟨b,0*1,none⟩)) (K-0) (d5-0))=_;split<;>simp
  refine done E Ap [(0,0),(1,1000)] _ (λ_ h=>h) E E ⟨q_,⟨.inl E,E,.inl ?_,E,q_⟩,E,E⟩;rw[<-gj];exact zH (Ob.row 1 Aa) (by rw[List.take_take,Nat.min_self])
def Tf(n:Net)(fw:List Bool)(at_ from_:Int)(ml:List Int):SV :=
 .agg [.sl 5 A4 n.devices,.sl 7 Bd n.ports,.sl 3 Co n.links,.sl 6 At n.domains,.sl 4 Bb n.statics,.sl 4 Bm n.floods,.sl 5 Cu n.vrfs,.sl 5 Cr n.irbs,.sl 1 Ab fw,Aa at_,Aa from_,.sl 1 Aa ml]
def A00(n:Net)(fw:List Bool)(p:Int)(h0:0<=p)(hp:p<n.ports.length)(hl:(nth n.ports p).link<fw.length):Sp 307 [Am n,.sl 1 Ab fw,Aa p] (Ab (usableB n fw p)):=cT F307 ntmps307 λF hF=>by
 have hk:p.toNat<n.ports.length:=by omega
 have e1:nth n.ports p=n.ports[p.toNat]:=Ag hk;have hu:=usableB.eq_1 n fw p;generalize usableB n fw p=res at *;rw[e1]at hu hl;obtain ⟨q,hq⟩:=kE (n.ports[p.toNat]'hk);rw[hq]at hu hl
 conv=>whnf
 refine⟨E,h0,hk,?_⟩;rw[hq]
 conv=>whnf
 constructor<;>intro h
 .rw[h,vG]at hu;subst hu;exact gJ
 .rw[h,vY]at hu;have h1:¬q.link<0:=zQ h;have h2:q.link.toNat<fw.length:=by omega
  rw[zR h2]at hu;refine oO ?_;refine⟨E,by omega,h2,?_⟩
  conv=>whnf
  exact Aq E Ap (zH Ab hu) E
def portsC(n:Net)(fw:List Bool)(at_ from_:Int)(ml:List Int)(p:Int)(h0:0<=p)(hp:p<n.ports.length)(hl:(nth n.ports p).link<fw.length):Sp 306 [Aa p,.ref 1 (.ref 12 (Tf n fw at_ from_ ml) 0) 0] (Ab (decide (p=from_)||!(usableB n fw p))):=cT F306 ntmps306 λF hF=>by
 have q:=A00 n fw p h0 hp hl
 conv=>whnf
 constructor<;>intro h
 .have h1:p=from_:=by simpa using h
  refine gM ?_;exact Aq E Ap (zH Ab (by rw[zK h1,vG])) E
 .have h1:¬p=from_:=by simpa using h
  refine oD ?_;refine cD q F307 (gM ?_);exact Aq E Ap (zH Ab (by rw[zL h1,vY])) E
end
end Go.Sy.Zaa
