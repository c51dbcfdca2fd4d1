/- Parts of a proof. -/
import Derived.Test.YtolnneiipmfgaaaGreatDoorYC10
set_option linter.all false
set_option linter.unusedVariables false
set_option linter.unusedSimpArgs false
set_option linter.deprecated false
namespace Go.Sy.YtolnneiipmfgaaaGreatDoor
open Go.Proofs Go.Proofs.Tryz
attribute [local irreducible] Go.Sy.G Go.Sy.DR
set_option maxRecDepth 100000
set_option maxHeartbeats 4000000
def Et(p:PacketM)(v e:Int):List SV:=[Aa p.tos,Aa p.id,Aa p.ttl,Aa p.proto,A9 p.src,A9 p.dst,.sl 1 Ak p.body,Aa v,Aa e]
def Dz(is:Bool)(re e:Int):Int:=if is=true∧re=0 then e else re
def Aaw(p:PacketM)(v re:Int)(is:Bool)(e:Int):Sq 370 [.ptr 0 0,Ab is,Aa e] [(0,.box (Et p v re))] (.tup []) [(0,.box (Et p v (Dz is re e)))]:=cT F370 ntmps370 λF hF=>by
 cases is
 ·have h:Dz false re e=re:=by simp[Dz]
  rw[h]
  ((conv=>whnf);refine aF ?_;refine rg ?_;(conv=>whnf);refine aF ?_;refine rg ?_;conv=>whnf)
  exact A4 E .nil [] [(0,.box (Et p v re))] (λ_ h=>h) E E uU
 ·((conv=>whnf);refine aT ?_;refine rg ?_;conv=>whnf)
  constructor<;>intro h
  ·have h2:Dz true re e=e:=by show (if true=true∧re=0 then e else re)=e;rw[zE ⟨rfl,by simpa using h⟩]
   rw[h2];refine oO ?_;exact A4 E .nil [] [(0,.box (Et p v e))] (λ_ h=>h) E E uU
  ·have h2:Dz true re e=re:=by
    show (if true=true∧re=0 then e else re)=re;rw[zD (λ h3=>by
     have h4:¬re=0:=by simpa using h
     exact h4 h3.2)]
   rw[h2];refine oO ?_;exact A4 E .nil [] [(0,.box (Et p v re))] (λ_ h=>h) E E uU
def A6o(b:List UInt8)(hb:b.length<100000):Sq 337 [.ptr 0 0,.sl 1 Ak b] [(0,.box (Et noP 0 0))] (.tup []) [(0,.box (Et (outerT b).1 0 (outerT b).2))]:=cT F337 ntmps337 λF hF=>by
 have aa:=outerT.eq_1 b;generalize outerT b=res at *;have q1:=Tx b hb;have d9:=@Ax3 b;have ax:=@Aff b;generalize takeF b=tk at *;obtain ⟨f,e⟩:=tk;dsimp only at aa q1 d9 ax
 conv=>whnf
 refine c0 q1 F81 ?_;refine oO ?_;refine Ah (Ad [(0,0)] E F370 (Aaw noP 0 0 true e) E ⟨E,Y⟩ E ⟨.inl E,Y⟩) E E ?_;rw[show Dz true 0 e=e by simp[Dz]];refine oO ?_;refine Ah (Ad [(0,0)] E F370 (Aaw noP 0 e ((f.typ:Int) != 2048) 11) E ⟨E,Y⟩ E ⟨.inl E,Y⟩) E E ?_;by_cases he:e=0;rotate_left
 ·rw[zE he]at aa;subst aa;rw[show Dz ((f.typ:Int) != 2048) e 11=e by simp[Dz,he]];refine oO ?_;refine⟨λh=>yB (show e=0 by simpa using h) he,λ_=>?_⟩;refine oO ?_;exact A4 E .nil [] [(0,.box (Et noP 0 e))] (λ_ h=>h) E E uU
 subst he;rw[zD y_]at aa;by_cases ht:f.typ=2048;rotate_left
 ·rw[zE ht]at aa;subst aa;have dw:((f.typ:Int) != 2048)=true:=by simp;omega
  rw[dw,show Dz true 0 11=11 by simp[Dz]];refine oF ?_;exact A4 E .nil [] [(0,.box (Et noP 0 11))] (λ_ h=>h) E E uU
 rw[zD (λh=>h ht)]at aa;have dw:((f.typ:Int) != 2048)=false:=by simp;omega
 rw[dw,show Dz false 0 11=0 by simp[Dz]];have hfb:=(ax rfl).body;have q2:=Aw2 f.body q_;have wx:=@A8g f.body;generalize ipTakeT f.body=ip at *;obtain ⟨p,e2⟩:=ip;dsimp only at aa q2 wx;refine oT ?_;refine c0 q2 F261 ?_;refine oO ?_;refine Ah (Ad [(0,0)] E F370 (Aaw p 0 0 true e2) E ⟨E,Y⟩ E ⟨.inl E,Y⟩) E E ?_;rw[show Dz true 0 e2=e2 by simp[Dz]];refine oO ?_;refine Ah (Ad [(0,0)] E F370 (Aaw p 0 e2 ((p.proto:Int) != 17) 11) E ⟨E,Y⟩ E ⟨.inl E,Y⟩) E E ?_;have fx:res=(p,Dz ((p.proto:Int) != 17) e2 11):=by
  by_cases h2:e2=0
  ·subst h2;rw[zD y_]at aa;rw[aa];simp only[Dz];by_cases h3:p.proto=17
   ·rw[zD (by simp[h3]),zD (by simp[h3])]
   ·rw[zE h3,zE (by simp;omega)]
  ·rw[zE h2]at aa;rw[aa,wx h2,show Dz ((noP.proto:Int) != 17) e2 11=e2 by simp[Dz,h2]]
 rw[fx];refine oO ?_;exact A4 E .nil [] [(0,.box (Et p 0 (Dz ((p.proto:Int) != 17) e2 11)))] (λ_ h=>h) E E uU
def frameT(p:PacketM)(e:Int):FrameM×Int×Int :=
 if e≠0 then (noF,0,e) else if (udpTakeT p.body).2.2.2≠0 then (noF,0,(udpTakeT p.body).2.2.2) else if (udpTakeT p.body).2.1≠4789 then (noF,0,11)
 else if (vniT (udpTakeT p.body).2.2.1).2.2≠0 then (noF,(vniT (udpTakeT p.body).2.2.1).1,(vniT (udpTakeT p.body).2.2.1).2.2)
 else ((takeF (vniT (udpTakeT p.body).2.2.1).2.1).1,(vniT (udpTakeT p.body).2.2.1).1,
  if (takeF (vniT (udpTakeT p.body).2.2.1).2.1).2≠0 then (takeF (vniT (udpTakeT p.body).2.2.1).2.1).2 else if (takeF (vniT (udpTakeT p.body).2.2.1).2.1).1.typ=33024 then 15 else 0)
def frameS(p:PacketM)(e:Int)(hb:p.body.length<100000):Sq 338 [.ptr 0 0] [(0,.box (Et p 0 e))] (De (frameT p e).1) [(0,.box (Et p (frameT p e).2.1 (frameT p e).2.2))]:=cT F338 ntmps338 λF hF=>by
 have aa:=frameT.eq_1 p e;generalize frameT p e=res at *;have q1:=A1u p.body hb;have sj:=@A5z p.body;generalize udpTakeT p.body=u at *;obtain ⟨u1,u2,u3,u4⟩:=u;dsimp only at aa q1 sj;have q2:=vniS u3 q_;have ft:=@vniT_body u3;generalize vniT u3=w at *;obtain ⟨w1,w2,w3⟩:=w;dsimp only at aa q2 ft;have q3:=Tx w2 q_;have d9:=@Ax3 w2;generalize takeF w2=t at *;obtain ⟨f,t2⟩:=t;dsimp only at aa q3 d9
 conv=>whnf
 constructor<;>intro h
 ·rw[zE (by simpa using h)]at aa;subst aa;refine oO ?_;refine Al 2 zF E vL ?_;exact done E (.cons (.cell E E E E) .nil) [] [(0,.box (Et p 0 e))] (λ_ h=>h) E E uU
 have he:e=0:=by simpa using h
 clear h;subst he;rw[zD y_]at aa;refine oO ?_;refine c0 q1 F371 ?_;refine oO ?_;refine Ah (Ad [(0,0)] E F370 (Aaw p 0 0 true u4) E ⟨E,Y⟩ E ⟨.inl E,Y⟩) E E ?_;rw[show Dz true 0 u4=u4 by simp[Dz]];refine oO ?_;refine Ah (Ad [(0,0)] E F370 (Aaw p 0 u4 (u2 != 4789) 11) E ⟨E,Y⟩ E ⟨.inl E,Y⟩) E E ?_;by_cases h4:u4=0;rotate_left
 ·rw[zE h4]at aa;subst aa;rw[show Dz (u2 != 4789) u4 11=u4 by simp[Dz,h4]];refine oO ?_;refine⟨λh=>yB (show u4=0 by simpa using h) h4,λ_=>?_⟩;refine oO ?_;refine⟨λ_=>?_,λh=>yB (show u4=0 by simpa using h) h4⟩;refine oO ?_;refine Al 2 zF E vL ?_;exact done E (.cons (.cell E E E E) .nil) [] [(0,.box (Et p 0 u4))] (λ_ h=>h) E E uU
 subst h4;rw[zD y_]at aa;by_cases h2:u2=4789;rotate_left
 ·rw[zE h2]at aa;subst aa;rw[show Dz (u2 != 4789) 0 11=11 by simp[Dz,h2]]
  (refine oF ?_;refine bT ?_)
  refine Al 2 zF E vL ?_;exact done E (.cons (.cell E E E E) .nil) [] [(0,.box (Et p 0 11))] (λ_ h=>h) E E uU
 rw[zD (λh=>h h2)]at aa;rw[show Dz (u2 != 4789) 0 11=0 by simp[Dz,h2]];refine oT ?_;refine c0 q2 F372 ?_;refine oO ?_;refine Ah (Ad [(0,0)] E F370 (Aaw p w1 0 true w3) E ⟨E,Y⟩ E ⟨.inl E,Y⟩) E E ?_;rw[show Dz true 0 w3=w3 by simp[Dz]];refine oO ?_;constructor<;>intro h
 ·rw[zE (by simpa using h)]at aa;subst aa;refine oO ?_;refine Al 2 zF E vL ?_;exact done E (.cons (.cell E E E E) .nil) [] [(0,.box (Et p w1 w3))] (λ_ h=>h) E E uU
 have h3:w3=0:=by simpa using h
 clear h;subst h3;rw[zD y_]at aa;refine oO ?_;refine c0 q3 F81 ?_;refine oO ?_;refine Ah (Ad [(0,0)] E F370 (Aaw p w1 0 true t2) E ⟨E,Y⟩ E ⟨.inl E,Y⟩) E E ?_;rw[show Dz true 0 t2=t2 by simp[Dz]];refine oO ?_;refine c0 (Wo f) F153 ?_;refine oO ?_;refine Ah (Ad [(0,0)] E F370 (Aaw p w1 t2 (decide (f.typ=33024)) 15) E ⟨E,Y⟩ E ⟨.inl E,Y⟩) E E ?_;have fx:Dz (decide (f.typ=33024)) t2 15=if t2≠0 then t2 else if f.typ=33024 then 15 else 0:=by
  by_cases k1:t2=0
  ·subst k1;rw[zD y_];by_cases k2:f.typ=33024<;>simp[Dz,k2]
  ·rw[zE k1];simp[Dz,k1]
 rw[←fx]at aa;subst aa;refine oO ?_;exact done E (.cons (.cell E E E E) .nil) [] [(0,.box (Et p w1 (Dz (decide (f.typ=33024)) t2 15)))] (λ_ h=>h) E E uU
def Alm(b:List UInt8):Cn b=if (frameT (outerT b).1 (outerT b).2).2.2≠0 then (0,0,0,noF,(frameT (outerT b).1 (outerT b).2).2.2)
  else ((outerT b).1.src,(outerT b).1.dst,(frameT (outerT b).1 (outerT b).2).2.1,(frameT (outerT b).1 (outerT b).2).1,0):=by
 unfold Cn;generalize outerT b=o;obtain ⟨p,e⟩:=o;dsimp only;by_cases he:e=0;rotate_left
 ·rw[zE he];have h1:frameT p e=(noF,0,e):=by rw[frameT,zE he]
  rw[h1,zE he]
 subst he;rw[zD y_];unfold Me frameT;rw[zD (show ¬(0:Int)≠0 by simp)];generalize udpTakeT p.body=u;obtain ⟨u1,u2,u3,u4⟩:=u;dsimp only;by_cases h4:u4=0;rotate_left
 ·rw[zE h4,zE h4,zE h4];dsimp only;rw[zE h4]
 subst h4;simp only[ne_eq,not_true_eq_false,if_false];by_cases h2:u2=4789;rotate_left
 ·simp[h2]
 simp only[h2,not_true_eq_false,if_false];generalize vniT u3=w;obtain ⟨w1,w2,w3⟩:=w;dsimp only;by_cases h3:w3=0;rotate_left
 ·simp[h3]
 simp only[h3,not_true_eq_false,if_false];generalize takeF w2=t;obtain ⟨f,t2⟩:=t;dsimp only;by_cases k1:t2=0
 ·by_cases k2:f.typ=33024<;>simp[k1,k2]
 ·simp[k1]
def Axt(b:List UInt8)(hb:b.length<100000):Sp 272 [.sl 1 Ak b] (.tup [A9 (Cn b).1,A9 (Cn b).2.1,Aa (Cn b).2.2.1,De (Cn b).2.2.2.1,Aa (Cn b).2.2.2.2]):=cT F272 ntmps272 λF hF=>by
 have aa:=Alm b;generalize Cn b=res at *;have q1:=A6o b hb;have ky:=(Ab9 b).2;generalize outerT b=o at *;obtain ⟨p,e⟩:=o;dsimp only at aa q1 ky;have q2:=frameS p e q_;generalize frameT p e=fr at *;obtain ⟨f,v,e2⟩:=fr;dsimp only at aa q2
 conv=>whnf
 refine Al 9 (Et noP 0 0) E vL ?_;refine oO ?_;refine Ah (Ad [(0,9)] E F337 q1 E ⟨E,Y⟩ E ⟨.inl E,Y⟩) E E ?_;refine oO ?_;refine Ah (Ad [(0,9)] E F338 q2 E ⟨E,Y⟩ E ⟨.inl E,Y⟩) E E ?_;refine oO ?_;constructor<;>intro h
 ·rw[zE (by simpa using h)]at aa;subst aa;refine oO ?_;refine kW ?_;refine Al 5 zF E vL ?_;exact dN
 rw[zD (by simpa using h)]at aa;subst aa;refine oO ?_;refine kW ?_;exact dN
end Go.Sy.YtolnneiipmfgaaaGreatDoor
namespace Go.Sy
structure Meth(P:Program)(t:TypeId)(name:String)(f:FuncId)(pr:Bool)(e:TypeId):Prop where
 row:∃i m,P.info? t=some i∧i.methods.find? (·.name==name)=some m∧m.path=#[]∧m.func=some (f,pr)
 under:P.underlying t=some (.pointer e)
def Afr{P:Program}{t:TypeId}{name:String}{f:FuncId}{e:TypeId}(hm:Meth P t name f true e)(w:World)(v:Value):(Go.method (P.types.size+Made.depth) t v name).run P w=.ok (f,v) w:=by
 obtain ⟨⟨i,m,h1,h2,h3,h4⟩,hu⟩:=hm;show (Go.method (P.types.size+99+1) t v name).run P w=_;rw[Go.method];simp only[Sem.run_bind,run_typeInfo w h1,Result.andThen_ok,h2,h3,Go.follow,Sem.run_pure,h4,Go.receiverAt,run_underlying hu,Go.Place.get]
def Afq{P:Program}{t:TypeId}{name:String}{f:FuncId}{e:TypeId}(hm:Meth P t name f false e)(w:World)(a:Addr){v:Value}(hv:(loadVar e a).run P w=.ok v w):(Go.method (P.types.size+Made.depth) t (.pointer (some a)) name).run P w=.ok (f,v) w:=by
 obtain ⟨⟨i,m,h1,h2,h3,h4⟩,hu⟩:=hm;show (Go.method (P.types.size+99+1) t (.pointer (some a)) name).run P w=_;rw[Go.method];have he:(#[]:Array FieldStep).isEmpty=true:=rfl;simp only[Sem.run_bind,run_typeInfo w h1,Result.andThen_ok,h2,h3,Go.follow,Sem.run_pure,h4,Go.receiverAt,run_underlying hu,Go.Place.get,he,if_true];have hs : ∀n : String, (Builtin.ssaWrapNilChk_ #[t] t #[.pointer (some a), strVal "", strVal n]).run P w = .ok (.pointer (some a)) w := λn=> rfl
 simp only[hs,Result.andThen_ok,asAddr,Sem.run_pure,hv]
def Yb{P:Program}{o:Oper}{s:SS}{rd:List Nat}{f:FuncId}{fn:Func}{c:Code}{t e:TypeId}{name:String}{x:Operand}{xs:List Operand}{ts:Array TypeId}{y:SV}(hm:Meth P t name f true e)(hf:Fun P f fn c)(h:o.op=.call ⟨.invoke x name,xs.toArray,ts⟩)(hx:ev s x=.ifc t y):Ud P o s rd f (y::xs.map (ev s)) :=
 λκ a w hr _=>by
  have h1:=hr x (by simp[h,Op.operands,Call.operands]);rw[hx]at h1;simp only[Rd]at h1;obtain ⟨u,e1,e2⟩:=h1;refine⟨u::xs.map a.eval,?_,?_⟩
  ·have dz:=Mr hf (u::xs.map a.eval).toArray w;have pn:=Afr hm w u;simp only[execOp,h,resolve,invoke,e1,Sem.run_bind,Sem.run_pure,Result.andThen_ok]at dz⊢;simp only[callMethod];rw[←dz];have gw:(xs.map a.eval).take xs.length=xs.map a.eval:=xG y_;simp[pn,Sem.run_bind,gw]
  ·simp only[RdL];exact⟨_,_,E,e2,Qp xs (λy hy=>hr y (by simp[h,Op.operands,Call.operands,hy]))⟩
def Bz{P:Program}(Γ:Ty P){o:Oper}{s:SS}{f:FuncId}{fn:Func}{c:Code}{t e:TypeId}{ti:TI}{name:String}{x:Operand}{xs:List Operand}{ts:Array TypeId}{k off:Nat}{l:List SV}{z:SV}(hm:Meth P t name f false e)(hf:Fun P f fn c)(h:o.op=.call ⟨.invoke x name,xs.toArray,ts⟩)(hx:ev s x=.ifc t (.ptr k off))(hk:s.h k=.box l)(ht:Γ.get e=some ti)(hz:Oo ti l off=some z):Ud P o s [k] f (z::xs.map (ev s)) :=
 λκ a w hr ho=>by
  have h1:=hr x (by simp[h,Op.operands,Call.operands]);rw[hx]at h1;simp only[Rd]at h1;obtain ⟨u,e1,e2⟩:=h1;have cn:=ho k y_;rw[hk]at cn;obtain ⟨b,f1,f2⟩:=cn.cellsAt;rw[f1]at e2;simp only at e2;subst e2;obtain ⟨v,g1,g2⟩:=M8 (P:=P) Γ ht f2 hz;rw[wH]at g1;refine⟨v::xs.map a.eval,?_,?_⟩
  ·have dz:=Mr hf (v::xs.map a.eval).toArray w;have pn:=Afq hm w ⟨b,off,none⟩ g1;simp only[execOp,h,resolve,invoke,e1,Sem.run_bind,Sem.run_pure,Result.andThen_ok]at dz⊢;simp only[callMethod];rw[←dz];have gw:(xs.map a.eval).take xs.length=xs.map a.eval:=xG y_;simp[pn,Sem.run_bind,gw]
  ·simp only[RdL];exact⟨_,_,E,g2,Qp xs (λy hy=>hr y (by simp[h,Op.operands,Call.operands,hy]))⟩
def Adv{P:Program}(Γ:Ty P){o:Oper}{s:SS}{x:Operand}{xt t:TypeId}{ti:TI}{y:SV}{ok:Bool}(h:o.op=.typeAssert x xt t ok)(hx:ev s x=.ifc t y)(ht:Γ.get t=some ti)(hk:ti.k matches .bool| .int _| .string| .slice .. | .struct _| .ptr| .func):Good P o s ⟨if ok then .tup [y,Ab true] else y,[],[]⟩ :=
 Good.pure λκ a w _ hr _=>by
  have h1:=hr x (by simp[h,Op.operands]);rw[hx]at h1;simp only[Rd]at h1;obtain ⟨u,e1,e2⟩:=h1;obtain ⟨d,info,z,k1,k2,_⟩:=Γ.ok t ti ht;have hni:∀ms,d≠.interface ms:=by
   obtain ⟨k,n,zz⟩:=ti;intro ms hd;subst hd;cases k<;>simp_all[TK.ok]
  have au:(Instr.typeAssert (.iface t u) xt t ok).run P w=.ok (if ok then .tuple #[u,.bool true] else u) w:=by
   cases d<;>first
    |exact yB rfl (hni _)
    |(cases ok<;>simp[Instr.typeAssert,run_underlying k1])
  refine⟨if ok then .tuple #[u,.bool true] else u,by simp[execOp,h,e1,au],?_⟩;cases ok
  ·exact e2
  ·simp only[if_true,Rd,RdL];exact⟨[u,.bool true],E,_,_,E,e2,_,_,E,by simp[Ab,Rd],E⟩
def A8e(P:Program)(t:TypeId)(name:String)(f:FuncId)(pr:Bool):Bool :=
 match P.info? t with
 | some i=>(match i.methods.find? (·.name == name) with
  |some m=>m.path.isEmpty&&(match m.func with|some (g,b)=>Nat.beq g f&&(b==pr)|none=>false)
  | none=>false)
 |none=>false
theorem Meth.of{P:Program}{t:TypeId}{name:String}{f:FuncId}{pr:Bool}{e:TypeId}(h:A8e P t name f pr=true)(hu:P.underlying t=some (.pointer e)):Meth P t name f pr e:=by
 refine⟨?_,hu⟩;unfold A8e at h;split at h
 ·rename_i i hi;split at h
  ·rename_i m hm;simp only[zG]at h;obtain ⟨h1,h2⟩:=h;split at h2
   ·rename_i g b hf;simp only[zG,yI]at h2;obtain ⟨h3,rfl⟩:=h2;have h3:=yJ h3;subst h3;exact⟨i,m,hi,hm,by simpa using h1,hf⟩
   ·cases h2
  ·cases h
 ·cases h
end Go.Sy
namespace Go.Sy.YtolnneiipmfgaaaGreatDoor
open Go.Proofs Go.Proofs.Tryz
attribute [local irreducible] Go.Sy.G Go.Sy.DR
set_option maxRecDepth 20000
set_option maxHeartbeats 4000000
structure Item where
 (root cost dev:Int)
instance:Inhabited Item:=⟨⟨0,0,0⟩⟩
def B3(x:Item):SV:=.agg [Aa x.root,Aa x.cost,Aa x.dev]
def Cr(x y:Item):Bool:=decide (x.root<y.root)||(x.root==y.root&&decide (x.cost<y.cost))
def Ab5(q:List Item):Sp 251 [.sl 3 B3 q] (Aa q.length):=cT F251 ntmps251 λF hF=>by
 conv=>whnf
 exact dN
def Of(q:List Item)(i j:Nat)(hi:i<q.length)(hj:j<q.length):Sp 410 [.sl 3 B3 q,Aa i,Aa j] (Ab (Cr q[i] q[j])):=cT F410 ntmps410 λF hF=>by
 have e1:q[(i:Int).toNat]'q_=q[i]:=rfl;have e2:q[(j:Int).toNat]'q_=q[j]:=rfl
 conv=>whnf
 (repeat' (first|(refine⟨λh=>?_,λh=>?_⟩<;>(repeat (first|simp only[zK]at h|simp only[yE]at h|simp only[yI]at h|simp only[zR]at h))<;>((refine rd z_ ?_);(conv=>whnf)))|(refine As rfl (.cons .tmp .nil) ?_ rfl)|(refine⟨z_,?_⟩;((conv=>whnf)))|(refine⟨by (omega),by (omega),?_⟩;((conv=>whnf)))))
 all_goals (refine zH Ab ?_;clear hF;grind [Cr])
def Oe(q:List Item)(i j:Nat)(hi:i<q.length)(hj:j<q.length):Sq 413 [.osl 0,Aa i,Aa j] [(0,.row 3 B3 q)] (.tup []) [(0,.row 3 B3 ((q.set i q[j]).set j q[i]))]:=cT F413 ntmps413 λF hF=>by
 have e1:q[(i:Int).toNat]'q_=q[i]:=rfl;have e2:q[(j:Int).toNat]'q_=q[j]:=rfl
 conv=>whnf
 refine⟨by omega,by omega,?_⟩
 conv=>whnf
 refine⟨E,by omega,?_⟩;rw[e2]
 conv=>whnf
 refine⟨by omega,by omega,?_⟩
 conv=>whnf
 refine⟨E,by omega,?_⟩;rw[e1]
 conv=>whnf
 refine⟨by omega,by omega,?_⟩
 conv=>whnf
 refine⟨E,by omega,q[j],E,E,?_⟩
 conv=>whnf
 refine⟨by omega,by simp;omega,?_⟩
 conv=>whnf
 refine⟨E,by simp;omega,q[i],E,E,?_⟩
 conv=>whnf
 refine kW ?_;exact A4 E .nil [] [(0,.row 3 B3 ((q.set i q[j]).set j q[i]))] (λ_ h=>h) E E uU
def Atj(q:List Item)(x:Item)(hq:q.length<1000000):Sq 412 [.ptr 0 0,.ifc 382 (B3 x)] [(0,.box [.osl 1]),(1,.row 3 B3 q)] (.tup []) [(0,.box [.osl 2]),(1,.non),(2,.row 3 B3 (q++[x]))]:=cT F412 ntmps412 λF hF=>by
 conv=>whnf
 refine Ah (Adv Γ.toTy E E E E) E E ?_;refine oT ?_;refine Bv (Ag Γ.toTy 18 E E E E E (.row E) (.lit (l:=[x]) E E) y_ (by simp;omega) (by simp;omega)) z_ E ?_;refine gH ?_;exact A4 E .nil [(2,18)] [(0,.box [.osl 2]),(1,.non),(2,.row 3 B3 (q++[x]))] (λ_ h=>h) E E uU
def Ay2(q:List Item)(hq:q≠[])(hl:q.length<1000000):Sq 411 [.ptr 0 0] [(0,.box [.osl 1]),(1,.row 3 B3 q)] (.ifc 382 (B3 (q.getLast hq))) [(0,.box [.osl 2]),(1,.non),(2,.row 3 B3 q.dropLast)]:=cT F411 ntmps411 λF hF=>by
 have h0:0<q.length:=xV.2 hq;have e1:q[((q.length:Int)-1).toNat]'q_=q.getLast hq:=by
  rw[List.getLast_eq_getElem];congr 1;omega
 conv=>whnf
 refine iW ?_;refine⟨by omega,by omega,?_⟩
 conv=>whnf
 refine⟨E,by omega,?_⟩;rw[e1]
 conv=>whnf
 refine kW ?_;refine iW ?_;refine Bv (Ag5 Γ.toTy (d:=23) (hi:=q.length-1) E E E E E j_ E (.inl ⟨E,E⟩) (.inr ⟨_,_,E,zH (λz=>SV.val (.int .i64 z)) q_⟩) q_) z_ E ?_;rw[←List.dropLast_eq_take];refine gH ?_;exact done E (.cons .tmp .nil) [(2,23)] [(0,.box [.osl 2]),(1,.non),(2,.row 3 B3 q.dropLast)] (λ_ h=>h) E E uU
set_option maxRecDepth 100000
def mLen : Meth prog 377 "Len" 251 false 379 := .of (by kernel_rfl) Tryz.underlying377
def Apu : Meth prog 377 "Less" 410 false 379 := .of (by kernel_rfl) Tryz.underlying377
def Apt : Meth prog 377 "Swap" 413 false 379 := .of (by kernel_rfl) Tryz.underlying377
def mPush : Meth prog 377 "Push" 412 true 379 := .of (by kernel_rfl) Tryz.underlying377
def mPop : Meth prog 377 "Pop" 411 true 379 := .of (by kernel_rfl) Tryz.underlying377
def Hj(q:List Item)(i j:Nat):List Item:=(q.set i (q.getD j default)).set j (q.getD i default)
def Be(q:List Item)(i j:Nat):(Hj q i j).length=q.length:=by simp[Hj]
def upF:Nat→List Item→Nat→List Item
 |0,q,_=>q
 |n+1,q,j=>if j=0 then q else if Cr (q.getD j default) (q.getD ((j-1)/2) default) then upF n (Hj q ((j-1)/2) j) ((j-1)/2) else q
def An8:∀(n m:Nat) (q:List Item) (j:Nat),j≤n→j≤m→upF n q j=upF m q j
 |0,m,q,j,h,_=>by
  have:j=0:=by omega
  subst this;cases m<;>simp[upF]
 |n+1,0,q,j,_,h=>by
  have:j=0:=by omega
  subst this;simp[upF]
 |n+1,m+1,q,j,h1,h2=>by
  rw[upF,upF];split
  ·rfl
  ·split
   ·exact An8 n m _ _ q_ q_
   ·rfl
def A1s(r:List Item):∀(i:Nat),i≠0→upF i r i=if Cr (r.getD i default) (r.getD ((i-1)/2) default) then upF ((i-1)/2) (Hj r ((i-1)/2) i) ((i-1)/2) else r
 |0,h=>yB rfl h
 |m+1,_=>by
  rw[upF,zD q_];split
  ·exact An8 _ _ _ _ q_ q_
  ·rfl
def upS(q:List Item)(j:Nat)(hj:j<q.length)(hl:q.length<1000000):Sq 314 [.ifc 377 (.ptr 0 0),Aa j] [(0,.box [.osl 1]),(1,.row 3 B3 q)] (.tup []) [(0,.box [.osl 1]),(1,.row 3 B3 (upF j q j))]:=cT F314 ntmps314 λF hF=>by
 conv=>whnf
 refine Wl (α:={p:List Item×Nat // upF p.2 p.1 p.2=upF j q j∧p.1.length=q.length∧p.2<p.1.length}) (λp=>[(0,.ifc 377 (.ptr 0 0)),(1,Aa p.1.2)]) (λp=>[(0,.box [.osl 1]),(1,.row 3 B3 p.1.1)]) (λp=>p.1.2) ⟨(q,j),E,E,hj⟩ []
  uU ?_
 rintro ⟨⟨r,i⟩,h1,h2,h3⟩;simp only at h1 h2 h3;dsimp only;have hw:IntKind.i64.wrap (((i:Int)-1).tdiv 2)=(((i-1)/2:Nat):Int):=by
  rcases uK i with h0|h0
  ·subst h0;rfl
  ·have:((i:Int)-1)=((i-1:Nat):Int):=by omega
   rw[this,uC q_,IntKind.wrap_i64];omega
 refine gE ?_;refine⟨by decide,?_⟩;rw[hw]
 conv=>whnf
 constructor<;>intro h
 ·have h0:i=0:=by
   have:(((i-1)/2:Nat):Int)=i:=by simpa using h
   omega
  subst h0;have e:upF j q j=r:=by rw[←h1];rfl
  rw[e];refine oT ?_;exact A4 E .nil [] [(0,.box [.osl 1]),(1,.row 3 B3 r)] (λ_ h=>h) E E uU
 have h0:i≠0:=by
  intro h0;subst h0;exact yB h j_
 have hp:(i-1)/2<r.length:=by omega
 have xw:=Of r i ((i-1)/2) h3 hp;refine oO ?_;refine Ah (Ho [1] (Bz Γ.toTy Apu F410 E E E E E) xw (.cons (.row E E) (.cons (.refl _) (.cons (.refl _) .nil))) E E) E E ?_;refine oO ?_;have hu:upF i r i=if Cr r[i] r[(i-1)/2] then upF ((i-1)/2) (Hj r ((i-1)/2) i) ((i-1)/2) else r:=by
  rw[A1s r i h0,Bn h3,Bn hp]
 constructor<;>intro h
 ·have ab:Cr r[i] r[(i-1)/2]=false:=by simpa using h
  have e:upF j q j=r:=by rw[←h1,hu,ab];rfl
  rw[e];refine oO ?_;exact A4 E .nil [] [(0,.box [.osl 1]),(1,.row 3 B3 r)] (λ_ h=>h) E E uU
 have ab:Cr r[i] r[(i-1)/2]=true:=by simpa using h
 rw[ab,zE rfl]at hu;have my:=Oe r ((i-1)/2) i hp h3;have e:(r.set ((i-1)/2) r[i]).set i r[(i-1)/2]=Hj r ((i-1)/2) i:=by
  rw[Hj,Bn h3,Bn hp]
 rw[e]at my;refine oO ?_;refine Ah (Au [(0,1)] (Bz Γ.toTy Apt F413 E E E E E) my E ⟨E,Y⟩ E ⟨.inl E,Y⟩) E E ?_;refine oO ?_;exact Ye (α:={p:List Item×Nat // upF p.2 p.1 p.2=upF j q j∧p.1.length=q.length∧p.2<p.1.length}) (L:=λp=>[(0,.ifc 377 (.ptr 0 0)),(1,Aa p.1.2)]) (O:=λp=>[(0,.box [.osl 1]),(1,.row 3 B3 p.1.1)]) (μ:=λp=>p.1.2) (x:=⟨(r,i),h1,h2,h3⟩)
  ⟨(Hj r ((i-1)/2) i,(i-1)/2),by rw[←h1,hu],by rw[Be];exact h2,by rw[Be];exact hp⟩ [] (by simp only;omega)
  uU
def Afa:∀(n:Nat) (q:List Item) (j:Nat),(upF n q j).length=q.length
 |0,q,j=>rfl
 |n+1,q,j=>by
  rw[upF];split
  ·rfl
  ·split
   ·rw[Afa n,Be]
   ·rfl
def Xv(q:List Item)(x:Item):List Item:=upF q.length (q++[x]) q.length
def Akj(q:List Item)(x:Item)(hl:q.length<999999):Sq 250 [.ifc 377 (.ptr 0 0),.ifc 382 (B3 x)] [(0,.box [.osl 1]),(1,.row 3 B3 q)] (.tup []) [(0,.box [.osl 2]),(1,.non),(2,.row 3 B3 (Xv q x))]:=cT F250 ntmps250 λF hF=>by
 have je:=Atj q x q_;have hlen:=Ab5 (q++[x]);have nn:=upS (q++[x]) q.length y_ (by simp;omega);have z8:(((q++[x]).length:Nat):Int)-1=(q.length:Int):=by simp
 conv=>whnf
 refine Ah (Au (rd:=[]) [(2,6)] (Yb mPush F412 E E) je E ⟨E,E,Y⟩ E ⟨.inl E,.inl E,.inr E,Y⟩) E E ?_;refine oO ?_;refine Ah (Ho [6] (Bz Γ.toTy mLen F251 E E E E E) hlen (.cons (.row E E) .nil) E E) E E ?_;refine oO ?_;refine⟨by unfold I64;simp;omega,?_⟩;rw[z8]
 conv=>whnf
 refine Ah (Ad [(1,6)] E F314 nn E ⟨E,E,Y⟩ E ⟨.inl E,.inl E,Y⟩) E E ?_;refine oO ?_;exact A4 E .nil [(2,6)] [(0,.box [.osl 2]),(1,.non),(2,.row 3 B3 (Xv q x))] (λ_ h=>h) E E uU
def Ha(q:List Item)(i n:Nat):Nat:=if 2*i+2<n∧Cr (q.getD (2*i+2) default) (q.getD (2*i+1) default)=true then 2*i+2 else 2*i+1
def Sv(q:List Item)(i n:Nat)(h:2*i+1<n):Ha q i n<n∧i<Ha q i n:=by
 unfold Ha;split<;>omega
def Hd:Nat→List Item→Nat→Nat→List Item×Nat
 |0,q,i,_=>(q,i)
 |f+1,q,i,n=>if 2*i+1<n then (if Cr (q.getD (Ha q i n) default) (q.getD i default) then Hd f (Hj q i (Ha q i n)) (Ha q i n) n else (q,i)) else (q,i)
def Y5:∀(f g:Nat) (q:List Item) (i n:Nat),n≤f+i→n≤g+i→Hd f q i n=Hd g q i n
 |0,g,q,i,n,h1,h2=>by
  cases g with
  |zero=>rfl
  |succ g=>rw[Hd,Hd,zD q_]
 |f+1,0,q,i,n,h1,h2=>by rw[Hd,Hd,zD q_]
 |f+1,g+1,q,i,n,h1,h2=>by
  rw[Hd,Hd];split
  ·rename_i h;have:=Sv q i n h;split
   ·exact Y5 f g _ _ n q_ q_
   ·rfl
  ·rfl
def Avg(r:List Item)(i n:Nat):Hd (n-i) r i n=if 2*i+1<n then (if Cr (r.getD (Ha r i n) default) (r.getD i default) then Hd (n-Ha r i n) (Hj r i (Ha r i n)) (Ha r i n) n else (r,i)) else (r,i):=by
 rw[Y5 (n-i) (n-i+1) r i n q_ q_,Hd];split
 ·rename_i h;have:=Sv r i n h;split
  ·exact Y5 _ _ _ _ _ q_ q_
  ·rfl
 ·rfl
def Aa0:∀(f:Nat) (q:List Item) (i n:Nat),(Hd f q i n).1.length=q.length
 |0,_,_,_=>rfl
 |f+1,q,i,n=>by
  rw[Hd];split
  ·split
   ·rw[Aa0 f,Be]
   ·rfl
  ·rfl
def downS(q:List Item)(i0 n:Nat)(hn:n≤q.length)(hi:i0<q.length)(hl:q.length<1000000):Sq 315 [.ifc 377 (.ptr 0 0),Aa i0,Aa n] [(0,.box [.osl 1]),(1,.row 3 B3 q)] (Ab (decide (((Hd (n-i0) q i0 n).2:Int)>i0))) [(0,.box [.osl 1]),(1,.row 3 B3 (Hd (n-i0) q i0 n).1)]:=cT F315 ntmps315 λF hF=>by
 generalize hD:Hd (n-i0) q i0 n=D
 conv=>whnf
 refine Wl (α:={p:List Item×Nat // Hd (n-p.2) p.1 p.2 n=D∧p.1.length=q.length∧p.2<p.1.length}) (λp=>[(0,.ifc 377 (.ptr 0 0)),(1,Aa i0),(2,Aa n),(7,Aa p.1.2)]) (λp=>[(0,.box [.osl 1]),(1,.row 3 B3 p.1.1)]) (λp=>n-p.1.2) ⟨(q,i0),hD,E,hi⟩ []
  uU ?_
 rintro ⟨⟨r,i⟩,h1,h2,h3⟩;simp only at h1 h2 h3;dsimp only;have j7:=h1;rw[Avg]at h1;have lu:(2:Int)*i+1=((2*i+1:Nat):Int):=by omega
 have an:((2*i+1:Nat):Int)+1=((2*i+2:Nat):Int):=by omega
 refine gE ?_;refine iL ?_;rw[lu]
 conv=>whnf
 constructor<;>intro h
 ·have ww:¬2*i+1<n:=qA h;rw[zD ww]at h1;rw[←h1];refine oT ?_;exact done E (.cons .tmp .nil) [] [(0,.box [.osl 1]),(1,.row 3 B3 r)] (λ_ h=>h) E E uU
 have ab:2*i+1<n:=qB h;rw[zE ab]at h1;refine oF ?_;refine iL ?_;rw[an]
 conv=>whnf
 constructor<;>intro h
 ·have h2n:2*i+2<n:=qA h;have hA:2*i+2<r.length:=by omega
  have hB:2*i+1<r.length:=by omega
  have hlc:=Of r (2*i+2) (2*i+1) hA hB;refine oO ?_;refine Ah (Ho [1] (Bz Γ.toTy Apu F410 E E E E E) hlc (.cons (.row E E) (.cons (.refl _) (.cons (.refl _) .nil))) E E) E E ?_;refine oO ?_;constructor<;>intro h
  ·have hc:Ha r i n=2*i+2:=by rw[Ha,zE ⟨h2n,by rw[Bn hA,Bn hB];exact h⟩]
   have hJ:=hA;refine oO ?_;rw[hc,Bn hJ,Bn h3]at h1;have j5:=Of r (2*i+2) i hJ h3;refine Ah (Ho [1] (Bz Γ.toTy Apu F410 E E E E E) j5 (.cons (.row E E) (.cons (.refl _) (.cons (.refl _) .nil))) E E) E E ?_;refine oO ?_;constructor<;>intro h
   ·have hf:Cr r[2*i+2] r[i]=false:=by simpa using h
    rw[hf]at h1;have e:D=(r,i):=h1.symm;rw[e];refine oO ?_;exact done E (.cons .tmp .nil) [] [(0,.box [.osl 1]),(1,.row 3 B3 r)] (λ_ h=>h) E E uU
   have hf:Cr r[2*i+2] r[i]=true:=by simpa using h
   rw[hf,zE rfl]at h1;have my:=Oe r i (2*i+2) h3 hJ;have e:(r.set i r[2*i+2]).set (2*i+2) r[i]=Hj r i (2*i+2):=by
    rw[Hj,Bn h3,Bn hJ]
   rw[e]at my;refine oO ?_;refine Ah (Au [(0,1)] (Bz Γ.toTy Apt F413 E E E E E) my E ⟨E,Y⟩ E ⟨.inl E,Y⟩) E E ?_;refine oO ?_;exact Ye (α:={p:List Item×Nat // Hd (n-p.2) p.1 p.2 n=D∧p.1.length=q.length∧p.2<p.1.length}) (L:=λp=>[(0,.ifc 377 (.ptr 0 0)),(1,Aa i0),(2,Aa n),(7,Aa p.1.2)]) (O:=λp=>[(0,.box [.osl 1]),(1,.row 3 B3 p.1.1)]) (μ:=λp=>n-p.1.2) (x:=⟨(r,i),j7,h2,h3⟩)
    ⟨(Hj r i (2*i+2),2*i+2),h1,by rw[Be];exact h2,by rw[Be];exact hJ⟩ [] (by simp only;omega)
    uU
  ·have hc:Ha r i n=2*i+1:=by rw[Ha,zD (λhh=>by rw[Bn hA,Bn hB,h]at hh;exact yB hh.2 y_)]
   have hJ:=hB;refine oO ?_;rw[hc,Bn hJ,Bn h3]at h1;have j5:=Of r (2*i+1) i hJ h3;refine Ah (Ho [1] (Bz Γ.toTy Apu F410 E E E E E) j5 (.cons (.row E E) (.cons (.refl _) (.cons (.refl _) .nil))) E E) E E ?_;refine oO ?_;constructor<;>intro h
   ·have hf:Cr r[2*i+1] r[i]=false:=by simpa using h
    rw[hf]at h1;have e:D=(r,i):=h1.symm;rw[e];refine oO ?_;exact done E (.cons .tmp .nil) [] [(0,.box [.osl 1]),(1,.row 3 B3 r)] (λ_ h=>h) E E uU
   have hf:Cr r[2*i+1] r[i]=true:=by simpa using h
   rw[hf,zE rfl]at h1;have my:=Oe r i (2*i+1) h3 hJ;have e:(r.set i r[2*i+1]).set (2*i+1) r[i]=Hj r i (2*i+1):=by
    rw[Hj,Bn h3,Bn hJ]
   rw[e]at my;refine oO ?_;refine Ah (Au [(0,1)] (Bz Γ.toTy Apt F413 E E E E E) my E ⟨E,Y⟩ E ⟨.inl E,Y⟩) E E ?_;refine oO ?_;exact Ye (α:={p:List Item×Nat // Hd (n-p.2) p.1 p.2 n=D∧p.1.length=q.length∧p.2<p.1.length}) (L:=λp=>[(0,.ifc 377 (.ptr 0 0)),(1,Aa i0),(2,Aa n),(7,Aa p.1.2)]) (O:=λp=>[(0,.box [.osl 1]),(1,.row 3 B3 p.1.1)]) (μ:=λp=>n-p.1.2) (x:=⟨(r,i),j7,h2,h3⟩)
    ⟨(Hj r i (2*i+1),2*i+1),h1,by rw[Be];exact h2,by rw[Be];exact hJ⟩ [] (by simp only;omega)
    uU
 ·have h2n:¬2*i+2<n:=qB h;have hJ:2*i+1<r.length:=by omega
  have hc:Ha r i n=2*i+1:=by rw[Ha,zD (λhh=>h2n hh.1)]
  refine oF ?_;rw[hc,Bn hJ,Bn h3]at h1;have j5:=Of r (2*i+1) i hJ h3;refine Ah (Ho [1] (Bz Γ.toTy Apu F410 E E E E E) j5 (.cons (.row E E) (.cons (.refl _) (.cons (.refl _) .nil))) E E) E E ?_;refine oO ?_;constructor<;>intro h
  ·have hf:Cr r[2*i+1] r[i]=false:=by simpa using h
   rw[hf]at h1;have e:D=(r,i):=h1.symm;rw[e];refine oO ?_;exact done E (.cons .tmp .nil) [] [(0,.box [.osl 1]),(1,.row 3 B3 r)] (λ_ h=>h) E E uU
  have hf:Cr r[2*i+1] r[i]=true:=by simpa using h
  rw[hf,zE rfl]at h1;have my:=Oe r i (2*i+1) h3 hJ;have e:(r.set i r[2*i+1]).set (2*i+1) r[i]=Hj r i (2*i+1):=by
   rw[Hj,Bn h3,Bn hJ]
  rw[e]at my;refine oO ?_;refine Ah (Au [(0,1)] (Bz Γ.toTy Apt F413 E E E E E) my E ⟨E,Y⟩ E ⟨.inl E,Y⟩) E E ?_;refine oO ?_;exact Ye (α:={p:List Item×Nat // Hd (n-p.2) p.1 p.2 n=D∧p.1.length=q.length∧p.2<p.1.length}) (L:=λp=>[(0,.ifc 377 (.ptr 0 0)),(1,Aa i0),(2,Aa n),(7,Aa p.1.2)]) (O:=λp=>[(0,.box [.osl 1]),(1,.row 3 B3 p.1.1)]) (μ:=λp=>n-p.1.2) (x:=⟨(r,i),j7,h2,h3⟩)
   ⟨(Hj r i (2*i+1),2*i+1),h1,by rw[Be];exact h2,by rw[Be];exact hJ⟩ [] (by simp only;omega)
   uU
def Ec(q:List Item):List Item:=(Hd (q.length-1-0) (Hj q 0 (q.length-1)) 0 (q.length-1)).1
def Hn(q:List Item):(Ec q).length=q.length:=by rw[Ec,Aa0,Be]
def Hg{q:List Item}(h:q≠[]):Ec q≠[]:=λe=>h (zX (by rw[←Hn,e];rfl))
def A4m(q:List Item)(hq:q≠[])(hl:q.length<1000000):Sq 252 [.ifc 377 (.ptr 0 0)] [(0,.box [.osl 1]),(1,.row 3 B3 q)] (.ifc 382 (B3 ((Ec q).getLast (Hg hq)))) [(0,.box [.osl 2]),(1,.non),(2,.row 3 B3 (Ec q).dropLast)]:=cT F252 ntmps252 λF hF=>by
 have h0:0<q.length:=xV.2 hq;have hlen:=Ab5 q;have my:=Oe q 0 (q.length-1) h0 q_;have e:(q.set 0 q[q.length-1]).set (q.length-1) q[0]=Hj q 0 (q.length-1):=by
  rw[Hj,Bn (show q.length-1<q.length by omega),Bn h0]
 rw[e]at my;have wu:=downS (Hj q 0 (q.length-1)) 0 (q.length-1) (by rw[Be];omega) (by rw[Be];exact h0) (by rw[Be];exact hl);have uy:=Ay2 (Ec q) (Hg hq) (by rw[Hn];exact hl);have z8:(q.length:Int)-1=((q.length-1:Nat):Int):=by omega
 conv=>whnf
 refine Ah (Ho [1] (Bz Γ.toTy mLen F251 E E E E E) hlen (.cons (.row E E) .nil) E E) E E ?_;refine oO ?_;refine iL ?_;rw[z8]
 conv=>whnf
 refine Ah (Au [(0,1)] (Bz Γ.toTy Apt F413 E E E E E) my E ⟨E,Y⟩ E ⟨.inl E,Y⟩) E E ?_;refine oO ?_;refine Ah (Ad [] E F315 wu E ⟨E,E,Y⟩ E ⟨.inl E,.inl E,Y⟩) E E ?_;refine oO ?_;refine Ah (Au (rd:=[]) [(2,14)] (Yb mPop F411 E E) uy E ⟨E,E,Y⟩ E ⟨.inl E,.inl E,.inr E,Y⟩) E E ?_;refine oO ?_;exact done E (.cons .tmp .nil) [(2,14)] [(0,.box [.osl 2]),(1,.non),(2,.row 3 B3 (Ec q).dropLast)] (λ_ h=>h) E E uU
set_option maxRecDepth 20000
def Dv:Vec→List Vec→Vec
 |v,[]=>v
 |v,x::l=>Dv (if Hc x v then x else v) l
def A79:Vec:=⟨0,0,0,0,0⟩
def Jz:List Vec→Vec×Bool
 |[]=>(A79,false)
 |v::l=>(Dv v (v::l),true)
def Ap4(a:Vec):Hc a a=false:=by simp[Hc]
def Aud{a b:Vec}(h:a≠b):Hc a b=true∨Hc b a=true:=by
 obtain ⟨a1,a2,a3,a4,a5⟩:=a;obtain ⟨b1,b2,b3,b4,b5⟩:=b;simp only[ne_eq,Vec.mk.injEq]at h;simp only[Hc]
 grind
def Agm{a b c:Vec}(h1:Hc a b=true)(h2:Hc b c=true):Hc a c=true:=by
 obtain ⟨a1,a2,a3,a4,a5⟩:=a;obtain ⟨b1,b2,b3,b4,b5⟩:=b;obtain ⟨c1,c2,c3,c4,c5⟩:=c;simp only[Hc]at *
 grind
def Ago:∀(v:Vec) (l:List Vec),Dv v l=v∨Dv v l∈l
 |v,[]=>.inl rfl
 |v,x::l=>by
  rw[Dv];rcases Ago (if Hc x v then x else v) l with h|h
  ·rw[h];split
   ·exact .inr y_
   ·exact .inl E
  ·exact .inr (by simp[h])
def Aj8:∀(v:Vec) (l:List Vec),Hc v (Dv v l)=false∧∀x∈l,Hc x (Dv v l)=false
 |v,[]=>⟨Ap4 v,by simp⟩
 |v,x::l=>by
  rw[Dv];obtain ⟨h1,h2⟩:=Aj8 (if Hc x v then x else v) l;have key:Hc v (Dv (if Hc x v then x else v) l)=false∧Hc x (Dv (if Hc x v then x else v) l)=false:=by
   generalize Dv (if Hc x v then x else v) l=m at *;cases hx:Hc x v with
   |true=>
    rw[hx]at h1;simp only[if_true]at h1;refine⟨?_,h1⟩;cases hv:Hc v m with
    |false=>rfl
    |true=>rw[Agm hx hv]at h1;cases h1
   |false=>
    rw[hx]at h1;simp only[uM,if_false]at h1;refine⟨h1,?_⟩;cases hv:Hc x m with
    |false=>rfl
    |true=>
     by_cases hxv:x=v
     ·subst hxv;rw[hv]at h1;cases h1
     ·rcases Aud hxv with h3|h3
      ·rw[hx]at h3;cases h3
      ·rw[Agm h3 hv]at h1;cases h1
  refine⟨key.1,λy hy=>?_⟩;rcases yH.1 hy with rfl|hy
  ·exact key.2
  ·exact h2 y hy
def Ap6(v:Vec)(l:List Vec)(j:Nat)(h:j<l.length):Dv v (l.take (j+1))=(if Hc l[j] (Dv v (l.take j)) then l[j] else Dv v (l.take j)):=by
 have key:∀(a b:List Vec) (v:Vec),Dv v (a++b)=Dv (Dv v a) b:=by
  intro a
  induction a with
  |nil=>intro b v;rfl
  |cons x a ih=>intro b v;rw[xY,Dv,Dv,ih]
 rw[yC h,key];rfl
def leastS(l:List Vec)(hl:Am l):Sp 253 [.sl 5 Uw l] (.tup [Uw (Jz l).1,Ab (Jz l).2]):=cT F253 ntmps253 λF hF=>by
 unfold Am at hl;have hR:∀h:0<l.length,Jz l=(Dv l[0] l,true):=λh=>by
  cases l with
  |nil=>simp at h
  |cons v t=>rfl
 conv=>whnf
 constructor<;>intro h
 ·have:l=[]:=zX (by have:(l.length:Int)=0:=(by simpa using h);omega);subst this;refine oO ?_;exact done E (.cons (.cell E E E E) (.cons .tmp .nil)) [] [] (λ_ h=>h) E E uU
 have h0:0<l.length:=by
  have:¬(l.length:Int)=0:=by simpa using h
  omega
 rw[hR h0];refine oO ?_;refine⟨E,by decide,h0,?_⟩
 conv=>whnf
 have e0:l[(0:Int).toNat]'(h0)=l[0]:=rfl;generalize hv:l[0]=v at *;refine A8 l.length (λj=>[(0,.sl 5 Uw l),(2,.ptr 2 0),(4,.ptr 4 0),(14,.sl 5 Uw l),(15,Aa l.length),(16,Aa j)]) (λj=>[(2,.box [Aa 0,Aa 0,Aa 0,Aa 0,Aa 0]),(4,.box [Aa (Dv v (l.take j)).root,Aa (Dv v (l.take j)).cost,Aa (Dv v (l.take j)).bridge,Aa (Dv v (l.take j)).port,Aa (Dv v (l.take j)).own])]) []
  ⟨⟨rfl,rfl,rfl,rfl,rfl,rfl,rfl,rfl,rfl,rfl,rfl,rfl,trivial⟩,⟨.inl rfl,rfl,.inl (by subst hv;rfl),rfl,trivial⟩,rfl,rfl⟩ ?_
 intro j hj;refine oO ?_;constructor<;>intro h
 ·have ab:j<l.length:=by simpa using h
  have gj:=Ap6 v l j ab;generalize hx:l[j]=x at gj;have hx':l[(j:Int).toNat]'q_=x:=hx;generalize xx:Dv v (l.take j)=m at gj;refine oO ?_;refine⟨E,by omega,by omega,?_⟩;rw[hx']
  conv=>whnf
  refine c0 (lessS x m) F316 ?_;refine oO ?_;constructor<;>intro h2
  ·rw[h2,zE rfl]at gj;refine gE ?_;exact Az [] ab ⟨⟨E,E,E,E,E,E,E,E,E,E,E,E,Y⟩,⟨.inl E,E,.inl (by rw[gj];rfl),E,Y⟩,E,E⟩
  ·rw[h2]at gj;refine gE ?_;exact Az [] ab ⟨⟨E,E,E,E,E,E,E,E,E,E,E,E,Y⟩,⟨.inl E,E,.inl (by rw[gj];rfl),E,Y⟩,E,E⟩
 ·have er:¬j<l.length:=by simpa using h
  rw[xG q_];refine oO ?_;exact done E (.cons (.cell E E E E) (.cons .tmp .nil)) [] [] (λ_ h=>h) E E uU
def Ap7{l:List Vec}(h:(Jz l).2=false):l=[]∧(Jz l).1=A79:=by
 cases l with
 |nil=>exact⟨rfl,rfl⟩
 |cons v t=>cases h
def Az5(l:List Vec):∀x∈l,Hc x (Jz l).1=false:=by
 cases l with
 |nil=>simp
 |cons v t=>exact(Aj8 v (v::t)).2
def Auj{l:List Vec}(h:(Jz l).2=true):(Jz l).1∈l:=by
 cases l with
 |nil=>cases h
 |cons v t=>
  rcases Ago v (v::t) with h|h
  ·show Dv v (v::t)∈v::t;rw[h];simp
  ·exact h
def Ada(n:Net):∀x∈Cv n,0≤x∧x<n.devices.length:=λx hx=>by
 rw[Af2,Lh]at hx;obtain ⟨i,hi,rfl⟩:=yS.1 hx;have hi:=xC.1 hi;have h1:=List.countP_le_length (p:=λk=>Cc n (k:Nat) i) (l:=List.range n.devices.length);rw[tW]at h1;have h2:(List.range n.devices.length).countP (λk=>Cc n (k:Nat) i)≠n.devices.length:=λe=>by
  have:=List.countP_eq_length.1 (e.trans List.length_range.symm) i (xC.2 hi);rw[My]at this;cases this
 omega
def Arn(n:Net){a b:Int}(h:a≠b):Cc n a b=true∨Cc n b a=true:=by
 unfold Cc;generalize nth n.devices a=x;generalize nth n.devices b=y
 grind
def Awl(n:Net){i k:Nat}(hi:i<n.devices.length)(_hk:k<n.devices.length)(h:Cc n i k=true):(List.range n.devices.length).countP (λq=>Cc n (q:Nat) i)<(List.range n.devices.length).countP (λq=>Cc n (q:Nat) k):=by
 have h1:(List.range n.devices.length).countP (λq=>Cc n (q:Nat) i)+((List.range n.devices.length).filter (λq=>Cc n (q:Nat) k&&!Cc n (q:Nat) i)).length=(List.range n.devices.length).countP (λq=>Cc n (q:Nat) k):=by
  generalize List.range n.devices.length=l
  induction l with
  |nil=>rfl
  |cons q l ih=>
   rw[List.countP_cons,List.countP_cons,List.filter_cons];cases h1:Cc n q i with
   |true=>
    have h2:Cc n q k=true:=Wh n h1 h;simp only[h2,if_true,Bool.not_true,wK,uM,if_false];omega
   |false=>
    cases h2:Cc n q k with
    |true=>simp only[if_true,wM,uA,uM,if_false,yM];omega
    |false=>simp only[uM,if_false,yG];omega
 have h2:0<((List.range n.devices.length).filter (λq=>Cc n (q:Nat) k&&!Cc n (q:Nat) i)).length:=by
  refine List.length_pos_of_mem (a:=i) ?_;rw[uO];exact⟨xC.2 hi,by simp[h,My]⟩
 omega
def Jg(n:Net):(Cv n).length=n.devices.length:=by rw[Af2,Lh];simp
def Af3(n:Net)(i:Nat)(hi:i<(Cv n).length):(Cv n)[i]=(((List.range n.devices.length).countP λk=>Cc n (k:Nat) i:Nat):Int):=by
 have e:=Af2 n;have:(Cv n)[i]=(Lh n)[i]'(by rw[←e];exact hi):=by congr 1
 rw[this];simp[Lh]
def Al4(n:Net){i k:Nat}(hi:i<(Cv n).length)(hk:k<(Cv n).length)(h:i≠k):(Cv n)[i]≠(Cv n)[k]:=by
 have e:=Jg n;rw[Af3,Af3];rcases Arn n (a:=(i:Int)) (b:=(k:Int)) q_ with h1|h1
 ·have:=Awl n (i:=i) (k:=k) q_ q_ h1;omega
 ·have:=Awl n (i:=k) (k:=i) q_ q_ h1;omega
set_option maxRecDepth 100000
def Xp(n:Net)(up:List Bool)(ranks:List Int)(x y:SV):List SV:=[.sl 5 Aw n.devices,.sl 7 A7 n.ports,.sl 3 B5 n.links,.sl 6 Aq n.domains,.sl 4 A2 n.statics,.sl 4 Bh n.floods,.sl 5 Ck n.vrfs,.sl 5 Cb n.irbs,.sl 1 Ab up,.sl 1 Aa ranks,x,y]
def Ed(n:Net)(up:List Bool)(i:Nat):Int :=
 let p:=n.ports.getD i default
 if p.link<0||!(up.getD p.link.toNat false) then -1 else (nth n.links p.link).a+(nth n.links p.link).b-i
def farS(n:Net)(up:List Bool)(ranks:List Int)(x y:SV)(_hx:(x.boxed&&x.data&&y.boxed&&y.data&&Nat.beq (cellsOf x).length 1&&Nat.beq (cellsOf y).length 1)=true)(i:Nat)(hr:Ac n=true)(hu:up.length=n.links.length)(hi:i<n.ports.length):Sp 173 [.ref 12 (.agg (Xp n up ranks x y)) 0,Aa i] (Aa (Ed n up i)):=cT F173 ntmps173 λF hF=>by
 have a7:=Wr hr hi;have hf:=Ib hr;have e1:n.ports[(i:Int).toNat]'q_=n.ports[i]:=rfl;have eu:Ed n up i=if n.ports[i].link<0||!(up.getD n.ports[i].link.toNat false) then -1 else (nth n.links n.ports[i].link).a+(nth n.links n.ports[i].link).b-i:=by
  rw[Ed,Bn hi]
 generalize hp:n.ports[i]=p at *;have hle:=λh=>M1 hr (i:=p.link.toNat) h
 conv=>whnf
 refine⟨E,by omega,by omega,?_⟩;rw[e1]
 conv=>whnf
 (repeat' (first|(refine⟨λh=>?_,λh=>?_⟩<;>(repeat (first|simp only[zK]at h|simp only[yE]at h|simp only[yT]at h|simp only[wS]at h))<;>((first|refine rg ?_|refine rd z_ ?_);(conv=>whnf)))|(refine As rfl (.cons .tmp .nil) ?_ rfl)|(refine⟨z_,?_⟩;((conv=>whnf);repeat((refine aT ?_);(refine oO ?_))))|(refine⟨by (first|omega|((have hq:=hle q_;unfold I64;omega))),by (first|omega|((have hq:=hle q_;unfold I64;omega))),?_⟩;((conv=>whnf)))))
 all_goals (refine zH Aa ?_;rw[eu])
 ·simp_all
 ·have h1:up.getD p.link.toNat false=false:=by rw[Bn q_];assumption
  rw[h1];simp
 ·have h1:up.getD p.link.toNat false=true:=by rw[Bn q_];assumption
  rw[h1,Af q_]
  simp_all
def U0(n:Net)(up:List Bool)(ranks roots costs:List Int):SV:=.ref 12 (.agg (Xp n up ranks (.sl 1 Aa roots) (.sl 1 Aa costs))) 0
def M0(n:Net)(ranks costs:List Int)(i k:Nat):Bool :=
 let a:=(n.ports.getD i default).dev
 let b:=(n.ports.getD k default).dev
 decide (nth costs a<nth costs b)||(nth costs a==nth costs b&&decide (nth ranks a<nth ranks b))
def Asy(n:Net)(up:List Bool)(ranks roots costs:List Int)(i k:Nat)(hr:Ac n=true)(np:ranks.length=n.devices.length)(hc:costs.length=n.devices.length)(hi:i<n.ports.length)(hk:k<n.ports.length):Sp 174 [U0 n up ranks roots costs,Aa i,Aa k] (Ab (M0 n ranks costs i k)):=cT F174 ntmps174 λF hF=>by
 have ly:=Vg hr hi;have iv:=Vg hr hk;have e1:n.ports[(i:Int).toNat]'q_=n.ports[i]:=rfl;have e2:n.ports[(k:Int).toNat]'q_=n.ports[k]:=rfl;have aa:M0 n ranks costs i k=(decide (nth costs n.ports[i].dev<nth costs n.ports[k].dev)||(nth costs n.ports[i].dev==nth costs n.ports[k].dev&&decide (nth ranks n.ports[i].dev<nth ranks n.ports[k].dev))):=by
  rw[M0,Bn hi,Bn hk]
 rw[Af q_,Af q_,Af q_,Af q_]at aa
 conv=>whnf
 (repeat' (first|(refine⟨λh=>?_,λh=>?_⟩<;>(repeat (first|simp only[zK]at h|simp only[yE]at h|simp only[yI]at h|simp only[zR]at h))<;>((refine rd z_ ?_);(conv=>whnf)))|(refine As rfl (.cons .tmp .nil) ?_ rfl)|(refine⟨z_,?_⟩;((conv=>whnf)))|(refine⟨by (first|omega|(simp only[zZ];omega)),by (first|omega|(simp only[zZ];omega)),?_⟩;((conv=>whnf)))))
 all_goals (refine zH Ab ?_;rw[aa];clear hF aa hr;simp only[zZ]at *;grind)
def Ahj{n:Net}{up:List Bool}(h:Ac n=true){i:Nat}(hi:i<n.ports.length)(hf:0≤Ed n up i):Ed n up i<n.ports.length:=by
 have hp:=Tc h hi;have a7:=Wr h hi;simp only[J8,zG,yO,yI]at hp;have hp:=hp.2;unfold Ed at *;rw[Bn hi]at *;simp only at *;split at hf
 ·omega
 ·rename_i hc;rw[zD hc];simp only[yO,zK,uL]at hc;rcases hp with hp|hp
  ·omega
  ·have hl:n.ports[i].link.toNat<n.links.length:=by omega
   have he:=M1 h hl;rw[Af hl]at *;omega
def Aa9(n:Net)(up:List Bool)(ranks roots costs:List Int)(dev:Int)(i:Nat):Option Vec :=
 let p:=n.ports.getD i default
 let far:=Ed n up i
 let po:=(nth n.ports far).dev
 if p.dev==dev&&decide (0≤far) then some ⟨nth roots po,nth costs po+p.cost,nth ranks po,far,i⟩ else none
def K8(n:Net)(up:List Bool)(ranks roots costs:List Int)(dev:Int)(j:Nat):List Vec:=(List.range j).filterMap (Aa9 n up ranks roots costs dev)
def Avt(n:Net)(up:List Bool)(ranks roots costs:List Int)(dev:Int)(j:Nat):K8 n up ranks roots costs dev (j+1)=K8 n up ranks roots costs dev j++(Aa9 n up ranks roots costs dev j).toList:=by
 rw[K8,vA,List.filterMap_append];cases h:Aa9 n up ranks roots costs dev j<;>simp[K8,h]
def Abb(n:Net)(up:List Bool)(ranks roots costs:List Int)(dev:Int)(j:Nat):(K8 n up ranks roots costs dev j).length≤j:=by
 have:=tB (Aa9 n up ranks roots costs dev) (List.range j);simpa [K8] using this
def E9(n:Net)(up:List Bool)(ranks roots costs:List Int)(dev:Int):Int :=
 let r:=Jz (K8 n up ranks roots costs dev n.ports.length)
 if !r.2||nth roots dev==nth ranks dev then -1 else r.1.own
def bestS(n:Net)(up:List Bool)(ranks roots costs:List Int)(dev:Int)(hr:Ac n=true)(hu:up.length=n.links.length)(aj:Cu n=true)(np:ranks.length=n.devices.length)(nq:roots.length=n.devices.length)(hc:costs.length=n.devices.length)(hb:∀c∈costs,0≤c∧c<1000000000)(hd:0≤dev∧dev<n.devices.length):Sp 175 [U0 n up ranks roots costs,Aa dev] (Aa (E9 n up ranks roots costs dev)):=cT F175 ntmps175 λF hF=>by
 have hf:=Ib hr
 conv=>whnf
 refine Ce 5 1000 5 Uw E E ?_;refine A8 n.ports.length (λj=>[(0,U0 n up ranks roots costs),(1,Aa dev),(5,.osl 1000),(16,.sl 7 A7 n.ports),(17,Aa n.ports.length),(18,Aa j)]) (λj=>[(1000,.row 5 Uw (K8 n up ranks roots costs dev j))]) []
  uU ?_
 intro j hj;refine oO ?_;constructor<;>intro h
 ·have ab:j<n.ports.length:=by simpa using h
  have e1:n.ports[(j:Int).toNat]'q_=n.ports[j]:=rfl;have eu:=farS n up ranks (.sl 1 Aa roots) (.sl 1 Aa costs) rfl j hr hu ab;have iy:=Ahj (up:=up) hr ab;have ag:=Avt n up ranks roots costs dev j;have o6:=Abb n up ranks roots costs dev j;have ew:Aa9 n up ranks roots costs dev j=if n.ports[j].dev==dev&&decide (0≤Ed n up j) then some ⟨nth roots (nth n.ports (Ed n up j)).dev,nth costs (nth n.ports (Ed n up j)).dev+n.ports[j].cost,nth ranks (nth n.ports (Ed n up j)).dev,Ed n up j,j⟩ else none:=by
   rw[Aa9,Bn ab]
  generalize Ed n up j=k at *;have hpc:1≤n.ports[j].cost∧n.ports[j].cost≤65535:=by
   simp only[Cu,yT,vD]at aj;have:=aj _ (zJ ab);simp only[Im,yO,zK,uL]at this;omega
  obtain ⟨p,hp⟩:∃p,n.ports[j]=p:=⟨_,rfl⟩
  rw[hp]at e1 ew hpc;refine oO ?_;refine⟨E,by omega,by omega,?_⟩;rw[e1]
  conv=>whnf
  refine c0 eu F173 ?_;refine oO ?_;constructor<;>intro h
  ·refine oO ?_;constructor<;>intro h2
   ·have bl:0≤k:=zO h2;have cw:=iy bl;rw[zE (by simp only[zG,zK];exact⟨h,bl⟩),Af (l:=n.ports) (i:=k) q_]at ew;have sk:=Vg hr (i:=k.toNat) q_;obtain ⟨q,hq⟩:∃q,n.ports[k.toNat]'q_=q:=⟨_,rfl⟩
    rw[hq]at ew sk;have rl:=hb (costs[q.dev.toNat]'q_) (zJ _);rw[Af (l:=roots) (i:=q.dev) q_,Af (l:=costs) (i:=q.dev) q_,Af (l:=ranks) (i:=q.dev) q_]at ew;refine oO ?_;refine⟨E,bl,by omega,?_⟩;rw[hq]
    conv=>whnf
    refine⟨z_,?_⟩;refine⟨by omega,by omega,?_⟩
    conv=>whnf
    refine⟨z_,?_⟩;refine⟨by omega,by omega,?_⟩
    conv=>whnf
    refine iW ?_;refine⟨z_,?_⟩;refine⟨by omega,by omega,?_⟩
    conv=>whnf
    refine Bv (Ag Γ.toTy 72 E E E E E (.row E) (.lit (l:=[(⟨roots[q.dev.toNat]'q_,costs[q.dev.toNat]'q_+p.cost,ranks[q.dev.toNat]'q_,k,j⟩:Vec)]) E E) y_ (by simp;omega) (by simp;omega)) z_ E ?_;refine gH ?_;refine iW ?_;refine Az [(1000,72)] ab ⟨⟨E,E,E,E,E,E,E,E,E,E,E,E,Y⟩,⟨.inl (zH (Ob.row 5 Uw) ?_),E,Y⟩,E,E⟩;rw[ag,ew];rfl
   ·have bl:¬0≤k:=zT h2;rw[zD (by simp only[zG,zK];exact λhh=>bl hh.2)]at ew;refine gE ?_;refine Az [] ab ⟨⟨E,E,E,E,E,E,E,E,E,E,E,E,Y⟩,⟨.inl (zH (Ob.row 5 Uw) ?_),E,Y⟩,E,E⟩;rw[ag,ew];simp
  ·rw[zD (by rw[h];simp)]at ew;refine oF ?_;refine iW ?_;refine Az [] ab ⟨⟨E,E,E,E,E,E,E,E,E,E,E,E,Y⟩,⟨.inl (zH (Ob.row 5 Uw) ?_),E,Y⟩,E,E⟩;rw[ag,ew];simp
 ·have er:j=n.ports.length:=by
   have:¬j<n.ports.length:=by simpa using h
   omega
  subst er;have o6:=Abb n up ranks roots costs dev n.ports.length;have so:E9 n up ranks roots costs dev=if !(Jz (K8 n up ranks roots costs dev n.ports.length)).2||nth roots dev==nth ranks dev then -1 else (Jz (K8 n up ranks roots costs dev n.ports.length)).1.own:=rfl
  rw[Af q_,Af q_]at so;have j5:=leastS (K8 n up ranks roots costs dev n.ports.length) (by unfold Am;omega);generalize Jz (K8 n up ranks roots costs dev n.ports.length)=r at j5 so;obtain ⟨v,ok⟩:=r;simp only at j5 so;rw[so];refine oO ?_;refine Aj 1000 E ?_;refine c0 j5 F253 ?_;refine oO ?_
  (repeat' (first|(refine⟨λh=>?_,λh=>?_⟩<;>(repeat (first|simp only[yI]at h|simp only[zR]at h|simp only[yT]at h|simp only[wS]at h))<;>((first|refine rg ?_|refine rd z_ ?_);(conv=>whnf)))|(refine As rfl (.cons .tmp .nil) ?_ rfl)|(refine⟨z_,?_⟩;((conv=>whnf);repeat((refine aT ?_);(refine oO ?_))))|(refine⟨by (omega),by (omega),?_⟩;((conv=>whnf)))))
  all_goals (refine zH Aa ?_;clear hF j5 so;grind)
def best_lt{n:Net}{up:List Bool}{ranks roots costs:List Int}{dev:Int}(h:0≤E9 n up ranks roots costs dev):E9 n up ranks roots costs dev<n.ports.length:=by
 have em:=@Auj (K8 n up ranks roots costs dev n.ports.length);unfold E9 at *;simp only at *;split at h
 ·omega
 ·rename_i hc;rw[zD hc];simp only[yO,yT,uL]at hc;have h2:=em (by simpa using hc.1);obtain ⟨i,hi,he⟩:=wE.1 h2;have hi:=xC.1 hi;unfold Aa9 at he;simp only at he;split at he
  ·have e:=zH Vec.own (Option.some.inj he);simp only at e;omega
  ·cases he
def Xr(n:Net)(up:List Bool)(ranks costs:List Int)(i:Nat):Int :=
 if Ed n up i<0 then 0 else if M0 n ranks costs i (Ed n up i).toNat then 2 else 3
def Jy(n:Net)(up:List Bool)(ranks costs:List Int)(j:Nat):List Int:=(List.range n.ports.length).map λi=>if i<j then Xr n up ranks costs i else 0
def Qs(n:Net)(up:List Bool)(ranks costs:List Int)(j:Nat):(Jy n up ranks costs j).length=n.ports.length:=by simp[Jy]
def Aor(n:Net)(up:List Bool)(ranks costs:List Int):Jy n up ranks costs 0=List.replicate n.ports.length 0:=by
 rw[Jy];exact tI y_ y_
def Aos(n:Net)(up:List Bool)(ranks costs:List Int)(j:Nat)(hj:j<n.ports.length):Jy n up ranks costs (j+1)=(Jy n up ranks costs j).set j (Xr n up ranks costs j):=by
 refine tI (by simp[Jy]) (λi h1 h2=>?_);rw[vH];simp only[Jy,vJ,List.getElem_range];rcases Nat.lt_trichotomy i j with h|h|h
 ·rw[zE q_,zD q_,zE h]
 ·subst h;rw[zE q_,zE rfl]
 ·rw[zD q_,zD q_,zD q_]
def Aot(n:Net)(up:List Bool)(ranks costs:List Int)(j:Nat)(h:Xr n up ranks costs j=0):Jy n up ranks costs (j+1)=Jy n up ranks costs j:=by
 simp only[Jy];refine tE (λi _=>?_);by_cases bc:i<j
 ·rw[zE q_,zE bc]
 ·by_cases he:i=j
  ·subst he;rw[zE q_,zD bc,h]
  ·rw[zD q_,zD bc]
def Kn(n:Net)(up:List Bool)(ranks roots costs:List Int):Nat→List Int
 |0=>Jy n up ranks costs n.ports.length
 |d+1=>if 0≤E9 n up ranks roots costs d then (Kn n up ranks roots costs d).set (E9 n up ranks roots costs d).toNat 1 else Kn n up ranks roots costs d
def Jf(n:Net)(up:List Bool)(ranks roots costs:List Int):∀d,(Kn n up ranks roots costs d).length=n.ports.length
 |0=>Qs n up ranks costs _
 |d+1=>by
  rw[Kn];split
  ·rw[yP,Jf]
  ·rw[Jf]
def rolesS(n:Net)(up:List Bool)(ranks roots costs:List Int)(hr:Ac n=true)(hu:up.length=n.links.length)(aj:Cu n=true)(np:ranks.length=n.devices.length)(nq:roots.length=n.devices.length)(hc:costs.length=n.devices.length)(hb:∀c∈costs,0≤c∧c<1000000000):Sp 102 [U0 n up ranks roots costs] (.sl 1 Aa (Kn n up ranks roots costs n.devices.length)):=cT F102 ntmps102 λF hF=>by
 have hf:=Ib hr
 conv=>whnf
 refine Ah (B4 Γ.toTy (d:=14) (n:=n.ports.length) Aa 0 E E E E E E E E q_ q_ E E E) E E ?_;rw[←Aor n up ranks costs];refine oO ?_;refine A8 n.ports.length (λj=>[(0,U0 n up ranks roots costs),(3,.osl 14),(20,Aa n.ports.length),(21,Aa j)]) (λj=>[(14,.row 1 Aa (Jy n up ranks costs j))]) []
  uU ?_
 intro j hj;refine oO ?_;constructor<;>intro h
 ·have ab:j<n.ports.length:=by simpa using h
  have eu:=farS n up ranks (.sl 1 Aa roots) (.sl 1 Aa costs) rfl j hr hu ab;have iy:=Ahj (up:=up) hr ab;have hlen:=Qs n up ranks costs j;have ey:Xr n up ranks costs j=if Ed n up j<0 then 0 else if M0 n ranks costs j (Ed n up j).toNat then 2 else 3:=rfl
  have ag:=Aos n up ranks costs j ab;have gk:=Aot n up ranks costs j;generalize Ed n up j=k at *;refine oO ?_;refine c0 eu F173 ?_;refine oO ?_;constructor<;>intro h
  ·have hk:k<0:=zO h;rw[zE hk]at ey;refine gE ?_;exact Az [] ab ⟨⟨E,E,E,E,E,E,E,E,Y⟩,⟨.inl (zH (Ob.row 1 Aa) (gk ey)),E,Y⟩,E,E⟩
  have hk:¬k<0:=zT h;rw[zD hk]at ey;obtain ⟨m,rfl⟩:∃m:Nat,k=m:=⟨k.toNat,by omega⟩
  have hah:=Asy n up ranks roots costs j m hr np hc ab q_;rw[zZ]at ey;refine oO ?_;refine c0 hah F174 ?_;refine oO ?_;constructor<;>intro h
  ·rw[h,zE rfl]at ey;rw[ey]at ag;refine oO ?_;refine⟨by omega,by omega,?_⟩
   conv=>whnf
   refine⟨E,by omega,2,E,E,?_⟩
   conv=>whnf
   refine iW ?_;exact Az [] ab ⟨⟨E,E,E,E,E,E,E,E,Y⟩,⟨.inl (zH (Ob.row 1 Aa) ag),E,Y⟩,E,E⟩
  ·rw[h]at ey;simp only[uM,if_false]at ey;rw[ey]at ag;refine oO ?_;refine⟨by omega,by omega,?_⟩
   conv=>whnf
   refine⟨E,by omega,3,E,E,?_⟩
   conv=>whnf
   refine iW ?_;exact Az [] ab ⟨⟨E,E,E,E,E,E,E,E,Y⟩,⟨.inl (zH (Ob.row 1 Aa) ag),E,Y⟩,E,E⟩
 have er:j=n.ports.length:=by
  have:¬j<n.ports.length:=by simpa using h
  omega
 subst er;refine oO ?_;refine A8 n.devices.length (λd=>[(0,U0 n up ranks roots costs),(3,.osl 14),(47,Aa n.devices.length),(48,Aa d)]) (λd=>[(14,.row 1 Aa (Kn n up ranks roots costs d))]) []
  uU ?_
 clear hj h;intro d hdle;refine oO ?_;constructor<;>intro h
 ·have ab:d<n.devices.length:=by simpa using h
  have hbs:=bestS n up ranks roots costs d hr hu aj np nq hc hb q_;have o6:=@best_lt n up ranks roots costs d;have hlen:=Jf n up ranks roots costs d;have ag:Kn n up ranks roots costs (d+1)=if 0≤E9 n up ranks roots costs d then (Kn n up ranks roots costs d).set (E9 n up ranks roots costs d).toNat 1 else Kn n up ranks roots costs d:=rfl
  generalize E9 n up ranks roots costs d=k at *;refine oO ?_;refine c0 hbs F175 ?_;refine oO ?_;constructor<;>intro h
  ·have hk:0≤k:=zO h;rw[zE hk]at ag;refine oO ?_;refine⟨hk,by omega,?_⟩
   conv=>whnf
   refine⟨E,by omega,1,E,E,?_⟩
   conv=>whnf
   refine iW ?_;exact Az [] ab ⟨⟨E,E,E,E,E,E,E,E,Y⟩,⟨.inl (zH (Ob.row 1 Aa) ag),E,Y⟩,E,E⟩
  ·have hk:¬0≤k:=zT h;rw[zD hk]at ag;refine gE ?_;exact Az [] ab ⟨⟨E,E,E,E,E,E,E,E,Y⟩,⟨.inl (zH (Ob.row 1 Aa) ag),E,Y⟩,E,E⟩
 have fu:d=n.devices.length:=by
  have:¬d<n.devices.length:=by simpa using h
  omega
 subst fu;refine oO ?_;refine Aj 14 E ?_;exact dN
def Ajr(n:Net)(up:List Bool)(ranks:List Int)(roots costs:List Int):Obs:=[(0,.box (Xp n up ranks (.osl 1) (.osl 2))),(1,.row 1 Aa roots),(2,.row 1 Aa costs)]
def farR(n:Net)(up:List Bool)(ranks roots costs:List Int)(i:Nat)(hr:Ac n=true)(hu:up.length=n.links.length)(hi:i<n.ports.length):Sq 173 [.ptr 0 0,Aa i] (Ajr n up ranks roots costs) (Aa (Ed n up i)) (Ajr n up ranks roots costs):=cT F173 ntmps173 λF hF=>by
 have a7:=Wr hr hi;have hf:=Ib hr;have e1:n.ports[(i:Int).toNat]'q_=n.ports[i]:=rfl;have eu:Ed n up i=if n.ports[i].link<0||!(up.getD n.ports[i].link.toNat false) then -1 else (nth n.links n.ports[i].link).a+(nth n.links n.ports[i].link).b-i:=by
  rw[Ed,Bn hi]
 generalize hp:n.ports[i]=p at *;have hle:=λh=>M1 hr (i:=p.link.toNat) h
 conv=>whnf
 refine⟨E,by omega,by omega,?_⟩;rw[e1]
 conv=>whnf
 (repeat' (first|(refine⟨λh=>?_,λh=>?_⟩<;>(repeat (first|simp only[zK]at h|simp only[yE]at h|simp only[yT]at h|simp only[wS]at h))<;>((first|refine rg ?_|refine rd z_ ?_);(conv=>whnf)))|(refine⟨z_,?_⟩;((conv=>whnf);repeat((refine aT ?_);(refine oO ?_))))|(refine⟨by (first|omega|((have hq:=hle q_;unfold I64;omega))),by (first|omega|((have hq:=hle q_;unfold I64;omega))),?_⟩;((conv=>whnf)))|refine done rfl (.cons .tmp .nil) [] (Ajr n up ranks roots costs) (λ_ h=>h) ?_ rfl uU))
 all_goals (refine zH Aa ?_;rw[eu])
 ·simp_all
 ·have h1:up.getD p.link.toNat false=false:=by rw[Bn q_];assumption
  rw[h1];simp
 ·have h1:up.getD p.link.toNat false=true:=by rw[Bn q_];assumption
  rw[h1,Af q_]
  simp_all
def Ep(n:Net)(up:List Bool)(x:Item)(q:List Item)(i:Nat):List Item :=
 if (n.ports.getD i default).dev=x.dev∧0≤Ed n up i then Xv q ⟨x.root,x.cost+(nth n.ports (Ed n up i)).cost,(nth n.ports (Ed n up i)).dev⟩ else q
def Te(n:Net)(up:List Bool)(s:List Item×List Int×List Int):List Item×List Int×List Int :=
 let x:=(Ec s.1).getLast?.getD default
 let q:=(Ec s.1).dropLast
 if 0≤nth s.2.1 x.dev then (q,s.2) else ((List.range n.ports.length).foldl (Ep n up x) q,s.2.1.set x.dev.toNat x.root,s.2.2.set x.dev.toNat x.cost)
def I9(n:Net)(up:List Bool):Nat→List Item×List Int×List Int→List Item×List Int×List Int
 |0,s=>s
 |f+1,s=>if s.1=[] then s else I9 n up f (Te n up s)
end Go.Sy.YtolnneiipmfgaaaGreatDoor
namespace Go.Sy.YtolnneiipmfgaaaGreatDoor
def Yo(q:List Item)(i j:Nat)(hi:i<q.length)(hj:j<q.length):(Hj q i j).Perm q:=by
 rw[Hj,Bn hi,Bn hj];exact List.set_set_perm hi hj
def An6:∀(f:Nat) (q:List Item) (j:Nat),j<q.length→(upF f q j).Perm q
 |0,_,_,_=>.refl _
 |f+1,q,j,hj=>by
  rw[upF];split
  ·exact .refl _
  ·split
   ·exact(An6 f _ _ (by rw[Be];omega)).trans (Yo q _ _ q_ hj)
   ·exact .refl _
def Ahq:∀(f:Nat) (q:List Item) (i n:Nat),i<q.length→n≤q.length→(Hd f q i n).1.Perm q
 |0,_,_,_,_,_=>.refl _
 |f+1,q,i,n,hi,hn=>by
  rw[Hd];split
  ·rename_i h;have hc:=Sv q i n h;split
   ·exact(Ahq f _ _ n (by rw[Be];omega) (by rw[Be];exact hn)).trans (Yo q _ _ hi q_)
   ·exact .refl _
  ·exact .refl _
def Tg(q:List Item)(x:Item):(Xv q x).Perm (x::q) :=
 (An6 _ _ _ y_).trans (List.perm_append_comm (l₁:=q) (l₂:=[x]))
def Mu(q:List Item)(x:Item):(Xv q x).length=q.length+1:=by rw[Xv,Afa];simp
def Ws(q:List Item)(hq:q≠[]):(Ec q).Perm q:=by
 have h0:0<q.length:=xV.2 hq;exact(Ahq _ _ _ _ (by rw[Be];exact h0) (by rw[Be];omega)).trans (Yo q _ _ h0 q_)
def O7(q:List Item)(n:Nat):Prop:=∀c,0<c→c<n→c<q.length→Cr (q.getD c default) (q.getD ((c-1)/2) default)=false
def Ts{x y z:Item}(h1:Cr y x=false)(h2:Cr z y=false):Cr z x=false:=by
 unfold Cr at *
 grind
def Auw{q:List Item}{n:Nat}(h:O7 q n)(hn:n≤q.length):∀c,c<n→Cr (q.getD c default) (q.getD 0 default)=false:=by
 intro c
 induction c using Nat.strongRecOn with
 |ind c ih=>
  intro hc;rcases uK c with h0|h0
  ·subst h0;unfold Cr;grind
  ·have h1:=h c h0 hc q_;have h2:=ih ((c-1)/2) q_ q_;exact Ts h2 h1
def H1(q:List Item)(i j c:Nat)(hi:i<q.length)(hj:j<q.length):(Hj q i j).getD c default=if c=j then q.getD i default else if c=i then q.getD j default else q.getD c default:=by
 rw[Hj];simp only[wC,uY,yP];by_cases h1:c=j
 ·subst h1;simp[hj]
 ·rw[zD (Ne.symm h1),zD h1];by_cases h2:c=i
  ·subst h2;simp[hi]
  ·rw[zD (Ne.symm h2),zD h2]
def Tt{x y:Item}(h:Cr x y=true):Cr y x=false:=by
 unfold Cr at *
 grind
structure UpInv(q:List Item)(j n:Nat):Prop where
 heap:∀c,0<c→c<n→c≠j→Cr (q.getD c default) (q.getD ((c-1)/2) default)=false
 over:∀c,0<c→c<n→(c-1)/2=j→0<j→Cr (q.getD c default) (q.getD ((j-1)/2) default)=false
def An7(n:Nat):∀(f:Nat) (q:List Item) (j:Nat),j≤f→j<n→n≤q.length→UpInv q j n→O7 (upF f q j) n
 |0,q,j,hf,hj,hn,hI=>by
  have:j=0:=by omega
  subst this;exact λc h0 hc _=>hI.heap c h0 hc q_
 |f+1,q,j,hf,hj,hn,hI=>by
  rw[upF];split
  ·rename_i h0;subst h0;exact λc h0 hc _=>hI.heap c h0 hc q_
  ·rename_i h0;split
   ·rename_i ab;have hp:(j-1)/2<j:=by omega
    refine An7 n f _ _ q_ q_ (by rw[Be];exact hn) ⟨λc dx gx nk=>?_,λc dx gx kf d7=>?_⟩
    ·rw[H1 _ _ _ _ q_ q_,H1 _ _ _ _ q_ q_];by_cases lz:c=j
     ·subst lz;rw[zE rfl,zD q_,zE rfl];exact Tt ab
     ·rw[zD lz,zD nk];by_cases hpj:(c-1)/2=j
      ·rw[zE hpj];exact hI.over c dx gx hpj q_
      ·rw[zD hpj];by_cases jt:(c-1)/2=(j-1)/2
       ·rw[zE jt];have:=hI.heap c dx gx lz;rw[jt]at this;exact Ts (Tt ab) this
       ·rw[zD jt];exact hI.heap c dx gx lz
    ·rw[H1 _ _ _ _ q_ q_,H1 _ _ _ _ q_ q_];have hpI:=hI.heap ((j-1)/2) d7 q_ q_;rw[zD (show ((j-1)/2-1)/2≠j by omega),zD (show ((j-1)/2-1)/2≠(j-1)/2 by omega)];by_cases lz:c=j
     ·rw[zE lz];exact hpI
     ·rw[zD lz,zD q_];have:=hI.heap c dx gx lz;rw[kf]at this;exact Ts hpI this
   ·rename_i ab;intro c dx gx _;by_cases lz:c=j
    ·subst lz;simpa using ab
    ·exact hI.heap c dx gx lz
def Sm{q r:List Item}{c:Nat}(h:c<q.length):(q++r).getD c default=q.getD c default:=by
 simp[wC,xR h]
def Af6(q:List Item)(x:Item)(h:O7 q q.length):O7 (Xv q x) (Xv q x).length:=by
 rw[Mu];refine An7 (q.length+1) _ _ _ (yD _) q_ y_ ⟨λc dx gx lz=>?_,λc dx gx kf d7=>by omega⟩;rw[Sm q_,Sm q_];exact h c dx q_ q_
structure DownInv(q:List Item)(i n:Nat):Prop where
 heap:∀c,0<c→c<n→(c-1)/2≠i→Cr (q.getD c default) (q.getD ((c-1)/2) default)=false
 over:∀c,0<c→c<n→(c-1)/2=i→0<i→Cr (q.getD c default) (q.getD ((i-1)/2) default)=false
def A02(q:List Item)(i n c:Nat)(_h:2*i+1<n)(dx:0<c)(hc:c<n)(hp:(c-1)/2=i):Cr (q.getD c default) (q.getD (Ha q i n) default)=false:=by
 have rn:c=2*i+1∨c=2*i+2:=by omega
 unfold Ha;split
 ·rename_i hh;rcases rn with rfl|rfl
  ·exact Tt hh.2
  ·unfold Cr;grind
 ·rename_i hh;rcases rn with rfl|rfl
  ·unfold Cr;grind
  ·cases ab:Cr (q.getD (2*i+2) default) (q.getD (2*i+1) default) with
   |false=>rfl
   |true=>exact yB ⟨hc,ab⟩ hh
def Ahr(n:Nat):∀(f:Nat) (q:List Item) (i:Nat),n≤f+i→i<q.length→n≤q.length→DownInv q i n→O7 (Hd f q i n).1 n
 |0,q,i,hf,hi,hn,hI=>λc dx hc _=>hI.heap c dx hc q_
 |f+1,q,i,hf,hi,hn,hI=>by
  rw[Hd];split
  ·rename_i h;have gn:=Sv q i n h;have kf:(Ha q i n-1)/2=i:=by unfold Ha;split<;>omega
   have hle:=λc=>A02 q i n c h
   generalize Ha q i n=k at *;split
   ·rename_i ab;refine Ahr n f _ _ q_ (by rw[Be];omega) (by rw[Be];exact hn) ⟨λc dx gx hck=>?_,λc dx gx nk bl=>?_⟩
    ·rw[H1 _ _ _ _ hi q_,H1 _ _ _ _ hi q_,zD hck];by_cases tq:c=k
     ·subst tq;rw[zE rfl,zE kf];exact Tt ab
     ·rw[zD tq];by_cases lh:c=i
      ·subst lh;rw[zE rfl,zD q_];exact hI.over k q_ gn.1 kf dx
      ·rw[zD lh];by_cases tr:(c-1)/2=i
       ·rw[zE tr];exact hle c dx gx tr
       ·rw[zD tr];exact hI.heap c dx gx tr
    ·rw[H1 _ _ _ _ hi q_,H1 _ _ _ _ hi q_];rw[zD q_,zD q_,kf,zD q_,zE rfl];have:=hI.heap c dx gx q_;rwa [nk]at this
   ·rename_i ab;intro c dx gx _;by_cases tr:(c-1)/2=i
    ·rw[tr];exact Ts (by simpa using ab) (hle c dx gx tr)
    ·exact hI.heap c dx gx tr
  ·exact λc dx hc _=>hI.heap c dx hc q_
def Ahp(n:Nat):∀(f:Nat) (q:List Item) (i c:Nat),i<n→n≤q.length→n≤c→(Hd f q i n).1.getD c default=q.getD c default
 |0,_,_,_,_,_,_=>rfl
 |f+1,q,i,c,hi,hn,hc=>by
  rw[Hd];split
  ·rename_i h;have gn:=Sv q i n h;split
   ·rw[Ahp n f _ _ c q_ (by rw[Be];exact hn) hc,H1 _ _ _ _ q_ q_,zD q_,zD q_]
   ·rfl
  ·rfl
def Ao5(q:List Item)(hq:q≠[]):(Ec q).getLast (Hg hq)=q.getD 0 default:=by
 have h0:0<q.length:=xV.2 hq;rw[List.getLast_eq_getElem,←Bn (show (Ec q).length-1<(Ec q).length by rw[Hn];omega),Hn];by_cases h1:q.length=1
 ·have:Ec q=q:=by
   obtain ⟨x,rfl⟩:=List.length_eq_one_iff.1 h1;rfl
  rw[this,h1]
 ·rw[Ec,Ahp _ _ _ _ _ q_ (by rw[Be];omega) (yD _),H1 _ _ _ _ h0 q_,zE rfl]
def Ay5(q:List Item)(hq:q≠[]):(Ec q).dropLast++[q.getD 0 default]=Ec q:=by
 rw[←Ao5 q hq];exact vV (Hg hq)
def A21(q:List Item)(hq:q≠[]):(q.getD 0 default::(Ec q).dropLast).Perm q :=
 ((List.perm_append_comm (l₁:=[q.getD 0 default]) (l₂:=(Ec q).dropLast)).trans (by rw[Ay5 q hq])).trans (Ws q hq)
def A22(q:List Item)(hq:q≠[])(h:O7 q q.length):O7 (Ec q).dropLast (Ec q).dropLast.length:=by
 have h0:0<q.length:=xV.2 hq;have hd:(Ec q).dropLast.length=q.length-1:=by rw[uX,Hn]
 have hh:O7 (Ec q) (q.length-1):=by
  rw[Ec];refine Ahr (q.length-1) _ _ _ q_ (by rw[Be];exact h0) (by rw[Be];omega) ⟨λc dx gx hp=>?_,λc dx gx hp h=>by omega⟩;rw[H1 _ _ _ _ h0 q_,H1 _ _ _ _ h0 q_,zD q_,zD q_,zD q_,zD hp];exact h c dx q_ q_
 intro c dx gx _;rw[hd]at gx;have hl:=Hn q;have e:∀k,k<q.length-1→(Ec q).dropLast.getD k default=(Ec q).getD k default:=λk hk=>by
  rw[Bn (show k<(Ec q).dropLast.length by omega),Bn (show k<(Ec q).length by omega),List.getElem_dropLast]
 rw[e c gx,e _ q_];exact hh c dx gx q_
def Ay6(q:List Item)(h:O7 q q.length):∀x∈q,Cr x (q.getD 0 default)=false:=λx hx=>by
 obtain ⟨c,hc,rfl⟩:=vM hx;have:=Auw h (yD _) c hc;rwa [Bn hc]at this
def Hs(ranks:List Int)(j:Nat):List Item:=(List.range j).foldl (λq (i:Nat)=>Xv q ⟨ranks.getD i 0,0,i⟩) []
def Ls(ranks:List Int)(j:Nat):Hs ranks (j+1)=Xv (Hs ranks j) ⟨ranks.getD j 0,0,j⟩:=by
 rw[Hs,vA,xN];rfl
def Qr(ranks:List Int):∀j,(Hs ranks j).length=j
 |0=>rfl
 |j+1=>by rw[Ls,Mu,Qr ranks j]
def Z8(roots:List Int):Nat:=roots.countP (λr=>decide (r<0))
def reachM(s:List Item×List Int×List Int):Nat:=41*Z8 s.2.1+s.1.length
structure ReachInv(n:Net)(s:List Item×List Int×List Int):Prop where
 rootsL:s.2.1.length=n.devices.length
 costsL:s.2.2.length=n.devices.length
 items:∀x∈s.1,0≤x.dev∧x.dev<n.devices.length∧0≤x.root∧0≤x.cost∧x.cost+65535*Z8 s.2.1≤65535*n.devices.length
 few:s.1.length+40*Z8 s.2.1≤1000
def A3p(roots:List Int):Z8 roots≤roots.length:=List.countP_le_length
def Azp{roots:List Int}{i:Nat}{v:Int}(h:i<roots.length)(h0:roots[i]<0)(hv:0≤v):Z8 (roots.set i v)+1=Z8 roots:=by
 have h1:0<roots.countP (λr=>decide (r<0)):=List.countP_pos_iff.2 ⟨roots[i],zJ h,by simpa using h0⟩;have hv':¬v<0:=by omega
 rw[Z8,Z8,List.countP_set h];simp only[h0,hv',decide_true,decide_false,if_true,uM,if_false];omega
def Al3(n:Net)(up:List Bool)(x:Item)(hr:Ac n=true)(aj:Cu n=true){m:Nat}(hx:0≤x.root∧0≤x.cost∧x.cost+65535*(m+1)≤65535*n.devices.length)(q:List Item)(hq:∀y∈q,0≤y.dev∧y.dev<n.devices.length∧0≤y.root∧0≤y.cost∧y.cost+65535*m≤65535*n.devices.length)(i:Nat)(hi:i<n.ports.length):(∀y∈Ep n up x q i,0≤y.dev∧y.dev<n.devices.length∧0≤y.root∧0≤y.cost∧y.cost+65535*m≤65535*n.devices.length)∧(Ep n up x q i).length≤q.length+1:=by
 rw[Ep];split
 ·rename_i h;have ab:=Ahj hr hi h.2;have hk:(Ed n up i).toNat<n.ports.length:=by omega
  have hd:=Vg hr hk;have hpc:1≤n.ports[(Ed n up i).toNat].cost∧n.ports[(Ed n up i).toNat].cost≤65535:=by
   simp only[Cu,yT,vD]at aj;have:=aj _ (zJ hk);simp only[Im,yO,zK,uL]at this;omega
  have e:nth n.ports (Ed n up i)=n.ports[(Ed n up i).toNat]:=Af (l:=n.ports) (i:=Ed n up i) q_;rw[e];refine⟨λy hy=>?_,by rw[Mu];omega⟩;rcases yH.1 ((Tg q _).mem_iff.1 hy) with rfl|hy
  ·simp only;omega
  ·exact hq y hy
 ·exact⟨hq,by omega⟩
def Af0(n:Net)(up:List Bool)(x:Item)(hr:Ac n=true)(aj:Cu n=true){m:Nat}(hx:0≤x.root∧0≤x.cost∧x.cost+65535*(m+1)≤65535*n.devices.length)(q:List Item)(hq:∀y∈q,0≤y.dev∧y.dev<n.devices.length∧0≤y.root∧0≤y.cost∧y.cost+65535*m≤65535*n.devices.length):∀i,i≤n.ports.length →
  (∀y∈(List.range i).foldl (Ep n up x) q,0≤y.dev∧y.dev<n.devices.length∧0≤y.root∧0≤y.cost∧y.cost+65535*m≤65535*n.devices.length)∧((List.range i).foldl (Ep n up x) q).length≤q.length+i
 |0,_=>⟨hq,by simp⟩
 |i+1,hi=>by
  obtain ⟨h1,h2⟩:=Af0 n up x hr aj hx q hq i q_;rw[vA,xN];obtain ⟨h3,h4⟩:=Al3 n up x hr aj hx _ h1 i q_;exact⟨h3,by simp only[vG,tJ];omega⟩
def Agp{q:List Item}(hq:q≠[]):(Ec q).getLast?.getD default=(Ec q).getLast (Hg hq):=by
 rw[List.getLast?_eq_some_getLast (Hg hq)];rfl
def Od(n:Net)(up:List Bool)(hr:Ac n=true)(aj:Cu n=true)(s:List Item×List Int×List Int)(hI:ReachInv n s)(af:s.1≠[]):ReachInv n (Te n up s)∧reachM (Te n up s)<reachM s:=by
 have hf:=Ib hr;have hx:=hI.items _ ((Ws s.1 af).mem_iff.1 (List.getLast_mem (Hg af)));have hd:∀y∈(Ec s.1).dropLast,y∈s.1:=λy hy=>(Ws s.1 af).mem_iff.1 ((List.dropLast_sublist _).subset hy)
 have h0:0<s.1.length:=xV.2 af;have fu:(Ec s.1).dropLast.length+1=s.1.length:=by rw[uX,Hn];omega
 have ns:=hI.few;rw[Te,Agp af];generalize (Ec s.1).getLast (Hg af)=x at *;split
 ·exact⟨⟨hI.rootsL,hI.costsL,λy hy=>hI.items y (hd y hy),by simp only;omega⟩,by unfold reachM;simp only;omega⟩
 ·rename_i jr;have hk:x.dev.toNat<s.2.1.length:=by rw[hI.rootsL];omega
  rw[Af (l:=s.2.1) (i:=x.dev) (by rw[hI.rootsL];omega)]at jr;have hm:=Azp hk q_ hx.2.2.1;obtain ⟨h1,h2⟩:=Af0 n up x hr aj (m:=Z8 (s.2.1.set x.dev.toNat x.root)) ⟨hx.2.2.1,hx.2.2.2.1,by have:=hx.2.2.2.2;omega⟩ (Ec s.1).dropLast (λy hy=>by have:=hI.items y (hd y hy);omega) n.ports.length (yD _);exact⟨⟨by simp only[yP];exact hI.rootsL,by simp only[yP];exact hI.costsL,h1,by simp only;omega⟩,by unfold reachM;simp only;omega⟩
def Ac9(n:Net)(up:List Bool)(hr:Ac n=true)(aj:Cu n=true):∀(f g:Nat) (s:List Item×List Int×List Int),ReachInv n s→reachM s≤f→reachM s≤g→I9 n up f s=I9 n up g s
 |0,0,_,_,_,_=>rfl
 |0,g+1,s,_,h,_=>by
  have:s.1=[]:=zX (by unfold reachM at h;omega);rw[I9,I9,zE this]
 |f+1,0,s,_,_,h=>by
  have:s.1=[]:=zX (by unfold reachM at h;omega);rw[I9,I9,zE this]
 |f+1,g+1,s,hI,h1,h2=>by
  rw[I9,I9];split
  ·rfl
  ·rename_i af;obtain ⟨h3,h4⟩:=Od n up hr aj s hI af;exact Ac9 n up hr aj f g _ h3 q_ q_
def Md(n:Net)(up:List Bool)(s:List Item×List Int×List Int):List Item×List Int×List Int:=I9 n up (reachM s) s
def Ath(n:Net)(up:List Bool)(s:List Item×List Int×List Int)(h:s.1=[]):Md n up s=s:=by
 rw[Md];cases reachM s with
 |zero=>rfl
 |succ m=>rw[I9,zE h]
def Aoz(n:Net)(up:List Bool)(hr:Ac n=true)(aj:Cu n=true)(s:List Item×List Int×List Int)(hI:ReachInv n s)(af:s.1≠[]):Md n up s=Md n up (Te n up s):=by
 obtain ⟨h3,h4⟩:=Od n up hr aj s hI af;rw[Md,Md];obtain ⟨m,hm⟩:∃m,reachM s=m+1:=⟨reachM s-1,by omega⟩
 rw[hm,I9,zD af];exact Ac9 n up hr aj _ _ _ h3 q_ (yD _)
def Ac0(ranks:List Int)(m:Nat)(o7:∀r∈ranks,0≤r):∀j,j≤ranks.length→∀y∈Hs ranks j,0≤y.dev∧y.dev<m+ranks.length∧0≤y.root∧y.cost=0
 |0,_,y,hy=>by simp[Hs]at hy
 |j+1,hj,y,hy=>by
  rw[Ls]at hy;rcases yH.1 ((Tg _ _).mem_iff.1 hy) with rfl|hy
  ·have h1:=o7 (ranks[j]'q_) (zJ _);have h2:(0:Int)≤(j:Int)∧(j:Int)<m+ranks.length:=by omega
   exact⟨h2.1,h2.2,by rw[Bn (show j<ranks.length by omega)];exact h1,E⟩
  ·exact Ac0 ranks m o7 j q_ y hy
def Ajo(n:Net)(ranks roots costs:List Int)(hr:Ac n=true)(np:ranks.length=n.devices.length)(nq:roots.length=n.devices.length)(hc:costs.length=n.devices.length)(o7:∀r∈ranks,0≤r):ReachInv n (Hs ranks ranks.length,roots,costs):=by
 have hf:=Ib hr;have hm:=A3p roots;refine⟨nq,hc,λy hy=>?_,by simp only[Qr];omega⟩;have:=Ac0 ranks 0 o7 _ (yD _) y hy;simp only;omega
def Le2(r c r' c':Int):Prop:=r<r'∨(r=r'∧c≤c')
def Az8{x y:Item}(h:Cr y x=false):Le2 x.root x.cost y.root y.cost:=by
 simp only[Cr,wJ,yE,yX,zR]at h;unfold Le2;omega
def Az7{a b c d e f:Int}(h1:Le2 a b c d)(h2:Le2 c d e f):Le2 a b e f:=by
 unfold Le2 at *;omega
def Aqa{a b c d m:Int}(h1:Le2 a b c d)(hm:0≤m):Le2 a b c (d+m):=by
 unfold Le2 at *;omega
def Mz(n:Net)(up:List Bool)(i j:Nat):Prop:=i<n.ports.length∧Ed n up i=j
def Tw{n:Net}{up:List Bool}(hr:Ac n=true){i j:Nat}(h:Mz n up i j):j<n.ports.length:=by
 have:=Ahj (up:=up) hr h.1 (by rw[h.2];omega);rw[h.2]at this;omega
def Aci{n:Net}{up:List Bool}(hr:Ac n=true){i j:Nat}(h:Mz n up i j):∃k:Nat,k<n.links.length∧(nth n.ports i).link=k∧(nth n.ports j).link=k∧up.getD k false=true∧(((nth n.links k).a=i∧(nth n.links k).b=j)∨((nth n.links k).a=j∧(nth n.links k).b=i))∧B7 n i≠B7 n j:=by
 have hj:=Tw hr h;obtain ⟨hi,hf⟩:=h;have hp:=Tc hr hi;have a7:=Wr hr hi;simp only[J8,zG,yO,yI]at hp;have hp:=hp.2;have e:nth n.ports i=n.ports[i]:=Af (l:=n.ports) (i:=(i:Int)) (by simpa using hi);unfold Ed at hf;rw[Bn hi]at hf;simp only at hf;split at hf
 ·omega
 ·rename_i hc;simp only[yO,zK,uL,yT,Bool.not_eq_false]at hc;rcases hp with hp|hp
  ·omega
  ·have hl:n.ports[i].link.toNat<n.links.length:=by omega
   have ak:=Yt hr hl;have he:=M1 hr hl;have ek:((n.ports[i].link.toNat:Nat):Int)=n.ports[i].link:=by omega
   refine⟨n.ports[i].link.toNat,hl,by rw[e];omega,?_⟩;simp only[Mj,zG,yI,xB]at ak;obtain ⟨⟨⟨_,af⟩,h1⟩,h2⟩:=ak;rw[ek];rw[Af (l:=n.links) (i:=n.ports[i].link) q_]at hf hp⊢;generalize n.links[n.ports[i].link.toNat]=l at *;rcases hp.2 with ha|hb
   ·have hb:l.b=j:=by omega
    rw[ha,hb]at af;rw[hb]at h2;exact⟨by omega,by simpa using hc.2,.inl ⟨ha,hb⟩,af⟩
   ·have ha:l.a=j:=by omega
    rw[ha,hb]at af;rw[ha]at h1;exact⟨by omega,by simpa using hc.2,.inr ⟨ha,hb⟩,λh=>af h.symm⟩
def Vy{n:Net}{up:List Bool}(hr:Ac n=true){i j:Nat}(h:Mz n up i j):Mz n up j i:=by
 have hj:=Tw hr h;obtain ⟨k,hk,_,h2,h3,h4,_⟩:=Aci hr h;refine⟨hj,?_⟩;unfold Ed;have e:n.ports.getD j default=nth n.ports j:=rfl;rw[e];simp only[h2,zZ,h3];rw[zD y_];omega
def Kr{n:Net}(hr:Ac n=true){i:Nat}(hi:i<n.ports.length):0≤B7 n i∧B7 n i<n.devices.length:=by
 rw[B7,Af (l:=n.ports) (i:=(i:Int)) (by simpa using hi)];exact Vg hr hi
def Der(n:Net)(up:List Bool)(K R C:Int→Int)(r c d:Int):Prop :=
 (r=K d∧c=0)∨∃i j:Nat,Mz n up i j∧B7 n i=d∧0≤R (B7 n j)∧r=R (B7 n j)∧c=C (B7 n j)+Lw n i
structure Dij(n:Net)(up:List Bool)(K:Int→Int)(q:List Item)(R C:Int→Int):Prop where
 heap:O7 q q.length
 items:∀x∈q,Der n up K R C x.root x.cost x.dev
 done:∀d:Int,0≤d→d<n.devices.length→0≤R d→Der n up K R C (R d) (C d) d
 own:∀d:Int,0≤d→d<n.devices.length→R d<0→⟨K d,0,d⟩∈q
 push:∀i j:Nat,Mz n up i j→R (B7 n i)<0→0≤R (B7 n j)→⟨R (B7 n j),C (B7 n j)+Lw n i,B7 n i⟩∈q
 low:∀d:Int,0≤d→d<n.devices.length→0≤R d→∀x∈q,Le2 (R d) (C d) x.root x.cost
 self:∀d:Int,0≤d→d<n.devices.length→0≤R d→Le2 (R d) (C d) (K d) 0
 tri:∀i j:Nat,Mz n up i j→0≤R (B7 n i)→0≤R (B7 n j)→Le2 (R (B7 n i)) (C (B7 n i)) (R (B7 n j)) (C (B7 n j)+Lw n i)
def Afy(n:Net)(up:List Bool)(x:Item)(q:List Item)(y:Item):∀m,y∈(List.range m).foldl (Ep n up x) q↔y∈q∨∃i,i<m∧B7 n i=x.dev∧0≤Ed n up i∧y=⟨x.root,x.cost+(nth n.ports (Ed n up i)).cost,(nth n.ports (Ed n up i)).dev⟩
 |0=>by simp
 |m+1=>by
  rw[vA,xN];simp only[vG,tJ];rw[Ep];have ih:=Afy n up x q y m;have e:(n.ports.getD m default).dev=B7 n m:=rfl;rw[e];split
  ·rename_i h;rw[(Tg _ _).mem_iff,yH,ih];constructor
   ·rintro (h1|h1|⟨i,h1,h2⟩)
    ·exact .inr ⟨m,by omega,h.1,h.2,h1⟩
    ·exact .inl h1
    ·exact .inr ⟨i,by omega,h2⟩
   ·rintro (h1|⟨i,h1,h2,h3,h4⟩)
    ·exact .inr (.inl h1)
    ·by_cases hm:i=m
     ·subst hm;exact .inl h4
     ·exact .inr (.inr ⟨i,by omega,h2,h3,h4⟩)
  ·rename_i h;rw[ih];constructor
   ·rintro (h1|⟨i,h1,h2⟩)
    ·exact .inl h1
    ·exact .inr ⟨i,by omega,h2⟩
   ·rintro (h1|⟨i,h1,h2,h3,h4⟩)
    ·exact .inl h1
    ·by_cases hm:i=m
     ·subst hm;exact yB ⟨h2,h3⟩ h
     ·exact .inr ⟨i,by omega,h2,h3,h4⟩
def Ac8(n:Net)(up:List Bool)(x:Item)(q:List Item)(h:O7 q q.length):∀m,O7 ((List.range m).foldl (Ep n up x) q) ((List.range m).foldl (Ep n up x) q).length
 |0=>h
 |m+1=>by
  rw[vA,xN];simp only[vG,tJ];have ih:=Ac8 n up x q h m;rw[Ep];split
  ·exact Af6 _ _ ih
  ·exact ih
def Aht{n:Net}{up:List Bool}{K R C R' C':Int→Int}{r c d:Int}(h:Der n up K R C r c d)(hs:∀e,0≤R e→R' e=R e∧C' e=C e):Der n up K R' C' r c d:=by
 rcases h with h|⟨i,j,h1,h2,h3,h4,h5⟩
 ·exact .inl h
 ·obtain ⟨e1,e2⟩:=hs _ h3;exact .inr ⟨i,j,h1,h2,by rw[e1];exact h3,by rw[e1];exact h4,by rw[e2];exact h5⟩
def A5a{n:Net}{up:List Bool}{K R C:Int→Int}{q q':List Item}{x:Item}(h:Dij n up K q R C)(hp:(x::q').Perm q)(hh:O7 q' q'.length)(hx:0≤R x.dev):Dij n up K q' R C:=by
 have hm:∀y,y∈q↔y=x∨y∈q':=λy=>by rw[←hp.mem_iff,yH]
 refine⟨hh,λy hy=>h.items y ((hm y).2 (.inr hy)),h.done,λd h0 h1 h2=>?_,λi j bc h1 h2=>?_,λd h0 h1 h2 y hy=>h.low d h0 h1 h2 y ((hm y).2 (.inr hy)),h.self,h.tri⟩
 ·rcases (hm _).1 (h.own d h0 h1 h2) with e|e
  ·rw[←e]at hx;simp only at hx;omega
  ·exact e
 ·rcases (hm _).1 (h.push i j bc h1 h2) with e|e
  ·rw[←e]at hx;simp only at hx;omega
  ·exact e
def A49{n:Net}{up:List Bool}{K R C R' C':Int→Int}{q q':List Item}{x:Item}(hr:Ac n=true)(aj:Cu n=true)(h:Dij n up K q R C)(hp:(x::q').Perm q)(hh:O7 q' q'.length)(hmin:∀y∈q,Cr y x=false)(hx:R x.dev<0)(iz:0≤x.root)(_hxd:0≤x.dev∧x.dev<n.devices.length)(hR:∀e,R' e=if e=x.dev then x.root else R e)(hC:∀e,C' e=if e=x.dev then x.cost else C e):Dij n up K ((List.range n.ports.length).foldl (Ep n up x) q') R' C':=by
 have hm:∀y,y∈q↔y=x∨y∈q':=λy=>by rw[←hp.mem_iff,yH]
 have hn:=λy=>Afy n up x q' y n.ports.length
 have hs:∀e,0≤R e→R' e=R e∧C' e=C e:=λe he=>by
  have:e≠x.dev:=λh=>by rw[h]at he;omega
  rw[hR,hC,zD this,zD this];exact⟨E,E⟩
 have rp:R' x.dev=x.root:=by rw[hR,zE rfl]
 have uz:C' x.dev=x.cost:=by rw[hC,zE rfl]
 have hxq:x∈q:=(hm x).2 (.inl rfl);have hle:∀y∈q,Le2 x.root x.cost y.root y.cost:=λy hy=>Az8 (hmin y hy)
 have az:∀y,y∈(List.range n.ports.length).foldl (Ep n up x) q'↔y∈q'∨∃i j:Nat,Mz n up i j∧B7 n i=x.dev∧y=⟨x.root,x.cost+Lw n j,B7 n j⟩:=λy=>by
  rw[hn y];constructor
  ·rintro (h1|⟨i,h1,h2,h3,h4⟩)
   ·exact .inl h1
   ·obtain ⟨j,hj⟩:∃j:Nat,Ed n up i=j:=⟨(Ed n up i).toNat,by omega⟩
    rw[hj]at h4;exact .inr ⟨i,j,⟨h1,hj⟩,h2,h4⟩
  ·rintro (h1|⟨i,j,h1,h2,h3⟩)
   ·exact .inl h1
   ·refine .inr ⟨i,h1.1,h2,by rw[h1.2];omega,?_⟩;rw[h1.2];exact h3
 refine⟨Ac8 n up x q' hh _,λy hy=>?_,λd h0 h1 h2=>?_,λd h0 h1 h2=>?_,λi j bc h1 h2=>?_,λd h0 h1 h2 y hy=>?_,λd h0 h1 h2=>?_,λi j bc h1 h2=>?_⟩
 ·rcases (az y).1 hy with hy|⟨i,j,h1,h2,rfl⟩
  ·exact Aht (h.items y ((hm y).2 (.inr hy))) hs
  ·exact .inr ⟨j,i,Vy hr h1,E,by rw[h2,rp];exact iz,by rw[h2,rp],by rw[h2,uz]⟩
 ·by_cases hd:d=x.dev
  ·subst hd;rw[rp,uz];exact Aht (h.items x hxq) hs
  ·rw[hR,zD hd]at h2;obtain ⟨e1,e2⟩:=hs d h2;rw[e1,e2];exact Aht (h.done d h0 h1 h2) hs
 ·have hd:d≠x.dev:=λe=>by rw[e,rp]at h2;omega
  rw[hR,zD hd]at h2;refine(az _).2 (.inl ?_);rcases (hm _).1 (h.own d h0 h1 h2) with e|e
  ·exact yB (zH Item.dev e) hd
  ·exact e
 ·have hd:B7 n i≠x.dev:=λe=>by rw[e,rp]at h1;omega
  rw[hR,zD hd]at h1;by_cases hj:B7 n j=x.dev
  ·rw[hj,rp,uz];exact(az _).2 (.inr ⟨j,i,Vy hr bc,hj,E⟩)
  ·rw[hR,zD hj]at h2;obtain ⟨e1,e2⟩:=hs _ h2;rw[e1,e2];refine(az _).2 (.inl ?_);rcases (hm _).1 (h.push i j bc h1 h2) with e|e
   ·exact yB (zH Item.dev e) hd
   ·exact e
 ·have hdx:Le2 (R' d) (C' d) x.root x.cost:=by
   by_cases hd:d=x.dev
   ·subst hd;rw[rp,uz];exact .inr ⟨rfl,wB _⟩
   ·rw[hR,zD hd]at h2;obtain ⟨e1,e2⟩:=hs d h2;rw[e1,e2];exact h.low d h0 h1 h2 x hxq
  rcases (az y).1 hy with hy|⟨i,j,h3,_,rfl⟩
  ·exact Az7 hdx (hle y ((hm y).2 (.inr hy)))
  ·exact Aqa hdx (by have:=Z3 aj (Tw hr h3);omega)
 ·by_cases hd:d=x.dev
  ·subst hd;rw[rp,uz];exact hle _ (h.own _ h0 h1 hx)
  ·rw[hR,zD hd]at h2;obtain ⟨e1,e2⟩:=hs d h2;rw[e1,e2];exact h.self d h0 h1 h2
 ·have hj:=Tw hr bc;have hpc:=Z3 aj bc.1;have af:=(Aci hr bc).choose_spec.2.2.2.2.2;by_cases hd:B7 n i=x.dev
  ·rw[hd,rp,uz];have tt:B7 n j≠x.dev:=λe=>af (by rw[hd,e])
   rw[hR,zD tt]at h2;obtain ⟨e1,e2⟩:=hs _ h2;rw[e1,e2];exact hle _ (h.push i j bc (by rw[hd];exact hx) h2)
  ·rw[hR,zD hd]at h1;obtain ⟨e1,e2⟩:=hs _ h1;rw[e1,e2];by_cases tt:B7 n j=x.dev
   ·rw[tt,rp,uz];have fu:=Kr hr bc.1;exact Aqa (h.low _ fu.1 fu.2 h1 x hxq) q_
   ·rw[hR,zD tt]at h2;obtain ⟨e3,e4⟩:=hs _ h2;rw[e3,e4];exact h.tri i j bc h1 h2
def atI(l:List Int)(e:Int):Int:=if e<0 then -1 else nth l e
def O5{l:List Int}{e:Int}(h:0≤e):atI l e=nth l e:=by rw[atI,zD q_]
def Axk{l:List Int}{d v:Int}(h0:0≤d)(h1:d<l.length)(e:Int):atI (l.set d.toNat v) e=if e=d then v else atI l e:=by
 by_cases he:e<0
 ·rw[atI,zE he,zD q_,atI,zE he]
 ·rw[atI,zD he,atI,zD he,nth,nth,uY];by_cases hd:e=d
  ·subst hd;rw[zE rfl,zE rfl,zE q_];rfl
  ·rw[zD q_,zD hd]
structure DijS(n:Net)(up:List Bool)(ranks:List Int)(s:List Item×List Int×List Int):Prop where
 inv:ReachInv n s
 dij:Dij n up (atI ranks) s.1 (atI s.2.1) (atI s.2.2)
 bound:∀c∈s.2.2,0≤c∧c≤1000000
def Ati(n:Net)(up:List Bool)(ranks:List Int)(hr:Ac n=true)(aj:Cu n=true)(s:List Item×List Int×List Int)(hI:DijS n up ranks s)(af:s.1≠[]):DijS n up ranks (Te n up s):=by
 have hf:=Ib hr;have h1:=(Od n up hr aj s hI.inv af).1;have db:=A21 s.1 af;have mq:=A22 s.1 af hI.dij.heap;have u0:=Ay6 s.1 hI.dij.heap;have hx:=hI.inv.items _ (db.mem_iff.1 (List.mem_cons_self ..));have wy:=hI.inv.rootsL;have gn:=hI.inv.costsL;have hd:=hI.dij;have hb:=hI.bound;rw[Te,Agp af,Ao5 s.1 af]at *;generalize s.1.getD 0 default=x at *;try simp only at *
 have ea:nth s.2.1 x.dev=atI s.2.1 x.dev:=(O5 hx.1).symm;rw[ea];rw[ea]at h1;split
 ·rename_i hc;rw[zE hc]at h1;exact⟨h1,A5a hd db mq hc,hb⟩
 ·rename_i hc;rw[zD hc]at h1;refine⟨h1,A49 hr aj hd db mq u0 q_ hx.2.2.1 ⟨hx.1,hx.2.1⟩ (Axk hx.1 q_) (Axk hx.1 q_),λc hc=>?_⟩;rcases Go.uU hc with h|h
  ·exact hb c h
  ·omega
def Af1(n:Net)(up:List Bool)(ranks:List Int)(hr:Ac n=true)(aj:Cu n=true):∀(f:Nat) (s:List Item×List Int×List Int),DijS n up ranks s→reachM s≤f→DijS n up ranks (I9 n up f s)∧(I9 n up f s).1=[]
 |0,s,h,hf=>⟨h,zX (by unfold reachM at hf;rw[I9];omega)⟩
 |f+1,s,h,hf=>by
  rw[I9];split
  ·rename_i he;exact⟨h,he⟩
  ·rename_i af;exact Af1 n up ranks hr aj f _ (Ati n up ranks hr aj s h af) (by have:=(Od n up hr aj s h.inv af).2;omega)
structure Solved(n:Net)(up:List Bool)(ranks roots costs:List Int):Prop where
 rootsL:roots.length=n.devices.length
 costsL:costs.length=n.devices.length
 bound:∀c∈costs,0≤c∧c≤1000000
 root:∀d:Int,0≤d→d<n.devices.length→0≤nth roots d
 self:∀d:Int,0≤d→d<n.devices.length→Le2 (nth roots d) (nth costs d) (nth ranks d) 0
 tri:∀i j:Nat,Mz n up i j→Le2 (nth roots (B7 n i)) (nth costs (B7 n i)) (nth roots (B7 n j)) (nth costs (B7 n j)+Lw n i)
 der:∀d:Int,0≤d→d<n.devices.length→(nth roots d=nth ranks d∧nth costs d=0)∨∃i j:Nat,Mz n up i j∧B7 n i=d∧nth roots d=nth roots (B7 n j)∧nth costs d=nth costs (B7 n j)+Lw n i
def Aye(n:Net)(up:List Bool)(ranks:List Int)(hr:Ac n=true)(s:List Item×List Int×List Int)(h:DijS n up ranks s)(he:s.1=[]):Solved n up ranks s.2.1 s.2.2:=by
 have hd:=h.dij;rw[he]at hd;have h0:∀d:Int,0≤d→d<n.devices.length→0≤atI s.2.1 d:=λd h1 h2=>by
  by_cases hc:0≤atI s.2.1 d
  ·exact hc
  ·have:=hd.own d h1 h2 q_;simp at this
 refine⟨h.inv.rootsL,h.inv.costsL,h.bound,λd h1 h2=>?_,λd h1 h2=>?_,λi j bc=>?_,λd h1 h2=>?_⟩
 ·have:=h0 d h1 h2;rwa [O5 h1]at this
 ·have:=hd.self d h1 h2 (h0 d h1 h2);simpa only [O5 h1] using this
 ·have hi:=Kr hr bc.1;have hj:=Kr hr (Tw hr bc);have:=hd.tri i j bc (h0 _ hi.1 hi.2) (h0 _ hj.1 hj.2);simpa only [O5 hi.1,O5 hj.1] using this
 ·rcases hd.done d h1 h2 (h0 d h1 h2) with h3|⟨i,j,h3,h4,_,h5,h6⟩
  ·simp only[O5 h1]at h3;exact .inl h3
  ·have hj:=Kr hr (Tw hr h3);simp only[O5 h1,O5 hj.1]at h5 h6;exact .inr ⟨i,j,h3,h4,h5,h6⟩
def Abz(ranks:List Int)(y:Item):∀j,y∈Hs ranks j↔∃i,i<j∧y=⟨ranks.getD i 0,0,i⟩
 |0=>by simp[Hs]
 |j+1=>by
  rw[Ls,(Tg _ _).mem_iff,yH,Abz ranks y j];constructor
  ·rintro (h|⟨i,h1,h2⟩)
   ·exact⟨j,by omega,h⟩
   ·exact⟨i,by omega,h2⟩
  ·rintro ⟨i,h1,h2⟩;by_cases h:i=j
   ·subst h;exact .inl h2
   ·exact .inr ⟨i,by omega,h2⟩
def Afk(ranks:List Int):∀j,O7 (Hs ranks j) (Hs ranks j).length
 |0=>λc _ h2 _=>by simp[Hs]at h2
 |j+1=>by
  rw[Ls];exact Af6 _ _ (Afk ranks j)
def Aiu{v:Int}{m:Nat}{d:Int}(h1:d<m)(h0:0≤d):nth (List.replicate m v) d=v:=by
 rw[Af (by simp;omega)];simp
def Ayc(n:Net)(up:List Bool)(ranks:List Int)(hr:Ac n=true)(np:ranks.length=n.devices.length)(o7:∀r∈ranks,0≤r):DijS n up ranks (Hs ranks ranks.length,List.replicate n.devices.length (-1),List.replicate n.devices.length 0):=by
 have jr:∀d:Int,0≤d→d<n.devices.length→atI (List.replicate n.devices.length (-1)) d=-1:=λd h0 h1=>by rw[O5 h0,Aiu h1 h0]
 refine⟨Ajo n ranks _ _ hr np y_ y_ o7,⟨Afk ranks _,λx hx=>?_,λd h0 h1 h2=>?_,λd h0 h1 h2=>?_,λi j bc h1 h2=>?_,λd h0 h1 h2=>?_,λd h0 h1 h2=>?_,λi j bc h1 h2=>?_⟩,λc hc=>?_⟩
 ·obtain ⟨i,h1,rfl⟩:=(Abz ranks x _).1 hx;refine .inl ⟨?_,E⟩;simp only;rw[O5 q_,Af (by simpa using h1),Bn h1];rfl
 ·rw[jr d h0 h1]at h2;omega
 ·refine(Abz ranks _ _).2 ⟨d.toNat,by omega,?_⟩;rw[O5 h0,Af q_,Bn q_,yR h0]
 ·have hj:=Kr hr (Tw hr bc);rw[jr _ hj.1 hj.2]at h2;omega
 ·rw[jr d h0 h1]at h2;omega
 ·rw[jr d h0 h1]at h2;omega
 ·have hj:=Kr hr (Tw hr bc);rw[jr _ hj.1 hj.2]at h2;omega
 ·have:=List.eq_of_mem_replicate hc;omega
def Ve(n:Net)(up:List Bool)(ranks:List Int):List Item×List Int×List Int:=Md n up (Hs ranks ranks.length,List.replicate n.devices.length (-1),List.replicate n.devices.length 0)
def Ail(n:Net)(up:List Bool)(ranks:List Int)(hr:Ac n=true)(aj:Cu n=true)(np:ranks.length=n.devices.length)(o7:∀r∈ranks,0≤r):Solved n up ranks (Ve n up ranks).2.1 (Ve n up ranks).2.2:=by
 obtain ⟨h1,h2⟩:=Af1 n up ranks hr aj _ _ (Ayc n up ranks hr np o7) (yD _);exact Aye n up ranks hr _ h1 h2
section
variable {n:Net} {up:List Bool} {ranks roots costs:List Int}
theorem U1(S:Solved n up ranks roots costs)(hr:Ac n=true){i j:Nat}(h:Mz n up i j):nth roots (B7 n i)=nth roots (B7 n j):=by
 have h1:=S.tri i j h;have h2:=S.tri j i (Vy hr h);unfold Le2 at h1 h2;omega
theorem Asz(S:Solved n up ranks roots costs)(hr:Ac n=true){i j:Nat}(h:Mz n up i j):nth costs (B7 n i)≤nth costs (B7 n j)+Lw n i:=by
 have h1:=S.tri i j h;have h2:=U1 S hr h;unfold Le2 at h1;omega
theorem As0(S:Solved n up ranks roots costs){d:Int}(h0:0≤d)(h1:d<n.devices.length)(h:nth roots d≠nth ranks d):∃i j:Nat,Mz n up i j∧B7 n i=d∧nth roots d=nth roots (B7 n j)∧nth costs d=nth costs (B7 n j)+Lw n i:=by
 rcases S.der d h0 h1 with h2|h2
 ·exact yB h2.1 h
 ·exact h2
theorem best_mem{dev:Int}{v:Vec}:v∈K8 n up ranks roots costs dev n.ports.length↔∃i j:Nat,Mz n up i j∧B7 n i=dev∧v=⟨nth roots (B7 n j),nth costs (B7 n j)+Lw n i,nth ranks (B7 n j),j,i⟩:=by
 rw[K8,wE];constructor
 ·rintro ⟨i,hi,he⟩;have hi:=xC.1 hi;unfold Aa9 at he;simp only at he;split at he
  ·rename_i hc;simp only[zG,yI,zK]at hc;obtain ⟨j,hj⟩:∃j:Nat,Ed n up i=j:=⟨(Ed n up i).toNat,by omega⟩
   rw[hj]at he;exact⟨i,j,⟨hi,hj⟩,hc.1,(Option.some.inj he).symm⟩
  ·cases he
 ·rintro ⟨i,j,⟨hi,hj⟩,hd,rfl⟩;refine⟨i,xC.2 hi,?_⟩;unfold Aa9;have e:(n.ports.getD i default).dev=dev:=hd;simp only[hj,e];rw[zE y_];rfl
theorem Aba{d:Int}{i:Nat}(h:E9 n up ranks roots costs d=i):∃j:Nat,Mz n up i j∧B7 n i=d∧nth roots d≠nth ranks d∧(Jz (K8 n up ranks roots costs d n.ports.length)).1=⟨nth roots (B7 n j),nth costs (B7 n j)+Lw n i,nth ranks (B7 n j),j,i⟩:=by
 have em:=@Auj (K8 n up ranks roots costs d n.ports.length);unfold E9 at h;simp only at h;split at h
 ·omega
 ·rename_i hc;simp only[yO,yT,uL,Bool.not_eq_false,yI]at hc;obtain ⟨i',j,h1,h2,h3⟩:=best_mem.1 (em hc.1);rw[h3]at h;have:i'=i:=by simp only at h;omega
  subst this;exact⟨j,h1,h2,hc.2,h3⟩
theorem Alb(S:Solved n up ranks roots costs)(hr:Ac n=true){d:Int}(h0:0≤d)(h1:d<n.devices.length)(h:nth roots d≠nth ranks d):∃i j:Nat,Mz n up i j∧B7 n i=d∧E9 n up ranks roots costs d=i∧nth costs d=nth costs (B7 n j)+Lw n i:=by
 obtain ⟨p,q,g1,g2,g3,g4⟩:=As0 S h0 h1 h;have hm:=(best_mem (ranks:=ranks) (roots:=roots) (costs:=costs)).2 ⟨p,q,g1,g2,rfl⟩;have h2:(Jz (K8 n up ranks roots costs d n.ports.length)).2=true:=by
  cases hb:(Jz (K8 n up ranks roots costs d n.ports.length)).2
  ·rw[(Ap7 hb).1]at hm;simp at hm
  ·rfl
 obtain ⟨i,j,e1,e2,e3⟩:=best_mem.1 (Auj h2);have hle:=Az5 _ _ hm;rw[e3]at hle;refine⟨i,j,e1,e2,?_,?_⟩
 ·unfold E9;simp only[h2,Bool.not_true,uB,yI];rw[zD h,e3]
 ·have r1:=U1 S hr e1;have v1:=Asz S hr e1;rw[e2]at r1 v1;simp only[Hc]at hle
  grind
theorem Aco(S:Solved n up ranks roots costs)(hr:Ac n=true){i j:Nat}(bc:Mz n up i j)(h:E9 n up ranks roots costs (B7 n i)=i):nth costs (B7 n i)=nth costs (B7 n j)+Lw n i:=by
 have hd:=Kr hr bc.1;obtain ⟨_,_,_,af,_⟩:=Aba h;obtain ⟨i',j',e1,e2,e3,e4⟩:=Alb S hr hd.1 hd.2 af;have:i'=i:=by omega
 subst this;have:j'=j:=by
  have h1:=e1.2;have h2:=bc.2;omega
 subst this;exact e4
theorem As9(n:Net)(up:List Bool)(ranks costs:List Int){p:Nat}(hp:p<n.ports.length):nth (Jy n up ranks costs n.ports.length) p=Xr n up ranks costs p:=by
 rw[Af (by rw[Qs];simpa using hp)];simp[Jy,hp]
theorem Zt(n:Net)(up:List Bool)(ranks roots costs:List Int){p:Nat}(hp:p<n.ports.length):∀e:Nat,(∀d:Nat,d<e→E9 n up ranks roots costs d≠p)→nth (Kn n up ranks roots costs e) p=Xr n up ranks costs p
 |0,_=>As9 n up ranks costs hp
 |e+1,h=>by
  have ih:=Zt n up ranks roots costs hp e (λd hd=>h d q_);have af:=h e q_;rw[Kn];split
  ·rw[nth,List.getElem?_set_ne q_];exact ih
  ·exact ih
theorem Ac7(n:Net)(up:List Bool)(ranks roots costs:List Int){p:Nat}(hp:p<n.ports.length):∀(e d:Nat),d<e→E9 n up ranks roots costs d=p→nth (Kn n up ranks roots costs e) p=1
 |0,_,h,_=>yB h q_
 |e+1,d,h,hb=>by
  have hl:=Jf n up ranks roots costs e;rw[Kn];by_cases z7:E9 n up ranks roots costs e=p
  ·rw[z7,zE q_,nth,zZ,vK q_];rfl
  ·have hde:d≠e:=λh=>z7 (by rw[←h];exact hb)
   have ih:=Ac7 n up ranks roots costs hp e d q_ hb;split
   ·rw[nth,List.getElem?_set_ne q_];exact ih
   ·exact ih
def Ys(n:Net)(up:List Bool)(ranks roots costs:List Int):List Int:=Kn n up ranks roots costs n.devices.length
theorem Ab2(hr:Ac n=true){p:Nat}(hp:p<n.ports.length):nth (Ys n up ranks roots costs) p=if E9 n up ranks roots costs (B7 n p)=p then 1 else Xr n up ranks costs p:=by
 have hd:=Kr hr hp;split
 ·rename_i h;refine Ac7 n up ranks roots costs hp _ (B7 n p).toNat q_ ?_;rw[yR hd.1];exact h
 ·rename_i h;refine Zt n up ranks roots costs hp _ (λd _ hb=>h ?_);obtain ⟨_,_,h2,_⟩:=Aba hb;rw[h2];exact hb
theorem Ayu{p q:Nat}(h:Mz n up p q):Xr n up ranks costs p=if nth costs (B7 n p)<nth costs (B7 n q)∨(nth costs (B7 n p)=nth costs (B7 n q)∧nth ranks (B7 n p)<nth ranks (B7 n q)) then 2 else 3:=by
 rw[Xr,h.2,zD q_,zZ,M0];have e1:(n.ports.getD p default).dev=B7 n p:=rfl;have e2:(n.ports.getD q default).dev=B7 n q:=rfl;simp only[e1,e2,yO,zK,zG,yI]
theorem Ah1(S:Solved n up ranks roots costs)(hr:Ac n=true)(aj:Cu n=true){i j:Nat}(bc:Mz n up i j)(h:E9 n up ranks roots costs (B7 n i)=i):nth (Ys n up ranks roots costs) i=1∧nth (Ys n up ranks roots costs) j=2:=by
 have hj:=Tw hr bc;have hb:=Vy hr bc;have hc:=Aco S hr bc h;have hp:=Z3 aj bc.1;have d8:=Z3 aj hj;refine⟨by rw[Ab2 hr bc.1,zE h],?_⟩;rw[Ab2 hr hj,zD (λhbj=>?_),Ayu hb,zE (.inl q_)];have:=Aco S hr hb hbj;omega
def Am0(aw:List Int)(l:Link):Bool:=inB [nth aw l.a,nth aw l.b] 1&&inB [nth aw l.a,nth aw l.b] 2
def A0i(n:Net)(aw:List Int):List Bool:=n.links.map (Am0 aw)
theorem Ap0(hr:Ac n=true){k:Nat}(hk:k<n.links.length):∃a b:Nat,n.links[k].a=a∧n.links[k].b=b∧a<n.ports.length∧b<n.ports.length∧B7 n a≠B7 n b∧(nth n.ports a).link=k∧(nth n.ports b).link=k:=by
 have he:=M1 hr hk;have hl:=Yt hr hk;simp only[Mj,zG,yI,xB]at hl;have ea:((n.links[k].a.toNat:Nat):Int)=n.links[k].a:=by omega
 have eb:((n.links[k].b.toNat:Nat):Int)=n.links[k].b:=by omega
 exact⟨n.links[k].a.toNat,n.links[k].b.toNat,ea.symm,eb.symm,by omega,by omega,by rw[B7,B7,ea,eb];exact hl.1.1.2,by rw[ea];exact hl.1.2,by rw[eb];exact hl.2⟩
theorem Aae(_hr:Ac n=true){k a b:Nat}(hk:k<n.links.length)(ha:n.links[k].a=a)(hb:n.links[k].b=b)(ee:(nth n.ports a).link=k)(hp:a<n.ports.length)(hu:up.getD k false=true):Mz n up a b:=by
 refine⟨hp,?_⟩;unfold Ed;have e:n.ports.getD a default=nth n.ports a:=rfl;rw[e];simp only[ee,zZ,hu];rw[zD y_,Af (l:=n.links) (i:=(k:Int)) (by simpa using hk)];simp only[zZ];omega
theorem Aj6{k a:Nat}(ee:(nth n.ports a).link=k)(hu:up.getD k false=false):Ed n up a=-1:=by
 unfold Ed;have e:n.ports.getD a default=nth n.ports a:=rfl;rw[e];simp only[ee,zZ,hu,wM,Bool.or_true,if_true]
theorem Aw6(S:Solved n up ranks roots costs)(hr:Ac n=true)(aj:Cu n=true){k a b:Nat}(hk:k<n.links.length)(ha:n.links[k].a=a)(hb:n.links[k].b=b)(nu:a<n.ports.length)(tu:b<n.ports.length)(ee:(nth n.ports a).link=k)(rq:(nth n.ports b).link=k):Am0 (Ys n up ranks roots costs) n.links[k]=true↔up.getD k false=true∧(E9 n up ranks roots costs (B7 n a)=a∨E9 n up ranks roots costs (B7 n b)=b):=by
 rw[Am0,ha,hb];have af:∀p:Nat,p<n.ports.length→nth (Ys n up ranks roots costs) p=1→E9 n up ranks roots costs (B7 n p)=p:=λp hp h=>by
  rw[Ab2 hr hp]at h;split at h
  ·assumption
  ·rw[Xr]at h;split at h
   ·omega
   ·split at h<;>omega
 constructor
 ·intro h;simp only[inB,List.any_cons,List.any_nil,Bool.or_false,zG,yO,yI]at h;have mz:E9 n up ranks roots costs (B7 n a)=a∨E9 n up ranks roots costs (B7 n b)=b:=by
   rcases h.1 with h1|h1
   ·exact .inl (af a nu h1)
   ·exact .inr (af b tu h1)
  refine⟨?_,mz⟩;cases hu:up.getD k false
  ·rcases mz with h1|h1
   ·obtain ⟨j,h2,_⟩:=Aba h1;have:=h2.2;rw[Aj6 ee hu]at this;omega
   ·obtain ⟨j,h2,_⟩:=Aba h1;have:=h2.2;rw[Aj6 rq hu]at this;omega
  ·rfl
 ·rintro ⟨hu,h|h⟩
  ·have hop:=Aae hr hk ha hb ee nu hu;obtain ⟨h1,h2⟩:=Ah1 S hr aj hop h;rw[h1,h2];rfl
  ·have hop:=Vy hr (Aae hr hk ha hb ee nu hu);obtain ⟨h1,h2⟩:=Ah1 S hr aj hop h;rw[h1,h2];rfl
end
end Go.Sy.YtolnneiipmfgaaaGreatDoor
