/-
  K34 Sy24 T1 T2 T3 T4 V6 V7 V8 T5 T6 T7 T8 T9 T10 T11 T12 T13 T15 T16 T17 T14 T19 T21 Z0 Z1 K35 K36: parts of a proof, joined by program.
-/
import Derived.Test.YteinjapglfkamaaGreatXA6
import Derived.Test.YteinjapglfkamaaGreatXA3
import Derived.Test.YteinjapglfkamaaGreatXA5
namespace Go.Sy.YteinjapglfkamaaGreat
open Go.Proofs
attribute [local irreducible] Go.Sy.G Go.Sy.DR
set_option maxRecDepth 100000
set_option maxHeartbeats 4000000
def C7 (p:PacketM) (v e:Int):List SV:=[Aa p.tos,Aa p.id,Aa p.ttl,Aa p.proto,Bj p.src,Bj p.dst,.sl 1 Ao p.body,Aa v,Aa e]
def Ck (is:Bool) (re e:Int):Int:=if is=true∧re=0 then e else re
theorem Tk (p:PacketM) (v re:Int) (is:Bool) (e:Int):Sy.Spec Tryz.prog 380 [.ptr 0 0,Ad is,Aa e] [(0,.box (C7 p v re))] (.tup []) [(0,.box (C7 p v (Ck is re e)))]:=Ab Γ hm 100 F380 Tryz.ntmps380 rfl fun F hF=>by
 cases is
 ·have h:Ck false re e=re:=by simp[Ck]
  rw[h]
  ((conv=>whnf);refine aF ?_;refine rg ?_;(conv=>whnf);refine aF ?_;refine rg ?_;conv=>whnf)
  exact Ba E .nil [] [(0,.box (C7 p v re))] (fun _ h=>h) E E ⟨Y,⟨.inl E,E,Y⟩,E,E⟩
 ·((conv=>whnf);refine aT ?_;refine rg ?_;conv=>whnf)
  refine⟨fun h=>?_,fun h=>?_⟩
  ·have h2:Ck true re e=e:=by show (if true=true∧re=0 then e else re)=e;rw[if_pos ⟨rfl,by simpa using h⟩]
   rw[h2]
   refine rg ?_;conv=>whnf
   exact Ba E .nil [] [(0,.box (C7 p v e))] (fun _ h=>h) E E ⟨Y,⟨.inl E,E,Y⟩,E,E⟩
  ·have h2:Ck true re e=re:=by
    show (if true=true∧re=0 then e else re)=re
    rw[if_neg (fun h3=>by
     have h4:¬ re=0:=by simpa using h
     exact h4 h3.2)]
   rw[h2]
   refine rg ?_;conv=>whnf
   exact Ba E .nil [] [(0,.box (C7 p v re))] (fun _ h=>h) E E ⟨Y,⟨.inl E,E,Y⟩,E,E⟩
theorem Aog (b:List UInt8) (hb:b.length<100000):Sy.Spec Tryz.prog 357 [.ptr 0 0,.sl 1 Ao b] [(0,.box (C7 noP 0 0))] (.tup []) [(0,.box (C7 (outerT b).1 0 (outerT b).2))]:=Ab Γ hm 100 F357 Tryz.ntmps357 rfl fun F hF=>by
 have hres:=outerT.eq_1 b
 generalize outerT b=res at *
 have q1:=Lo b hb
 have hbad:=@Ain b
 have hok:=@Wn b
 generalize takeF b=tk at *
 obtain ⟨f,e⟩:=tk
 dsimp only at hres q1 hbad hok
 conv=>whnf
 refine Ag q1 F121 E E E E E ?_
 refine rg ?_;conv=>whnf
 refine Ai (Ak [(0,0)] E F380 (Tk noP 0 0 true e) E ⟨E,Y⟩ E ⟨.inl E,Y⟩) E E ?_
 rw[show Ck true 0 e=e by simp[Ck]]
 refine rg ?_;conv=>whnf
 refine Ai (Ak [(0,0)] E F380 (Tk noP 0 e ((f.typ:Int) != 2048) 11) E ⟨E,Y⟩ E ⟨.inl E,Y⟩) E E ?_
 by_cases he:e=0
 rotate_left
 ·rw[if_pos he]at hres
  subst hres
  rw[show Ck ((f.typ:Int) != 2048) e 11=e by simp[Ck,he]]
  refine rg ?_;conv=>whnf
  refine⟨fun h=>absurd (show e=0 by simpa using h) he,fun _=>?_⟩
  refine rg ?_;conv=>whnf
  exact Ba E .nil [] [(0,.box (C7 noP 0 e))] (fun _ h=>h) E E ⟨Y,⟨.inl E,E,Y⟩,E,E⟩
 subst he
 rw[if_neg qy]at hres
 by_cases ht:f.typ=2048
 rotate_left
 ·rw[if_pos ht]at hres
  subst hres
  have hb2:((f.typ:Int) != 2048)=true:=by simp;omega
  rw[hb2,show Ck true 0 11=11 by simp[Ck]]
  (refine rg ?_;(conv=>whnf);refine aF ?_;refine rg ?_;conv=>whnf)
  exact Ba E .nil [] [(0,.box (C7 noP 0 11))] (fun _ h=>h) E E ⟨Y,⟨.inl E,E,Y⟩,E,E⟩
 rw[if_neg (fun h=>h ht)]at hres
 have hb2:((f.typ:Int) != 2048)=false:=by simp;omega
 rw[hb2,show Ck false 0 11=0 by simp[Ck]]
 have hfb:=(hok rfl).body
 have q2:=Ah2 f.body qn
 have hib:=@App f.body
 generalize ipTakeT f.body=ip at *
 obtain ⟨p,e2⟩:=ip
 dsimp only at hres q2 hib
 (refine rg ?_;(conv=>whnf);refine aT ?_;refine rg ?_;conv=>whnf)
 refine Ag q2 F297 E E E E E ?_
 refine rg ?_;conv=>whnf
 refine Ai (Ak [(0,0)] E F380 (Tk p 0 0 true e2) E ⟨E,Y⟩ E ⟨.inl E,Y⟩) E E ?_
 rw[show Ck true 0 e2=e2 by simp[Ck]]
 refine rg ?_;conv=>whnf
 refine Ai (Ak [(0,0)] E F380 (Tk p 0 e2 ((p.proto:Int) != 17) 11) E ⟨E,Y⟩ E ⟨.inl E,Y⟩) E E ?_
 have hfin:res=(p,Ck ((p.proto:Int) != 17) e2 11):=by
  by_cases h2:e2=0
  ·subst h2
   rw[if_neg qy]at hres
   rw[hres]
   simp only[Ck]
   by_cases h3:p.proto=17
   ·rw[if_neg (by simp[h3]),if_neg (by simp[h3])]
   ·rw[if_pos h3,if_pos (by simp;omega)]
  ·rw[if_pos h2]at hres
   rw[hres,hib h2,show Ck ((noP.proto:Int) != 17) e2 11=e2 by simp[Ck,h2]]
 rw[hfin]
 refine rg ?_;conv=>whnf
 exact Ba E .nil [] [(0,.box (C7 p 0 (Ck ((p.proto:Int) != 17) e2 11)))] (fun _ h=>h) E E ⟨Y,⟨.inl E,E,Y⟩,E,E⟩
def frameT (p:PacketM) (e:Int):FrameM × Int × Int :=
 if e≠0 then (noF,0,e) else if (udpTakeT p.body).2.2.2≠0 then (noF,0,(udpTakeT p.body).2.2.2) else if (udpTakeT p.body).2.1≠4789 then (noF,0,11)
 else if (vniT (udpTakeT p.body).2.2.1).2.2≠0 then (noF,(vniT (udpTakeT p.body).2.2.1).1,(vniT (udpTakeT p.body).2.2.1).2.2)
 else ((takeF (vniT (udpTakeT p.body).2.2.1).2.1).1,(vniT (udpTakeT p.body).2.2.1).1,
  if (takeF (vniT (udpTakeT p.body).2.2.1).2.1).2≠0 then (takeF (vniT (udpTakeT p.body).2.2.1).2.1).2 else if (takeF (vniT (udpTakeT p.body).2.2.1).2.1).1.typ=33024 then 15 else 0)
theorem frameS (p:PacketM) (e:Int) (hb:p.body.length<100000):Sy.Spec Tryz.prog 358 [.ptr 0 0] [(0,.box (C7 p 0 e))] (B9 (frameT p e).1) [(0,.box (C7 p (frameT p e).2.1 (frameT p e).2.2))]:=Ab Γ hm 100 F358 Tryz.ntmps358 rfl fun F hF=>by
 have hres:=frameT.eq_1 p e
 generalize frameT p e=res at *
 have q1:=Ak6 p.body hb
 have hul:=@Any p.body
 generalize udpTakeT p.body=u at *
 obtain ⟨u1,u2,u3,u4⟩:=u
 dsimp only at hres q1 hul
 have q2:=vniS u3 qn
 have hvl:=@vniT_body u3
 generalize vniT u3=w at *
 obtain ⟨w1,w2,w3⟩:=w
 dsimp only at hres q2 hvl
 have q3:=Lo w2 qn
 have hbad:=@Ain w2
 generalize takeF w2=t at *
 obtain ⟨f,t2⟩:=t
 dsimp only at hres q3 hbad
 conv=>whnf
 refine⟨fun h=>?_,fun h=>?_⟩
 ·rw[if_pos (by simpa using h)]at hres
  subst hres
  refine rg ?_;conv=>whnf
  refine Bc 2 zF E (.cons (.refl _) (.cons (.refl _) (.cons (.refl _) (.cons .nil .nil)))) ?_
  exact done E (.cons (.cell E E E E) .nil) [] [(0,.box (C7 p 0 e))] (fun _ h=>h) E E ⟨Y,⟨.inl E,E,Y⟩,E,E⟩
 have he:e=0:=by simpa using h
 clear h
 subst he
 rw[if_neg qy]at hres
 refine rg ?_;conv=>whnf
 refine Ag q1 F381 E E E E E ?_
 refine rg ?_;conv=>whnf
 refine Ai (Ak [(0,0)] E F380 (Tk p 0 0 true u4) E ⟨E,Y⟩ E ⟨.inl E,Y⟩) E E ?_
 rw[show Ck true 0 u4=u4 by simp[Ck]]
 refine rg ?_;conv=>whnf
 refine Ai (Ak [(0,0)] E F380 (Tk p 0 u4 (u2 != 4789) 11) E ⟨E,Y⟩ E ⟨.inl E,Y⟩) E E ?_
 by_cases h4:u4=0
 rotate_left
 ·rw[if_pos h4]at hres
  subst hres
  rw[show Ck (u2 != 4789) u4 11=u4 by simp[Ck,h4]]
  refine rg ?_;conv=>whnf
  refine⟨fun h=>absurd (show u4=0 by simpa using h) h4,fun _=>?_⟩
  refine rg ?_;conv=>whnf
  refine⟨fun _=>?_,fun h=>absurd (show u4=0 by simpa using h) h4⟩
  refine rg ?_;conv=>whnf
  refine Bc 2 zF E (.cons (.refl _) (.cons (.refl _) (.cons (.refl _) (.cons .nil .nil)))) ?_
  exact done E (.cons (.cell E E E E) .nil) [] [(0,.box (C7 p 0 u4))] (fun _ h=>h) E E ⟨Y,⟨.inl E,E,Y⟩,E,E⟩
 subst h4
 rw[if_neg qy]at hres
 by_cases h2:u2=4789
 rotate_left
 ·rw[if_pos h2]at hres
  subst hres
  rw[show Ck (u2 != 4789) 0 11=11 by simp[Ck,h2]]
  (refine rg ?_;(conv=>whnf);refine aF ?_;refine rg ?_;(conv=>whnf);refine aT ?_;refine rg ?_;conv=>whnf)
  refine Bc 2 zF E (.cons (.refl _) (.cons (.refl _) (.cons (.refl _) (.cons .nil .nil)))) ?_
  exact done E (.cons (.cell E E E E) .nil) [] [(0,.box (C7 p 0 11))] (fun _ h=>h) E E ⟨Y,⟨.inl E,E,Y⟩,E,E⟩
 rw[if_neg (fun h=>h h2)]at hres
 rw[show Ck (u2 != 4789) 0 11=0 by simp[Ck,h2]]
 (refine rg ?_;(conv=>whnf);refine aT ?_;refine rg ?_;conv=>whnf)
 refine Ag q2 F382 E E E E E ?_
 refine rg ?_;conv=>whnf
 refine Ai (Ak [(0,0)] E F380 (Tk p w1 0 true w3) E ⟨E,Y⟩ E ⟨.inl E,Y⟩) E E ?_
 rw[show Ck true 0 w3=w3 by simp[Ck]]
 refine rg ?_;conv=>whnf
 refine⟨fun h=>?_,fun h=>?_⟩
 ·rw[if_pos (by simpa using h)]at hres
  subst hres
  refine rg ?_;conv=>whnf
  refine Bc 2 zF E (.cons (.refl _) (.cons (.refl _) (.cons (.refl _) (.cons .nil .nil)))) ?_
  exact done E (.cons (.cell E E E E) .nil) [] [(0,.box (C7 p w1 w3))] (fun _ h=>h) E E ⟨Y,⟨.inl E,E,Y⟩,E,E⟩
 have h3:w3=0:=by simpa using h
 clear h
 subst h3
 rw[if_neg qy]at hres
 refine rg ?_;conv=>whnf
 refine Ag q3 F121 E E E E E ?_
 refine rg ?_;conv=>whnf
 refine Ai (Ak [(0,0)] E F380 (Tk p w1 0 true t2) E ⟨E,Y⟩ E ⟨.inl E,Y⟩) E E ?_
 rw[show Ck true 0 t2=t2 by simp[Ck]]
 refine rg ?_;conv=>whnf
 refine Ag (M9 f) F182 E E E E E ?_
 refine rg ?_;conv=>whnf
 refine Ai (Ak [(0,0)] E F380 (Tk p w1 t2 (decide (f.typ=33024)) 15) E ⟨E,Y⟩ E ⟨.inl E,Y⟩) E E ?_
 have hfin:Ck (decide (f.typ=33024)) t2 15=if t2≠0 then t2 else if f.typ=33024 then 15 else 0:=by
  by_cases k1:t2=0
  ·subst k1
   rw[if_neg qy]
   by_cases k2:f.typ=33024<;>simp[Ck,k2]
  ·rw[if_pos k1]
   simp[Ck,k1]
 rw[← hfin]at hres
 subst hres
 refine rg ?_;conv=>whnf
 exact done E (.cons (.cell E E E E) .nil) [] [(0,.box (C7 p w1 (Ck (decide (f.typ=33024)) t2 15)))] (fun _ h=>h) E E ⟨Y,⟨.inl E,E,Y⟩,E,E⟩
theorem Aak (b:List UInt8):Bv b=if (frameT (outerT b).1 (outerT b).2).2.2≠0 then (0,0,0,noF,(frameT (outerT b).1 (outerT b).2).2.2)
  else ((outerT b).1.src,(outerT b).1.dst,(frameT (outerT b).1 (outerT b).2).2.1,(frameT (outerT b).1 (outerT b).2).1,0):=by
 unfold Bv
 generalize outerT b=o
 obtain ⟨p,e⟩:=o
 dsimp only
 by_cases he:e=0
 rotate_left
 ·rw[if_pos he]
  have h1:frameT p e=(noF,0,e):=by rw[frameT,if_pos he]
  rw[h1,if_pos he]
 subst he
 rw[if_neg qy]
 unfold J9 frameT
 rw[if_neg (show ¬ (0:Int)≠0 by simp)]
 generalize udpTakeT p.body=u
 obtain ⟨u1,u2,u3,u4⟩:=u
 dsimp only
 by_cases h4:u4=0
 rotate_left
 ·rw[if_pos h4,if_pos h4,if_pos h4]
  dsimp only
  rw[if_pos h4]
 subst h4
 simp only[ne_eq,not_true_eq_false,if_false]
 by_cases h2:u2=4789
 rotate_left
 ·simp[h2]
 simp only[h2,not_true_eq_false,if_false]
 generalize vniT u3=w
 obtain ⟨w1,w2,w3⟩:=w
 dsimp only
 by_cases h3:w3=0
 rotate_left
 ·simp[h3]
 simp only[h3,not_true_eq_false,if_false]
 generalize takeF w2=t
 obtain ⟨f,t2⟩:=t
 dsimp only
 by_cases k1:t2=0
 ·by_cases k2:f.typ=33024<;>simp[k1,k2]
 ·simp[k1]
theorem Aik (b:List UInt8) (hb:b.length<100000) :
  Sy.Spec Tryz.prog 308 [.sl 1 Ao b] [] (.tup [Bj (Bv b).1,Bj (Bv b).2.1,Aa (Bv b).2.2.1,B9 (Bv b).2.2.2.1,Aa (Bv b).2.2.2.2]) []:=Ab Γ hm 100 F308 Tryz.ntmps308 rfl fun F hF=>by
 have hres:=Aak b
 generalize Bv b=res at *
 have q1:=Aog b hb
 have hol:=(Uh b).2
 generalize outerT b=o at *
 obtain ⟨p,e⟩:=o
 dsimp only at hres q1 hol
 have q2:=frameS p e qn
 generalize frameT p e=fr at *
 obtain ⟨f,v,e2⟩:=fr
 dsimp only at hres q2
 conv=>whnf
 refine Bc 9 (C7 noP 0 0) E (.cons (.refl _) (.cons (.refl _) (.cons (.refl _) (.cons (.refl _) (.cons (.refl _) (.cons (.refl _) (.cons .nil (.cons (.refl _) (.cons (.refl _) .nil))))))))) ?_
 refine rg ?_;conv=>whnf
 refine Ai (Ak [(0,9)] E F357 q1 E ⟨E,Y⟩ E ⟨.inl E,Y⟩) E E ?_
 refine rg ?_;conv=>whnf
 refine Ai (Ak [(0,9)] E F358 q2 E ⟨E,Y⟩ E ⟨.inl E,Y⟩) E E ?_
 refine rg ?_;conv=>whnf
 refine⟨fun h=>?_,fun h=>?_⟩
 ·rw[if_pos (by simpa using h)]at hres
  subst hres
  refine rg ?_;conv=>whnf
  refine⟨qq,?_⟩
  conv=>whnf
  refine Bc 5 zF E (.cons (.refl _) (.cons (.refl _) (.cons (.refl _) (.cons .nil .nil)))) ?_
  exact Ac E (.cons .tmp (.cons .tmp (.cons .tmp (.cons (.cell E E E E) (.cons .tmp .nil))))) E E
 rw[if_neg (by simpa using h)]at hres
 subst hres
 refine rg ?_;conv=>whnf
 refine⟨qq,?_⟩
 conv=>whnf
 exact Ac E (.cons .tmp (.cons .tmp (.cons .tmp (.cons (.cell E E E E) (.cons .tmp .nil))))) E E
end Go.Sy.YteinjapglfkamaaGreat
namespace Go.Sy
structure Meth (P:Program) (t:TypeId) (name:String) (f:FuncId) (pr:Bool) (e:TypeId):Prop where
 row:∃ i m,P.info? t=some i∧i.methods.find? (·.name == name)=some m∧m.path=#[]∧m.func=some (f,pr)
 under:P.underlying t=some (.pointer e)
theorem Ww {P:Program} {t:TypeId} {name:String} {f:FuncId} {e:TypeId} (hm:Meth P t name f true e) (w:World) (v:Value):(Go.method (P.types.size+Made.depth) t v name).run P w=.ok (f,v) w:=by
 obtain ⟨⟨i,m,h1,h2,h3,h4⟩,hu⟩:=hm
 show (Go.method (P.types.size+99+1) t v name).run P w=_
 rw[Go.method]
 simp only[Sem.run_bind,run_typeInfo w h1,Result.andThen_ok,h2,h3,Go.follow,Sem.run_pure,h4,Go.receiverAt,run_underlying hu,Go.Place.get]
theorem Wv {P:Program} {t:TypeId} {name:String} {f:FuncId} {e:TypeId} (hm:Meth P t name f false e) (w:World) (a:Addr) {v:Value} (hv:(loadVar e a).run P w=.ok v w):(Go.method (P.types.size+Made.depth) t (.pointer (some a)) name).run P w=.ok (f,v) w:=by
 obtain ⟨⟨i,m,h1,h2,h3,h4⟩,hu⟩:=hm
 show (Go.method (P.types.size+99+1) t (.pointer (some a)) name).run P w=_
 rw[Go.method]
 have he:(#[]:Array FieldStep).isEmpty=true:=rfl
 simp only[Sem.run_bind,run_typeInfo w h1,Result.andThen_ok,h2,h3,Go.follow,Sem.run_pure,h4,Go.receiverAt,run_underlying hu,Go.Place.get,he,if_true]
 have hs : ∀ n : String, (Builtin.ssaWrapNilChk_ #[t] t #[.pointer (some a), strVal "", strVal n]).run P w = .ok (.pointer (some a)) w := fun n => rfl
 simp only[hs,Result.andThen_ok,asAddr,Sem.run_pure,hv]
theorem Qg {P:Program} {o:Oper} {s:SS} {rd:List Nat} {f:FuncId} {fn:Func} {c:Code} {t e:TypeId} {name:String} {x:Operand} {xs:List Operand} {ts:Array TypeId} {y:SV} (hm:Meth P t name f true e) (hf:Fun P f fn c) (h:o.op=.call ⟨.invoke x name,xs.toArray,ts⟩) (hx:ev s x=.ifc t y) :
  Lu P o s rd f (y::xs.map (ev s)) :=
 fun κ a w hr _=>by
  have h1:=hr x (by simp[h,Op.operands,Call.operands])
  rw[hx]at h1
  simp only[Rd]at h1
  obtain ⟨u,e1,e2⟩:=h1
  refine⟨u::xs.map a.eval,?_,?_⟩
  ·have hcall:=Iw hf (u::xs.map a.eval).toArray w
   have hmeth:=Ww hm w u
   simp only[execOp,h,resolve,invoke,e1,Sem.run_bind,Sem.run_pure,Result.andThen_ok]at hcall ⊢
   simp only[callMethod]
   rw[← hcall]
   have htk:(xs.map a.eval).take xs.length=xs.map a.eval:=List.take_of_length_le qy
   simp[hmeth,Sem.run_bind,htk]
  ·simp only[RdL]
   exact⟨_,_,E,e2,Jw xs (fun y hy=>hr y (by simp[h,Op.operands,Call.operands,hy]))⟩
theorem Bh {P:Program} (Γ:Ty P) {o:Oper} {s:SS} {f:FuncId} {fn:Func} {c:Code} {t e:TypeId} {ti:TI} {name:String} {x:Operand} {xs:List Operand} {ts:Array TypeId} {k off:Nat} {l:List SV} {z:SV} (hm:Meth P t name f false e) (hf:Fun P f fn c) (h:o.op=.call ⟨.invoke x name,xs.toArray,ts⟩)
  (hx:ev s x=.ifc t (.ptr k off)) (hk:s.h k=.box l) (ht:Γ.get e=some ti) (hz:Jg ti l off=some z):Lu P o s [k] f (z::xs.map (ev s)) :=
 fun κ a w hr ho=>by
  have h1:=hr x (by simp[h,Op.operands,Call.operands])
  rw[hx]at h1
  simp only[Rd]at h1
  obtain ⟨u,e1,e2⟩:=h1
  have hob:=ho k qy
  rw[hk]at hob
  obtain ⟨b,f1,f2⟩:=hob.cellsAt
  rw[f1]at e2
  simp only at e2
  subst e2
  obtain ⟨v,g1,g2⟩:=I7 (P:=P) Γ ht f2 hz
  rw[Nat.zero_add]at g1
  refine⟨v::xs.map a.eval,?_,?_⟩
  ·have hcall:=Iw hf (v::xs.map a.eval).toArray w
   have hmeth:=Wv hm w ⟨b,off,none⟩ g1
   simp only[execOp,h,resolve,invoke,e1,Sem.run_bind,Sem.run_pure,Result.andThen_ok]at hcall ⊢
   simp only[callMethod]
   rw[← hcall]
   have htk:(xs.map a.eval).take xs.length=xs.map a.eval:=List.take_of_length_le qy
   simp[hmeth,Sem.run_bind,htk]
  ·simp only[RdL]
   exact⟨_,_,E,g2,Jw xs (fun y hy=>hr y (by simp[h,Op.operands,Call.operands,hy]))⟩
theorem Vh {P:Program} (Γ:Ty P) {o:Oper} {s:SS} {x:Operand} {xt t:TypeId} {ti:TI} {y:SV} {ok:Bool} (h:o.op=.typeAssert x xt t ok) (hx:ev s x=.ifc t y) (ht:Γ.get t=some ti) (hk:ti.k matches .bool | .int _ | .string | .slice .. | .struct _ | .ptr | .func) :
  Good P o s ⟨if ok then .tup [y,Ad true] else y,[],[]⟩ :=
 Good.pure fun κ a w _ hr _=>by
  have h1:=hr x (by simp[h,Op.operands])
  rw[hx]at h1
  simp only[Rd]at h1
  obtain ⟨u,e1,e2⟩:=h1
  obtain ⟨d,info,z,k1,k2,_⟩:=Γ.ok t ti ht
  have hni:∀ ms,d≠.interface ms:=by
   obtain ⟨k,n,zz⟩:=ti
   intro ms hd
   subst hd
   cases k<;>simp_all[TK.ok]
  have hrun:(Instr.typeAssert (.iface t u) xt t ok).run P w=.ok (if ok then .tuple #[u,.bool true] else u) w:=by
   cases d<;>first
    | exact absurd rfl (hni _)
    | (cases ok<;>simp[Instr.typeAssert,run_underlying k1])
  refine⟨if ok then .tuple #[u,.bool true] else u,by simp[execOp,h,e1,hrun],?_⟩
  cases ok
  ·exact e2
  ·simp only[if_true,Rd,RdL]
   exact⟨[u,.bool true],E,_,_,E,e2,_,_,E,by simp[Ad,Rd],E⟩
def Apo (P:Program) (t:TypeId) (name:String) (f:FuncId) (pr:Bool):Bool :=
 match P.info? t with
 | some i=>(match i.methods.find? (·.name == name) with
  | some m=>m.path.isEmpty && (match m.func with | some (g,b)=>Nat.beq g f && (b == pr) | none=>false)
  | none=>false)
 | none=>false
theorem Meth.of {P:Program} {t:TypeId} {name:String} {f:FuncId} {pr:Bool} {e:TypeId} (h:Apo P t name f pr=true) (hu:P.underlying t=some (.pointer e)):Meth P t name f pr e:=by
 refine⟨?_,hu⟩
 unfold Apo at h
 split at h
 ·rename_i i hi
  split at h
  ·rename_i m hm
   simp only[Bool.and_eq_true]at h
   obtain ⟨h1,h2⟩:=h
   split at h2
   ·rename_i g b hf
    simp only[Bool.and_eq_true,beq_iff_eq]at h2
    obtain ⟨h3,rfl⟩:=h2
    have h3:=Nat.eq_of_beq_eq_true h3
    subst h3
    exact⟨i,m,hi,hm,by simpa using h1,hf⟩
   ·cases h2
  ·cases h
 ·cases h
end Go.Sy
namespace Go.Sy.YteinjapglfkamaaGreat
open Go.Proofs
attribute [local irreducible] Go.Sy.G Go.Sy.DR
set_option maxRecDepth 20000
set_option maxHeartbeats 4000000
structure Item where
 (root cost dev:Int)
instance:Inhabited Item:=⟨⟨0,0,0⟩⟩
def Bl (x:Item):SV:=.agg [Aa x.root,Aa x.cost,Aa x.dev]
def Bu (x y:Item):Bool:=decide (x.root<y.root) || (x.root == y.root && decide (x.cost<y.cost))
theorem Uf (q:List Item):Sy.Spec Tryz.prog 287 [.sl 3 Bl q] [] (Aa q.length) []:=Ab Γ hm 100 F287 Tryz.ntmps287 rfl fun F hF=>by
 conv=>whnf
 exact Ac E (.cons .tmp .nil) E E
theorem Jc (q:List Item) (i j:Nat) (hi:i<q.length) (hj:j<q.length):Sy.Spec Tryz.prog 421 [.sl 3 Bl q,Aa i,Aa j] [] (Ad (Bu q[i] q[j])) []:=Ab Γ hm 100 F421 Tryz.ntmps421 rfl fun F hF=>by
 have e1:q[(i:Int).toNat]'qn=q[i]:=rfl
 have e2:q[(j:Int).toNat]'qn=q[j]:=rfl
 conv=>whnf
 (repeat' (first | (refine⟨fun h=>?_,fun h=>?_⟩<;>(repeat (first | simp only[decide_eq_true_eq]at h | simp only[decide_eq_false_iff_not]at h | simp only[beq_iff_eq]at h | simp only[beq_eq_false_iff_ne]at h))<;>((refine rd qq ?_);(conv=>whnf))) | (refine Ac rfl (.cons .tmp .nil) ?_ rfl) | (refine⟨qq,?_⟩;((conv=>whnf))) | (refine⟨by (omega),by (omega),?_⟩;((conv=>whnf)))))
 all_goals (refine congrArg Ad ?_;clear hF;grind [Bu])
theorem Jb (q:List Item) (i j:Nat) (hi:i<q.length) (hj:j<q.length):Sy.Spec Tryz.prog 424 [.osl 0,Aa i,Aa j] [(0,.row 3 Bl q)] (.tup []) [(0,.row 3 Bl ((q.set i q[j]).set j q[i]))]:=Ab Γ hm 100 F424 Tryz.ntmps424 rfl fun F hF=>by
 have e1:q[(i:Int).toNat]'qn=q[i]:=rfl
 have e2:q[(j:Int).toNat]'qn=q[j]:=rfl
 conv=>whnf
 refine⟨by omega,by omega,?_⟩
 conv=>whnf
 refine⟨E,by omega,?_⟩
 rw[e2]
 conv=>whnf
 refine⟨by omega,by omega,?_⟩
 conv=>whnf
 refine⟨E,by omega,?_⟩
 rw[e1]
 conv=>whnf
 refine⟨by omega,by omega,?_⟩
 conv=>whnf
 refine⟨E,by omega,q[j],E,E,?_⟩
 conv=>whnf
 refine⟨by omega,by simp;omega,?_⟩
 conv=>whnf
 refine⟨E,by simp;omega,q[i],E,E,?_⟩
 conv=>whnf
 refine⟨qq,?_⟩
 conv=>whnf
 exact Ba E .nil [] [(0,.row 3 Bl ((q.set i q[j]).set j q[i]))] (fun _ h=>h) E E ⟨Y,⟨.inl E,E,Y⟩,E,E⟩
theorem Afv (q:List Item) (x:Item) (hq:q.length<1000000):Sy.Spec Tryz.prog 423 [.ptr 0 0,.ifc 402 (Bl x)] [(0,.box [.osl 1]),(1,.row 3 Bl q)] (.tup []) [(0,.box [.osl 2]),(1,.non),(2,.row 3 Bl (q++[x]))]:=Ab Γ hm 100 F423 Tryz.ntmps423 rfl fun F hF=>by
 conv=>whnf
 refine Ai (Vh Γ.toTy E E E E) E E ?_
 (refine rg ?_;(conv=>whnf);refine aT ?_;refine rg ?_;conv=>whnf)
 refine Bn (Am Γ.toTy 18 E E E E E (.row E) (.lit (l:=[x]) E E) qy (by simp;omega) (by simp;omega)) qq E ?_
 refine rd qq ?_;conv=>whnf
 refine⟨qq,?_⟩
 conv=>whnf
 exact Ba E .nil [(2,18)] [(0,.box [.osl 2]),(1,.non),(2,.row 3 Bl (q++[x]))] (fun _ h=>h) E E ⟨Y,⟨.inl E,E,.inl E,E,.inl E,E,Y⟩,E,E⟩
theorem Ajj (q:List Item) (hq:q≠[]) (hl:q.length<1000000):Sy.Spec Tryz.prog 422 [.ptr 0 0] [(0,.box [.osl 1]),(1,.row 3 Bl q)] (.ifc 402 (Bl (q.getLast hq))) [(0,.box [.osl 2]),(1,.non),(2,.row 3 Bl q.dropLast)]:=Ab Γ hm 100 F422 Tryz.ntmps422 rfl fun F hF=>by
 have h0:0<q.length:=List.length_pos_iff.2 hq
 have e1:q[((q.length:Int)-1).toNat]'qn=q.getLast hq:=by
  rw[List.getLast_eq_getElem]
  congr 1
  omega
 conv=>whnf
 refine⟨by unfold I64;omega,?_⟩
 conv=>whnf
 refine⟨by omega,by omega,?_⟩
 conv=>whnf
 refine⟨E,by omega,?_⟩
 rw[e1]
 conv=>whnf
 refine⟨qq,?_⟩
 conv=>whnf
 refine⟨by unfold I64;omega,?_⟩
 conv=>whnf
 refine Bn (Xu Γ.toTy (d:=23) (hi:=q.length-1) E E E E E qx E (.inl ⟨E,E⟩) (.inr ⟨_,_,E,congrArg (fun z=>SV.val (.int .i64 z)) qn⟩) qn) qq E ?_
 rw[← List.dropLast_eq_take]
 refine rd qq ?_;conv=>whnf
 refine⟨qq,?_⟩
 conv=>whnf
 exact done E (.cons .tmp .nil) [(2,23)] [(0,.box [.osl 2]),(1,.non),(2,.row 3 Bl q.dropLast)] (fun _ h=>h) E E ⟨Y,⟨.inl E,E,.inl E,E,.inl E,E,Y⟩,E,E⟩
end Go.Sy.YteinjapglfkamaaGreat
namespace Go.Sy.YteinjapglfkamaaGreat
open Go.Proofs
attribute [local irreducible] Go.Sy.G Go.Sy.DR
set_option maxRecDepth 100000
set_option maxHeartbeats 4000000
theorem mLen : Meth Tryz.prog 397 "Len" 287 false 399 := .of (by kernel_rfl) Tryz.underlying397
theorem Adq : Meth Tryz.prog 397 "Less" 421 false 399 := .of (by kernel_rfl) Tryz.underlying397
theorem Adp : Meth Tryz.prog 397 "Swap" 424 false 399 := .of (by kernel_rfl) Tryz.underlying397
theorem mPush : Meth Tryz.prog 397 "Push" 423 true 399 := .of (by kernel_rfl) Tryz.underlying397
theorem mPop : Meth Tryz.prog 397 "Pop" 422 true 399 := .of (by kernel_rfl) Tryz.underlying397
def Dp (q:List Item) (i j:Nat):List Item:=(q.set i (q.getD j default)).set j (q.getD i default)
theorem Az (q:List Item) (i j:Nat):(Dp q i j).length=q.length:=by simp[Dp]
def upF:Nat→List Item→Nat→List Item
 | 0,q,_=>q
 | n+1,q,j=>if j=0 then q else if Bu (q.getD j default) (q.getD ((j-1) / 2) default) then upF n (Dp q ((j-1) / 2) j) ((j-1) / 2) else q
theorem Acc:∀ (n m:Nat) (q:List Item) (j:Nat),j≤n→j≤m→upF n q j=upF m q j
 | 0,m,q,j,h,_=>by
  have:j=0:=by omega
  subst this
  cases m<;>simp[upF]
 | n+1,0,q,j,_,h=>by
  have:j=0:=by omega
  subst this
  simp[upF]
 | n+1,m+1,q,j,h1,h2=>by
  rw[upF,upF]
  split
  ·rfl
  ·split
   ·exact Acc n m _ _ qn qn
   ·rfl
theorem Ak5 (r:List Item):∀ (i:Nat),i≠0→upF i r i=if Bu (r.getD i default) (r.getD ((i-1) / 2) default) then upF ((i-1) / 2) (Dp r ((i-1) / 2) i) ((i-1) / 2) else r
 | 0,h=>absurd rfl h
 | m+1,_=>by
  rw[upF,if_neg qn]
  split
  ·exact Acc _ _ _ _ qn qn
  ·rfl
theorem upS (q:List Item) (j:Nat) (hj:j<q.length) (hl:q.length<1000000) :
  Sy.Spec Tryz.prog 336 [.ifc 397 (.ptr 0 0),Aa j] [(0,.box [.osl 1]),(1,.row 3 Bl q)] (.tup []) [(0,.box [.osl 1]),(1,.row 3 Bl (upF j q j))]:=Ab Γ hm 100 F336 Tryz.ntmps336 rfl fun F hF=>by
 conv=>whnf
 refine M6 (α:={p:List Item × Nat // upF p.2 p.1 p.2=upF j q j∧p.1.length=q.length∧p.2<p.1.length}) (fun p=>[(0,.ifc 397 (.ptr 0 0)),(1,Aa p.1.2)]) (fun p=>[(0,.box [.osl 1]),(1,.row 3 Bl p.1.1)]) (fun p=>p.1.2) ⟨(q,j),E,E,hj⟩ []
  ⟨⟨rfl,rfl,rfl,rfl,trivial⟩,⟨.inl rfl,rfl,.inl rfl,rfl,trivial⟩,rfl,rfl⟩ ?_
 rintro ⟨⟨r,i⟩,h1,h2,h3⟩
 simp only at h1 h2 h3
 dsimp only
 have hw:IntKind.i64.wrap (((i:Int)-1).tdiv 2)=(((i-1) / 2:Nat):Int):=by
  rcases Nat.eq_zero_or_pos i with h0 | h0
  ·subst h0;rfl
  ·have:((i:Int)-1)=((i-1:Nat):Int):=by omega
   rw[this,Int.tdiv_eq_ediv_of_nonneg qn,IntKind.wrap_i64]
   omega
 refine rg ?_;conv=>whnf
 refine⟨by unfold I64;omega,?_⟩
 conv=>whnf
 refine⟨by decide,?_⟩
 rw[hw]
 conv=>whnf
 refine⟨fun h=>?_,fun h=>?_⟩
 ·have h0:i=0:=by
   have:(((i-1) / 2:Nat):Int)=i:=by simpa using h
   omega
  subst h0
  have e:upF j q j=r:=by rw[← h1];rfl
  rw[e]
  (refine rg ?_;(conv=>whnf);refine aT ?_;refine rg ?_;conv=>whnf)
  exact Ba E .nil [] [(0,.box [.osl 1]),(1,.row 3 Bl r)] (fun _ h=>h) E E ⟨Y,⟨.inl E,E,.inl E,E,Y⟩,E,E⟩
 have h0:i≠0:=by
  intro h0
  subst h0
  exact absurd h qx
 have hp:(i-1) / 2<r.length:=by omega
 have hless:=Jc r i ((i-1) / 2) h3 hp
 refine rg ?_;conv=>whnf
 refine Ai (Du [1] (Bh Γ.toTy Adq F421 E E E E E) hless (.cons (.row E E) (.cons (.refl _) (.cons (.refl _) .nil))) E E) E E ?_
 refine rg ?_;conv=>whnf
 have hu:upF i r i=if Bu r[i] r[(i-1) / 2] then upF ((i-1) / 2) (Dp r ((i-1) / 2) i) ((i-1) / 2) else r:=by
  rw[Ak5 r i h0,A9 h3,A9 hp]
 refine⟨fun h=>?_,fun h=>?_⟩
 ·have hlt:Bu r[i] r[(i-1) / 2]=false:=by simpa using h
  have e:upF j q j=r:=by rw[← h1,hu,hlt];rfl
  rw[e]
  refine rg ?_;conv=>whnf
  exact Ba E .nil [] [(0,.box [.osl 1]),(1,.row 3 Bl r)] (fun _ h=>h) E E ⟨Y,⟨.inl E,E,.inl E,E,Y⟩,E,E⟩
 have hlt:Bu r[i] r[(i-1) / 2]=true:=by simpa using h
 rw[hlt,if_pos rfl]at hu
 have hsw:=Jb r ((i-1) / 2) i hp h3
 have e:(r.set ((i-1) / 2) r[i]).set i r[(i-1) / 2]=Dp r ((i-1) / 2) i:=by
  rw[Dp,A9 h3,A9 hp]
 rw[e]at hsw
 refine rg ?_;conv=>whnf
 refine Ai (Cc [(0,1)] (Bh Γ.toTy Adp F424 E E E E E) hsw E ⟨E,Y⟩ E ⟨.inl E,Y⟩) E E ?_
 refine rg ?_;conv=>whnf
 exact Qk (α:={p:List Item × Nat // upF p.2 p.1 p.2=upF j q j∧p.1.length=q.length∧p.2<p.1.length}) (L:=fun p=>[(0,.ifc 397 (.ptr 0 0)),(1,Aa p.1.2)]) (O:=fun p=>[(0,.box [.osl 1]),(1,.row 3 Bl p.1.1)]) (μ:=fun p=>p.1.2) (x:=⟨(r,i),h1,h2,h3⟩)
  ⟨(Dp r ((i-1) / 2) i,(i-1) / 2),by rw[← h1,hu],by rw[Az];exact h2,by rw[Az];exact hp⟩ [] (by simp only;omega)
  ⟨⟨rfl,rfl,rfl,rfl,trivial⟩,⟨.inl rfl,rfl,.inl rfl,rfl,trivial⟩,rfl,rfl⟩
theorem Wk:∀ (n:Nat) (q:List Item) (j:Nat),(upF n q j).length=q.length
 | 0,q,j=>rfl
 | n+1,q,j=>by
  rw[upF]
  split
  ·rfl
  ·split
   ·rw[Wk n,Az]
   ·rfl
def O7 (q:List Item) (x:Item):List Item:=upF q.length (q++[x]) q.length
theorem Zw (q:List Item) (x:Item) (hl:q.length<999999) :
  Sy.Spec Tryz.prog 286 [.ifc 397 (.ptr 0 0),.ifc 402 (Bl x)] [(0,.box [.osl 1]),(1,.row 3 Bl q)] (.tup []) [(0,.box [.osl 2]),(1,.non),(2,.row 3 Bl (O7 q x))]:=Ab Γ hm 100 F286 Tryz.ntmps286 rfl fun F hF=>by
 have hpush:=Afv q x qn
 have hlen:=Uf (q++[x])
 have hup:=upS (q++[x]) q.length qy (by simp;omega)
 have hln:(((q++[x]).length:Nat):Int)-1=(q.length:Int):=by simp
 conv=>whnf
 refine Ai (Cc (rd:=[]) [(2,6)] (Qg mPush F423 E E) hpush E ⟨E,E,Y⟩ E ⟨.inl E,.inl E,.inr E,Y⟩) E E ?_
 refine rg ?_;conv=>whnf
 refine Ai (Du [6] (Bh Γ.toTy mLen F287 E E E E E) hlen (.cons (.row E E) .nil) E E) E E ?_
 refine rg ?_;conv=>whnf
 refine⟨by unfold I64;simp;omega,?_⟩
 rw[hln]
 conv=>whnf
 refine Ai (Ak [(1,6)] E F336 hup E ⟨E,E,Y⟩ E ⟨.inl E,.inl E,Y⟩) E E ?_
 refine rg ?_;conv=>whnf
 exact Ba E .nil [(2,6)] [(0,.box [.osl 2]),(1,.non),(2,.row 3 Bl (O7 q x))] (fun _ h=>h) E E ⟨Y,⟨.inl E,E,.inl E,E,.inl E,E,Y⟩,E,E⟩
def Dj (q:List Item) (i n:Nat):Nat:=if 2 * i+2<n∧Bu (q.getD (2 * i+2) default) (q.getD (2 * i+1) default)=true then 2 * i+2 else 2 * i+1
theorem Kx (q:List Item) (i n:Nat) (h:2 * i+1<n):Dj q i n<n∧i<Dj q i n:=by
 unfold Dj
 split<;>omega
def Dl:Nat→List Item→Nat→Nat→List Item × Nat
 | 0,q,i,_=>(q,i)
 | f+1,q,i,n=>if 2 * i+1<n then (if Bu (q.getD (Dj q i n) default) (q.getD i default) then Dl f (Dp q i (Dj q i n)) (Dj q i n) n else (q,i)) else (q,i)
theorem Qz:∀ (f g:Nat) (q:List Item) (i n:Nat),n≤f+i→n≤g+i→Dl f q i n=Dl g q i n
 | 0,g,q,i,n,h1,h2=>by
  cases g with
  | zero=>rfl
  | succ g=>rw[Dl,Dl,if_neg qn]
 | f+1,0,q,i,n,h1,h2=>by rw[Dl,Dl,if_neg qn]
 | f+1,g+1,q,i,n,h1,h2=>by
  rw[Dl,Dl]
  split
  ·rename_i h
   have:=Kx q i n h
   split
   ·exact Qz f g _ _ n qn qn
   ·rfl
  ·rfl
theorem Agz (r:List Item) (i n:Nat):Dl (n-i) r i n=if 2 * i+1<n then (if Bu (r.getD (Dj r i n) default) (r.getD i default) then Dl (n-Dj r i n) (Dp r i (Dj r i n)) (Dj r i n) n else (r,i)) else (r,i):=by
 rw[Qz (n-i) (n-i+1) r i n qn qn,Dl]
 split
 ·rename_i h
  have:=Kx r i n h
  split
  ·exact Qz _ _ _ _ _ qn qn
  ·rfl
 ·rfl
theorem Tm:∀ (f:Nat) (q:List Item) (i n:Nat),(Dl f q i n).1.length=q.length
 | 0,_,_,_=>rfl
 | f+1,q,i,n=>by
  rw[Dl]
  split
  ·split
   ·rw[Tm f,Az]
   ·rfl
  ·rfl
theorem downS (q:List Item) (i0 n:Nat) (hn:n≤q.length) (hi:i0<q.length) (hl:q.length<1000000) :
  Sy.Spec Tryz.prog 337 [.ifc 397 (.ptr 0 0),Aa i0,Aa n] [(0,.box [.osl 1]),(1,.row 3 Bl q)] (Ad (decide (((Dl (n-i0) q i0 n).2:Int)>i0))) [(0,.box [.osl 1]),(1,.row 3 Bl (Dl (n-i0) q i0 n).1)]:=Ab Γ hm 100 F337 Tryz.ntmps337 rfl fun F hF=>by
 generalize hD:Dl (n-i0) q i0 n=D
 conv=>whnf
 refine M6 (α:={p:List Item × Nat // Dl (n-p.2) p.1 p.2 n=D∧p.1.length=q.length∧p.2<p.1.length}) (fun p=>[(0,.ifc 397 (.ptr 0 0)),(1,Aa i0),(2,Aa n),(7,Aa p.1.2)]) (fun p=>[(0,.box [.osl 1]),(1,.row 3 Bl p.1.1)]) (fun p=>n-p.1.2) ⟨(q,i0),hD,E,hi⟩ []
  ⟨⟨rfl,rfl,rfl,rfl,rfl,rfl,rfl,rfl,trivial⟩,⟨.inl rfl,rfl,.inl rfl,rfl,trivial⟩,rfl,rfl⟩ ?_
 rintro ⟨⟨r,i⟩,h1,h2,h3⟩
 simp only at h1 h2 h3
 dsimp only
 have h10:=h1
 rw[Agz]at h1
 have hj1:(2:Int) * i+1=((2 * i+1:Nat):Int):=by omega
 have hj2:((2 * i+1:Nat):Int)+1=((2 * i+2:Nat):Int):=by omega
 refine rg ?_;conv=>whnf
 refine⟨by unfold I64;omega,?_⟩
 conv=>whnf
 refine⟨by unfold I64;omega,?_⟩
 rw[hj1]
 conv=>whnf
 refine⟨fun h=>?_,fun h=>?_⟩
 ·have hge:¬ 2 * i+1<n:=by have:=of_decide_eq_true h;omega
  rw[if_neg hge]at h1
  rw[← h1]
  (refine rg ?_;(conv=>whnf);refine aT ?_;refine rg ?_;conv=>whnf)
  exact done E (.cons .tmp .nil) [] [(0,.box [.osl 1]),(1,.row 3 Bl r)] (fun _ h=>h) E E ⟨Y,⟨.inl E,E,.inl E,E,Y⟩,E,E⟩
 have hlt:2 * i+1<n:=by have:=of_decide_eq_false h;omega
 rw[if_pos hlt]at h1
 (refine rg ?_;(conv=>whnf);refine aF ?_;refine rg ?_;conv=>whnf)
 refine⟨by unfold I64;omega,?_⟩
 rw[hj2]
 conv=>whnf
 refine⟨fun h=>?_,fun h=>?_⟩
 ·have h2n:2 * i+2<n:=by have:=of_decide_eq_true h;omega
  have hA:2 * i+2<r.length:=by omega
  have hB:2 * i+1<r.length:=by omega
  have hlc:=Jc r (2 * i+2) (2 * i+1) hA hB
  refine rg ?_;conv=>whnf
  refine Ai (Du [1] (Bh Γ.toTy Adq F421 E E E E E) hlc (.cons (.row E E) (.cons (.refl _) (.cons (.refl _) .nil))) E E) E E ?_
  refine rg ?_;conv=>whnf
  refine⟨fun h=>?_,fun h=>?_⟩
  ·have hc:Dj r i n=2 * i+2:=by rw[Dj,if_pos ⟨h2n,by rw[A9 hA,A9 hB];exact h⟩]
   have hJ:=hA
   refine rg ?_;conv=>whnf
   rw[hc,A9 hJ,A9 h3]at h1
   have hls:=Jc r (2 * i+2) i hJ h3
   refine Ai (Du [1] (Bh Γ.toTy Adq F421 E E E E E) hls (.cons (.row E E) (.cons (.refl _) (.cons (.refl _) .nil))) E E) E E ?_
   refine rg ?_;conv=>whnf
   refine⟨fun h=>?_,fun h=>?_⟩
   ·have hf:Bu r[2 * i+2] r[i]=false:=by simpa using h
    rw[hf]at h1
    have e:D=(r,i):=h1.symm
    rw[e]
    refine rg ?_;conv=>whnf
    exact done E (.cons .tmp .nil) [] [(0,.box [.osl 1]),(1,.row 3 Bl r)] (fun _ h=>h) E E ⟨Y,⟨.inl E,E,.inl E,E,Y⟩,E,E⟩
   have hf:Bu r[2 * i+2] r[i]=true:=by simpa using h
   rw[hf,if_pos rfl]at h1
   have hsw:=Jb r i (2 * i+2) h3 hJ
   have e:(r.set i r[2 * i+2]).set (2 * i+2) r[i]=Dp r i (2 * i+2):=by
    rw[Dp,A9 h3,A9 hJ]
   rw[e]at hsw
   refine rg ?_;conv=>whnf
   refine Ai (Cc [(0,1)] (Bh Γ.toTy Adp F424 E E E E E) hsw E ⟨E,Y⟩ E ⟨.inl E,Y⟩) E E ?_
   refine rg ?_;conv=>whnf
   exact Qk (α:={p:List Item × Nat // Dl (n-p.2) p.1 p.2 n=D∧p.1.length=q.length∧p.2<p.1.length}) (L:=fun p=>[(0,.ifc 397 (.ptr 0 0)),(1,Aa i0),(2,Aa n),(7,Aa p.1.2)]) (O:=fun p=>[(0,.box [.osl 1]),(1,.row 3 Bl p.1.1)]) (μ:=fun p=>n-p.1.2) (x:=⟨(r,i),h10,h2,h3⟩)
    ⟨(Dp r i (2 * i+2),2 * i+2),h1,by rw[Az];exact h2,by rw[Az];exact hJ⟩ [] (by simp only;omega)
    ⟨⟨rfl,rfl,rfl,rfl,rfl,rfl,rfl,rfl,trivial⟩,⟨.inl rfl,rfl,.inl rfl,rfl,trivial⟩,rfl,rfl⟩
  ·have hc:Dj r i n=2 * i+1:=by rw[Dj,if_neg (fun hh=>by rw[A9 hA,A9 hB,h]at hh;exact absurd hh.2 qy)]
   have hJ:=hB
   refine rg ?_;conv=>whnf
   rw[hc,A9 hJ,A9 h3]at h1
   have hls:=Jc r (2 * i+1) i hJ h3
   refine Ai (Du [1] (Bh Γ.toTy Adq F421 E E E E E) hls (.cons (.row E E) (.cons (.refl _) (.cons (.refl _) .nil))) E E) E E ?_
   refine rg ?_;conv=>whnf
   refine⟨fun h=>?_,fun h=>?_⟩
   ·have hf:Bu r[2 * i+1] r[i]=false:=by simpa using h
    rw[hf]at h1
    have e:D=(r,i):=h1.symm
    rw[e]
    refine rg ?_;conv=>whnf
    exact done E (.cons .tmp .nil) [] [(0,.box [.osl 1]),(1,.row 3 Bl r)] (fun _ h=>h) E E ⟨Y,⟨.inl E,E,.inl E,E,Y⟩,E,E⟩
   have hf:Bu r[2 * i+1] r[i]=true:=by simpa using h
   rw[hf,if_pos rfl]at h1
   have hsw:=Jb r i (2 * i+1) h3 hJ
   have e:(r.set i r[2 * i+1]).set (2 * i+1) r[i]=Dp r i (2 * i+1):=by
    rw[Dp,A9 h3,A9 hJ]
   rw[e]at hsw
   refine rg ?_;conv=>whnf
   refine Ai (Cc [(0,1)] (Bh Γ.toTy Adp F424 E E E E E) hsw E ⟨E,Y⟩ E ⟨.inl E,Y⟩) E E ?_
   refine rg ?_;conv=>whnf
   exact Qk (α:={p:List Item × Nat // Dl (n-p.2) p.1 p.2 n=D∧p.1.length=q.length∧p.2<p.1.length}) (L:=fun p=>[(0,.ifc 397 (.ptr 0 0)),(1,Aa i0),(2,Aa n),(7,Aa p.1.2)]) (O:=fun p=>[(0,.box [.osl 1]),(1,.row 3 Bl p.1.1)]) (μ:=fun p=>n-p.1.2) (x:=⟨(r,i),h10,h2,h3⟩)
    ⟨(Dp r i (2 * i+1),2 * i+1),h1,by rw[Az];exact h2,by rw[Az];exact hJ⟩ [] (by simp only;omega)
    ⟨⟨rfl,rfl,rfl,rfl,rfl,rfl,rfl,rfl,trivial⟩,⟨.inl rfl,rfl,.inl rfl,rfl,trivial⟩,rfl,rfl⟩
 ·have h2n:¬ 2 * i+2<n:=by have:=of_decide_eq_false h;omega
  have hJ:2 * i+1<r.length:=by omega
  have hc:Dj r i n=2 * i+1:=by rw[Dj,if_neg (fun hh=>h2n hh.1)]
  (refine rg ?_;(conv=>whnf);refine aF ?_;refine rg ?_;conv=>whnf)
  rw[hc,A9 hJ,A9 h3]at h1
  have hls:=Jc r (2 * i+1) i hJ h3
  refine Ai (Du [1] (Bh Γ.toTy Adq F421 E E E E E) hls (.cons (.row E E) (.cons (.refl _) (.cons (.refl _) .nil))) E E) E E ?_
  refine rg ?_;conv=>whnf
  refine⟨fun h=>?_,fun h=>?_⟩
  ·have hf:Bu r[2 * i+1] r[i]=false:=by simpa using h
   rw[hf]at h1
   have e:D=(r,i):=h1.symm
   rw[e]
   refine rg ?_;conv=>whnf
   exact done E (.cons .tmp .nil) [] [(0,.box [.osl 1]),(1,.row 3 Bl r)] (fun _ h=>h) E E ⟨Y,⟨.inl E,E,.inl E,E,Y⟩,E,E⟩
  have hf:Bu r[2 * i+1] r[i]=true:=by simpa using h
  rw[hf,if_pos rfl]at h1
  have hsw:=Jb r i (2 * i+1) h3 hJ
  have e:(r.set i r[2 * i+1]).set (2 * i+1) r[i]=Dp r i (2 * i+1):=by
   rw[Dp,A9 h3,A9 hJ]
  rw[e]at hsw
  refine rg ?_;conv=>whnf
  refine Ai (Cc [(0,1)] (Bh Γ.toTy Adp F424 E E E E E) hsw E ⟨E,Y⟩ E ⟨.inl E,Y⟩) E E ?_
  refine rg ?_;conv=>whnf
  exact Qk (α:={p:List Item × Nat // Dl (n-p.2) p.1 p.2 n=D∧p.1.length=q.length∧p.2<p.1.length}) (L:=fun p=>[(0,.ifc 397 (.ptr 0 0)),(1,Aa i0),(2,Aa n),(7,Aa p.1.2)]) (O:=fun p=>[(0,.box [.osl 1]),(1,.row 3 Bl p.1.1)]) (μ:=fun p=>n-p.1.2) (x:=⟨(r,i),h10,h2,h3⟩)
   ⟨(Dp r i (2 * i+1),2 * i+1),h1,by rw[Az];exact h2,by rw[Az];exact hJ⟩ [] (by simp only;omega)
   ⟨⟨rfl,rfl,rfl,rfl,rfl,rfl,rfl,rfl,trivial⟩,⟨.inl rfl,rfl,.inl rfl,rfl,trivial⟩,rfl,rfl⟩
def Cs (q:List Item):List Item:=(Dl (q.length-1-0) (Dp q 0 (q.length-1)) 0 (q.length-1)).1
theorem Dt (q:List Item):(Cs q).length=q.length:=by rw[Cs,Tm,Az]
theorem Do {q:List Item} (h:q≠[]):Cs q≠[]:=fun e=>h (List.eq_nil_of_length_eq_zero (by rw[← Dt,e];rfl))
theorem Amx (q:List Item) (hq:q≠[]) (hl:q.length<1000000) :
  Sy.Spec Tryz.prog 288 [.ifc 397 (.ptr 0 0)] [(0,.box [.osl 1]),(1,.row 3 Bl q)] (.ifc 402 (Bl ((Cs q).getLast (Do hq)))) [(0,.box [.osl 2]),(1,.non),(2,.row 3 Bl (Cs q).dropLast)]:=Ab Γ hm 100 F288 Tryz.ntmps288 rfl fun F hF=>by
 have h0:0<q.length:=List.length_pos_iff.2 hq
 have hlen:=Uf q
 have hsw:=Jb q 0 (q.length-1) h0 qn
 have e:(q.set 0 q[q.length-1]).set (q.length-1) q[0]=Dp q 0 (q.length-1):=by
  rw[Dp,A9 (show q.length-1<q.length by omega),A9 h0]
 rw[e]at hsw
 have hdn:=downS (Dp q 0 (q.length-1)) 0 (q.length-1) (by rw[Az];omega) (by rw[Az];exact h0) (by rw[Az];exact hl)
 have hpop:=Ajj (Cs q) (Do hq) (by rw[Dt];exact hl)
 have hln:(q.length:Int)-1=((q.length-1:Nat):Int):=by omega
 conv=>whnf
 refine Ai (Du [1] (Bh Γ.toTy mLen F287 E E E E E) hlen (.cons (.row E E) .nil) E E) E E ?_
 refine rg ?_;conv=>whnf
 refine⟨by unfold I64;omega,?_⟩
 rw[hln]
 conv=>whnf
 refine Ai (Cc [(0,1)] (Bh Γ.toTy Adp F424 E E E E E) hsw E ⟨E,Y⟩ E ⟨.inl E,Y⟩) E E ?_
 refine rg ?_;conv=>whnf
 refine Ai (Ak [] E F337 hdn E ⟨E,E,Y⟩ E ⟨.inl E,.inl E,Y⟩) E E ?_
 refine rg ?_;conv=>whnf
 refine Ai (Cc (rd:=[]) [(2,14)] (Qg mPop F422 E E) hpop E ⟨E,E,Y⟩ E ⟨.inl E,.inl E,.inr E,Y⟩) E E ?_
 refine rg ?_;conv=>whnf
 exact done E (.cons .tmp .nil) [(2,14)] [(0,.box [.osl 2]),(1,.non),(2,.row 3 Bl (Cs q).dropLast)] (fun _ h=>h) E E ⟨Y,⟨.inl E,E,.inl E,E,.inl E,E,Y⟩,E,E⟩
end Go.Sy.YteinjapglfkamaaGreat
namespace Go.Sy.YteinjapglfkamaaGreat
open Go.Proofs
attribute [local irreducible] Go.Sy.G Go.Sy.DR
set_option maxRecDepth 20000
set_option maxHeartbeats 4000000
theorem great1 {n:Net} (h:n.ports.any (fun p=>decide (100<p.tagged.length))=true):H8 n=true:=by simp only[H8,h,Bool.or_true,Bool.true_or]
theorem great2 {n:Net} (h:n.domains.any (fun p=>decide (100<p.peers.length))=true):H8 n=true:=by simp only[H8,h,Bool.or_true,Bool.true_or]
theorem great3 {n:Net} (h:n.floods.any (fun p=>decide (100<p.addrs.length))=true):H8 n=true:=by simp only[H8,h,Bool.or_true,Bool.true_or]
theorem great4 {n:Net} (h:n.vrfs.any (fun v=>decide (100<v.imports.length) || decide (100<v.exports.length))=true):H8 n=true:=by simp only[H8,h,Bool.or_true]
theorem greatS (n:Net):Sy.Spec Tryz.prog 7 [Al n] [] (Ad (H8 n)) []:=Ab Γ hm 100 F7 Tryz.ntmps7 rfl fun F hF=>by
 conv=>whnf
 (repeat' (first | (refine⟨fun h=>?_,fun h=>?_⟩<;>(repeat (first | simp only[decide_eq_true_eq]at h | simp only[decide_eq_false_iff_not]at h))<;>((refine rg ?_);(conv=>whnf);repeat((refine aT ?_);(refine rg ?_);(conv=>whnf)))) | (refine Ac rfl (.cons .tmp .nil) ?_ rfl)))
 all_goals first
  | (refine congrArg Ad ?_;clear hF;grind [H8])
  | skip
 have l1:n.ports.length≤200:=by omega
 have l2:n.domains.length≤200:=by omega
 have l3:n.floods.length≤200:=by omega
 have l4:n.vrfs.length≤200:=by omega
 refine A3 1 8 (Al n) E E E ?_
 refine Ay n.ports.length (fun j=>Dk (fun _ p=>!(decide (100<p.tagged.length))) n.ports j) (fun j=>[(1,.ref 8 (Al n) 0),(3,Aa j)]) (fun _=>[]) [] (A2 _ _) ⟨⟨E,E,E,E,Y⟩,Y,E,E⟩ ?_
 intro j hj hI
 refine rg ?_;conv=>whnf
 refine⟨fun h=>?_,fun h=>?_⟩
 ·have hjl:j<n.ports.length:=by simpa using h
  refine rg ?_;conv=>whnf
  (repeat' (first | (refine⟨fun h=>?_,fun h=>?_⟩<;>(repeat (first | simp only[decide_eq_true_eq]at h | simp only[decide_eq_false_iff_not]at h))<;>((refine rg ?_);(conv=>whnf))) | (refine Ac rfl (.cons .tmp .nil) ?_ rfl) | (refine⟨qq,?_⟩;((conv=>whnf))) | (refine⟨by (omega),by (omega),?_⟩;((conv=>whnf))) | (refine⟨by (unfold I64;omega),?_⟩;((conv=>whnf))) | refine Av [] hI hjl ?_ ⟨⟨rfl,rfl,rfl,rfl,trivial⟩,trivial,rfl,rfl⟩))
  all_goals (simp only[Int.toNat_natCast]at *)
  ·refine congrArg Ad ?_
   exact great1 (M4 hjl (by simp;omega))
  ·exact Ax hI hjl (by simp;omega)
 have a1:n.ports.any (fun p=>decide (100<p.tagged.length))=false:=K1 hI (by simpa using h)
 clear hI hj h
 refine rg ?_;conv=>whnf
 refine Ay n.domains.length (fun j=>Dk (fun _ p=>!(decide (100<p.peers.length))) n.domains j) (fun j=>[(1,.ref 8 (Al n) 0),(4,Aa j)]) (fun _=>[]) [] (A2 _ _) ⟨⟨E,E,E,E,Y⟩,Y,E,E⟩ ?_
 intro j hj hI
 refine rg ?_;conv=>whnf
 refine⟨fun h=>?_,fun h=>?_⟩
 ·have hjl:j<n.domains.length:=by simpa using h
  refine rg ?_;conv=>whnf
  (repeat' (first | (refine⟨fun h=>?_,fun h=>?_⟩<;>(repeat (first | simp only[decide_eq_true_eq]at h | simp only[decide_eq_false_iff_not]at h))<;>((refine rg ?_);(conv=>whnf))) | (refine Ac rfl (.cons .tmp .nil) ?_ rfl) | (refine⟨qq,?_⟩;((conv=>whnf))) | (refine⟨by (omega),by (omega),?_⟩;((conv=>whnf))) | (refine⟨by (unfold I64;omega),?_⟩;((conv=>whnf))) | refine Av [] hI hjl ?_ ⟨⟨rfl,rfl,rfl,rfl,trivial⟩,trivial,rfl,rfl⟩))
  all_goals (simp only[Int.toNat_natCast]at *)
  ·refine congrArg Ad ?_
   exact great2 (M4 hjl (by simp;omega))
  ·exact Ax hI hjl (by simp;omega)
 have a2:n.domains.any (fun p=>decide (100<p.peers.length))=false:=K1 hI (by simpa using h)
 clear hI hj h
 refine rg ?_;conv=>whnf
 refine Ay n.floods.length (fun j=>Dk (fun _ p=>!(decide (100<p.addrs.length))) n.floods j) (fun j=>[(1,.ref 8 (Al n) 0),(5,Aa j)]) (fun _=>[]) [] (A2 _ _) ⟨⟨E,E,E,E,Y⟩,Y,E,E⟩ ?_
 intro j hj hI
 refine rg ?_;conv=>whnf
 refine⟨fun h=>?_,fun h=>?_⟩
 ·have hjl:j<n.floods.length:=by simpa using h
  refine rg ?_;conv=>whnf
  (repeat' (first | (refine⟨fun h=>?_,fun h=>?_⟩<;>(repeat (first | simp only[decide_eq_true_eq]at h | simp only[decide_eq_false_iff_not]at h))<;>((refine rg ?_);(conv=>whnf))) | (refine Ac rfl (.cons .tmp .nil) ?_ rfl) | (refine⟨qq,?_⟩;((conv=>whnf))) | (refine⟨by (omega),by (omega),?_⟩;((conv=>whnf))) | (refine⟨by (unfold I64;omega),?_⟩;((conv=>whnf))) | refine Av [] hI hjl ?_ ⟨⟨rfl,rfl,rfl,rfl,trivial⟩,trivial,rfl,rfl⟩))
  all_goals (simp only[Int.toNat_natCast]at *)
  ·refine congrArg Ad ?_
   exact great3 (M4 hjl (by simp;omega))
  ·exact Ax hI hjl (by simp;omega)
 have a3:n.floods.any (fun p=>decide (100<p.addrs.length))=false:=K1 hI (by simpa using h)
 clear hI hj h
 refine rg ?_;conv=>whnf
 refine Ay n.vrfs.length (fun j=>Dk (fun _ v=>!(decide (100<v.imports.length) || decide (100<v.exports.length))) n.vrfs j) (fun j=>[(1,.ref 8 (Al n) 0),(6,Aa j)]) (fun _=>[]) [] (A2 _ _) ⟨⟨E,E,E,E,Y⟩,Y,E,E⟩ ?_
 intro j hj hI
 refine rg ?_;conv=>whnf
 refine⟨fun h=>?_,fun h=>?_⟩
 ·have hjl:j<n.vrfs.length:=by simpa using h
  refine rg ?_;conv=>whnf
  (repeat' (first | (refine⟨fun h=>?_,fun h=>?_⟩<;>(repeat (first | simp only[decide_eq_true_eq]at h | simp only[decide_eq_false_iff_not]at h))<;>((refine rg ?_);(conv=>whnf);repeat((refine aT ?_);(refine rg ?_);(conv=>whnf)))) | (refine Ac rfl (.cons .tmp .nil) ?_ rfl) | (refine⟨qq,?_⟩;((conv=>whnf))) | (refine⟨by (omega),by (omega),?_⟩;((conv=>whnf))) | (refine⟨by (unfold I64;omega),?_⟩;((conv=>whnf))) | refine Av [] hI hjl ?_ ⟨⟨rfl,rfl,rfl,rfl,trivial⟩,trivial,rfl,rfl⟩))
  all_goals (simp only[Int.toNat_natCast]at *)
  all_goals first
   | exact Ax hI hjl (by simp;omega)
   | (refine congrArg Ad ?_;exact great4 (M4 hjl (by simp;omega)))
 have a4:n.vrfs.any (fun v=>decide (100<v.imports.length) || decide (100<v.exports.length))=false:=K1 hI (by simpa using h)
 clear hI hj h
 refine rg ?_;conv=>whnf
 refine Ac E (.cons .tmp .nil) (congrArg Ad ?_) E
 rw[H8,a1,a2,a3,a4]
 simp
 omega
def Dg:Vec→List Vec→Vec
 | v,[]=>v
 | v,x::l=>Dg (if Zm x v then x else v) l
def zeroV:Vec:=⟨0,0,0,0,0⟩
def Lh:List Vec→Vec × Bool
 | []=>(zeroV,false)
 | v::l=>(Dg v (v::l),true)
theorem Xj:∀ (v:Vec) (l:List Vec),Dg v l=v∨Dg v l∈l
 | v,[]=>.inl rfl
 | v,x::l=>by
  rw[Dg]
  rcases Xj (if Zm x v then x else v) l with h | h
  ·rw[h]
   split
   ·exact .inr qy
   ·exact .inl E
  ·exact .inr (by simp[h])
theorem Ady (v:Vec) (l:List Vec) (j:Nat) (h:j<l.length):Dg v (l.take (j+1))=(if Zm l[j] (Dg v (l.take j)) then l[j] else Dg v (l.take j)):=by
 have key:∀ (a b:List Vec) (v:Vec),Dg v (a++b)=Dg (Dg v a) b:=by
  intro a
  induction a with
  | nil=>intro b v;rfl
  | cons x a ih=>intro b v;rw[List.cons_append,Dg,Dg,ih]
 rw[List.take_succ_eq_append_getElem h,key]
 rfl
theorem leastS (l:List Vec) (hl:An l):Sy.Spec Tryz.prog 289 [.sl 5 L3 l] [] (.tup [L3 (Lh l).1,Ad (Lh l).2]) []:=Ab Γ hm 100 F289 Tryz.ntmps289 rfl fun F hF=>by
 unfold An at hl
 have hR:∀ h:0<l.length,Lh l=(Dg l[0] l,true):=fun h=>by
  cases l with
  | nil=>simp at h
  | cons v t=>rfl
 conv=>whnf
 refine⟨fun h=>?_,fun h=>?_⟩
 ·have:l=[]:=List.eq_nil_of_length_eq_zero (by have:(l.length:Int)=0:=(by simpa using h);omega)
  subst this
  refine rg ?_;conv=>whnf
  exact done E (.cons (.cell E E E E) (.cons .tmp .nil)) [] [] (fun _ h=>h) E E ⟨Y,Y,E,E⟩
 have h0:0<l.length:=by
  have:¬ (l.length:Int)=0:=by simpa using h
  omega
 rw[hR h0]
 refine rg ?_;conv=>whnf
 refine⟨E,by decide,h0,?_⟩
 conv=>whnf
 have e0:l[(0:Int).toNat]'(h0)=l[0]:=rfl
 generalize hv:l[0]=v at *
 refine Aw l.length (fun j=>[(0,.sl 5 L3 l),(2,.ptr 2 0),(4,.ptr 4 0),(14,.sl 5 L3 l),(15,Aa l.length),(16,Aa j)]) (fun j=>[(2,.box [Aa 0,Aa 0,Aa 0,Aa 0,Aa 0]),(4,.box [Aa (Dg v (l.take j)).root,Aa (Dg v (l.take j)).cost,Aa (Dg v (l.take j)).bridge,Aa (Dg v (l.take j)).port,Aa (Dg v (l.take j)).own])]) []
  ⟨⟨rfl,rfl,rfl,rfl,rfl,rfl,rfl,rfl,rfl,rfl,rfl,rfl,trivial⟩,⟨.inl rfl,rfl,.inl (by subst hv;rfl),rfl,trivial⟩,rfl,rfl⟩ ?_
 intro j hj
 refine rg ?_;conv=>whnf
 refine⟨fun h=>?_,fun h=>?_⟩
 ·have hlt:j<l.length:=by simpa using h
  have hdrop:=Ady v l j hlt
  generalize hx:l[j]=x at hdrop
  have hx':l[(j:Int).toNat]'qn=x:=hx
  generalize hmn:Dg v (l.take j)=m at hdrop
  refine rg ?_;conv=>whnf
  refine⟨E,by omega,by omega,?_⟩
  rw[hx']
  conv=>whnf
  refine Ag (lessS x m) F338 E E E E E ?_
  refine rg ?_;conv=>whnf
  refine⟨fun h2=>?_,fun h2=>?_⟩
  ·rw[h2,if_pos rfl]at hdrop
   refine rg ?_;conv=>whnf
   refine⟨by unfold I64;omega,?_⟩
   conv=>whnf
   exact Ar [] hlt ⟨⟨E,E,E,E,E,E,E,E,E,E,E,E,Y⟩,⟨.inl E,E,.inl (by rw[hdrop];rfl),E,Y⟩,E,E⟩
  ·rw[h2]at hdrop
   refine rg ?_;conv=>whnf
   refine⟨by unfold I64;omega,?_⟩
   conv=>whnf
   exact Ar [] hlt ⟨⟨E,E,E,E,E,E,E,E,E,E,E,E,Y⟩,⟨.inl E,E,.inl (by rw[hdrop];rfl),E,Y⟩,E,E⟩
 ·have hjl:¬ j<l.length:=by simpa using h
  rw[List.take_of_length_le qn]
  refine rg ?_;conv=>whnf
  exact done E (.cons (.cell E E E E) (.cons .tmp .nil)) [] [] (fun _ h=>h) E E ⟨Y,Y,E,E⟩
theorem leastR_mem {l:List Vec} (h:(Lh l).2=true):(Lh l).1∈l:=by
 cases l with
 | nil=>cases h
 | cons v t =>
  rcases Xj v (v::t) with h | h
  ·show Dg v (v::t)∈v::t
   rw[h];simp
  ·exact h
theorem U4 (n:Net):∀ x∈Dq n,0≤x∧x<n.devices.length:=fun x hx=>by
 rw[Ac7,Kj]at hx
 obtain ⟨i,hi,rfl⟩:=List.mem_map.1 hx
 have hi:=List.mem_range.1 hi
 have h1:=List.countP_le_length (p:=fun k=>Ci n (k:Nat) i) (l:=List.range n.devices.length)
 rw[List.length_range]at h1
 have h2:(List.range n.devices.length).countP (fun k=>Ci n (k:Nat) i)≠n.devices.length:=fun e=>by
  have:=List.countP_eq_length.1 (e.trans List.length_range.symm) i (List.mem_range.2 hi)
  rw[Lt]at this
  cases this
 omega
theorem J3 (n:Net):(Dq n).length=n.devices.length:=by rw[Ac7,Kj];simp
end Go.Sy.YteinjapglfkamaaGreat
namespace Go.Sy.YteinjapglfkamaaGreat
open Go.Proofs
attribute [local irreducible] Go.Sy.G Go.Sy.DR
set_option maxRecDepth 100000
set_option maxHeartbeats 4000000
def O3 (n:Net) (up:List Bool) (ranks:List Int) (x y:SV):List SV:=[.sl 5 Bm n.devices,.sl 7 A5 n.ports,.sl 3 Ch n.links,.sl 6 At n.domains,.sl 4 Bk n.statics,.sl 4 Bw n.floods,.sl 5 Cv n.vrfs,.sl 5 Cg n.irbs,.sl 1 Ad up,.sl 1 Aa ranks,x,y]
def Da (n:Net) (up:List Bool) (i:Nat):Int :=
 let p:=n.ports.getD i default
 if p.link<0 || !(up.getD p.link.toNat false) then -1 else (nth n.links p.link).a+(nth n.links p.link).b-i
theorem farS (n:Net) (up:List Bool) (ranks:List Int) (x y:SV) (_hx:(x.boxed && x.data && y.boxed && y.data && Nat.beq (cellsOf x).length 1 && Nat.beq (cellsOf y).length 1)=true) (i:Nat) (hr:Ae n=true) (hu:up.length=n.links.length) (hi:i<n.ports.length) :
  Sy.Spec Tryz.prog 222 [.ref 12 (.agg (O3 n up ranks x y)) 0,Aa i] [] (Aa (Da n up i)) []:=Ab Γ hm 100 F222 Tryz.ntmps222 rfl fun F hF=>by
 have hpl:=Od hr hi
 have hf:=D8 hr
 have e1:n.ports[(i:Int).toNat]'qn=n.ports[i]:=rfl
 have hfar:Da n up i=if n.ports[i].link<0 || !(up.getD n.ports[i].link.toNat false) then -1 else (nth n.links n.ports[i].link).a+(nth n.links n.ports[i].link).b-i:=by
  rw[Da,A9 hi]
 generalize hp:n.ports[i]=p at *
 have hle:=fun h=>Ko hr (i:=p.link.toNat) h
 conv=>whnf
 refine⟨E,by omega,by omega,?_⟩
 rw[e1]
 conv=>whnf
 (repeat' (first | (refine⟨fun h=>?_,fun h=>?_⟩<;>(repeat (first | simp only[decide_eq_true_eq]at h | simp only[decide_eq_false_iff_not]at h | simp only[Bool.not_eq_true']at h | simp only[Bool.not_eq_false']at h))<;>((first|refine rg ?_|refine rd qq ?_);(conv=>whnf))) | (refine Ac rfl (.cons .tmp .nil) ?_ rfl) | (refine⟨qq,?_⟩;((conv=>whnf);repeat((refine aT ?_);(refine rg ?_);(conv=>whnf)))) | (refine⟨by (first | omega | ((have hq:=hle qn;unfold I64;omega))),by (first | omega | ((have hq:=hle qn;unfold I64;omega))),?_⟩;((conv=>whnf)))))
 all_goals (refine congrArg Aa ?_;rw[hfar])
 ·simp_all
 ·have h1:up.getD p.link.toNat false=false:=by rw[A9 qn];assumption
  rw[h1];simp
 ·have h1:up.getD p.link.toNat false=true:=by rw[A9 qn];assumption
  rw[h1,Ah qn]
  simp_all
def L6 (n:Net) (up:List Bool) (ranks roots costs:List Int):SV:=.ref 12 (.agg (O3 n up ranks (.sl 1 Aa roots) (.sl 1 Aa costs))) 0
def Kf (n:Net) (ranks costs:List Int) (i k:Nat):Bool :=
 let a:=(n.ports.getD i default).dev
 let b:=(n.ports.getD k default).dev
 decide (nth costs a<nth costs b) || (nth costs a == nth costs b && decide (nth ranks a<nth ranks b))
theorem Aff (n:Net) (up:List Bool) (ranks roots costs:List Int) (i k:Nat) (hr:Ae n=true) (hrk:ranks.length=n.devices.length) (hc:costs.length=n.devices.length) (hi:i<n.ports.length) (hk:k<n.ports.length) :
  Sy.Spec Tryz.prog 223 [L6 n up ranks roots costs,Aa i,Aa k] [] (Ad (Kf n ranks costs i k)) []:=Ab Γ hm 100 F223 Tryz.ntmps223 rfl fun F hF=>by
 have hd1:=Me hr hi
 have hd2:=Me hr hk
 have e1:n.ports[(i:Int).toNat]'qn=n.ports[i]:=rfl
 have e2:n.ports[(k:Int).toNat]'qn=n.ports[k]:=rfl
 have hres:Kf n ranks costs i k=(decide (nth costs n.ports[i].dev<nth costs n.ports[k].dev) || (nth costs n.ports[i].dev == nth costs n.ports[k].dev && decide (nth ranks n.ports[i].dev<nth ranks n.ports[k].dev))):=by
  rw[Kf,A9 hi,A9 hk]
 rw[Ah qn,Ah qn,Ah qn,Ah qn]at hres
 conv=>whnf
 (repeat' (first | (refine⟨fun h=>?_,fun h=>?_⟩<;>(repeat (first | simp only[decide_eq_true_eq]at h | simp only[decide_eq_false_iff_not]at h | simp only[beq_iff_eq]at h | simp only[beq_eq_false_iff_ne]at h))<;>((refine rd qq ?_);(conv=>whnf))) | (refine Ac rfl (.cons .tmp .nil) ?_ rfl) | (refine⟨qq,?_⟩;((conv=>whnf))) | (refine⟨by (first | omega | (simp only[Int.toNat_natCast];omega)),by (first | omega | (simp only[Int.toNat_natCast];omega)),?_⟩;((conv=>whnf)))))
 all_goals (refine congrArg Ad ?_;rw[hres];clear hF hres hr;simp only[Int.toNat_natCast]at *;grind)
theorem X1 {n:Net} {up:List Bool} (h:Ae n=true) {i:Nat} (hi:i<n.ports.length) (hf:0≤Da n up i):Da n up i<n.ports.length:=by
 have hp:=K9 h hi
 have hpl:=Od h hi
 simp only[Eh,Bool.and_eq_true,Bool.or_eq_true,beq_iff_eq]at hp
 have hp:=hp.2
 unfold Da at *
 rw[A9 hi]at *
 simp only at *
 split at hf
 ·omega
 ·rename_i hc
  rw[if_neg hc]
  simp only[Bool.or_eq_true,decide_eq_true_eq,not_or]at hc
  rcases hp with hp | hp
  ·omega
  ·have hl:n.ports[i].link.toNat<n.links.length:=by omega
   have he:=Ko h hl
   rw[Ah hl]at *
   omega
def Ye (n:Net) (up:List Bool) (ranks roots costs:List Int) (dev:Int) (i:Nat):Option Vec :=
 let p:=n.ports.getD i default
 let far:=Da n up i
 let there:=(nth n.ports far).dev
 if p.dev == dev && decide (0≤far) then some ⟨nth roots there,nth costs there+p.cost,nth ranks there,far,i⟩ else none
def Kz (n:Net) (up:List Bool) (ranks roots costs:List Int) (dev:Int) (j:Nat):List Vec:=(List.range j).filterMap (Ye n up ranks roots costs dev)
theorem Ag7 (n:Net) (up:List Bool) (ranks roots costs:List Int) (dev:Int) (j:Nat):Kz n up ranks roots costs dev (j+1)=Kz n up ranks roots costs dev j++(Ye n up ranks roots costs dev j).toList:=by
 rw[Kz,List.range_succ,List.filterMap_append]
 cases h:Ye n up ranks roots costs dev j<;>simp[Kz,h]
theorem Tu (n:Net) (up:List Bool) (ranks roots costs:List Int) (dev:Int) (j:Nat):(Kz n up ranks roots costs dev j).length≤j:=by
 have:=List.length_filterMap_le (Ye n up ranks roots costs dev) (List.range j)
 simpa [Kz] using this
def Qj (n:Net) (up:List Bool) (ranks roots costs:List Int) (dev:Int):Int :=
 let r:=Lh (Kz n up ranks roots costs dev n.ports.length)
 if !r.2 || nth roots dev == nth ranks dev then -1 else r.1.own
theorem bestS (n:Net) (up:List Bool) (ranks roots costs:List Int) (dev:Int) (hr:Ae n=true) (hu:up.length=n.links.length) (hcost:Db n=true) (hrk:ranks.length=n.devices.length) (hro:roots.length=n.devices.length) (hc:costs.length=n.devices.length)
  (hb:∀ c∈costs,0≤c∧c<1000000000) (hd:0≤dev∧dev<n.devices.length) :
  Sy.Spec Tryz.prog 224 [L6 n up ranks roots costs,Aa dev] [] (Aa (Qj n up ranks roots costs dev)) []:=Ab Γ hm 100 F224 Tryz.ntmps224 rfl fun F hF=>by
 have hf:=D8 hr
 conv=>whnf
 refine B7 5 1000 5 L3 E E ?_
 refine Aw n.ports.length (fun j=>[(0,L6 n up ranks roots costs),(1,Aa dev),(5,.osl 1000),(16,.sl 7 A5 n.ports),(17,Aa n.ports.length),(18,Aa j)]) (fun j=>[(1000,.row 5 L3 (Kz n up ranks roots costs dev j))]) []
  ⟨⟨rfl,rfl,rfl,rfl,rfl,rfl,rfl,rfl,rfl,rfl,rfl,rfl,trivial⟩,⟨.inl rfl,rfl,trivial⟩,rfl,rfl⟩ ?_
 intro j hj
 refine rg ?_;conv=>whnf
 refine⟨fun h=>?_,fun h=>?_⟩
 ·have hlt:j<n.ports.length:=by simpa using h
  have e1:n.ports[(j:Int).toNat]'qn=n.ports[j]:=rfl
  have hfar:=farS n up ranks (.sl 1 Aa roots) (.sl 1 Aa costs) rfl j hr hu hlt
  have hfl:=X1 (up:=up) hr hlt
  have hsucc:=Ag7 n up ranks roots costs dev j
  have hbl:=Tu n up ranks roots costs dev j
  have hcand:Ye n up ranks roots costs dev j=if n.ports[j].dev == dev && decide (0≤Da n up j) then some ⟨nth roots (nth n.ports (Da n up j)).dev,nth costs (nth n.ports (Da n up j)).dev+n.ports[j].cost,nth ranks (nth n.ports (Da n up j)).dev,Da n up j,j⟩ else none:=by
   rw[Ye,A9 hlt]
  generalize Da n up j=k at *
  have hpc:1≤n.ports[j].cost∧n.ports[j].cost≤65535:=by
   simp only[Db,Bool.not_eq_true',List.any_eq_false]at hcost
   have:=hcost _ (List.getElem_mem hlt)
   simp only[Jv,Bool.or_eq_true,decide_eq_true_eq,not_or]at this
   omega
  obtain ⟨p,hp⟩:∃ p,n.ports[j]=p:=⟨_,rfl⟩
  rw[hp]at e1 hcand hpc
  refine rg ?_;conv=>whnf
  refine⟨E,by omega,by omega,?_⟩
  rw[e1]
  conv=>whnf
  refine Ag hfar F222 E E E E E ?_
  refine rg ?_;conv=>whnf
  refine⟨fun h=>?_,fun h=>?_⟩
  ·refine rg ?_;conv=>whnf
   refine⟨fun h2=>?_,fun h2=>?_⟩
   ·have hk0:0≤k:=of_decide_eq_true h2
    have hk1:=hfl hk0
    rw[if_pos (by simp only[Bool.and_eq_true,decide_eq_true_eq];exact⟨h,hk0⟩),Ah (l:=n.ports) (i:=k) qn]at hcand
    have hpd:=Me hr (i:=k.toNat) qn
    obtain ⟨q,hq⟩:∃ q,n.ports[k.toNat]'qn=q:=⟨_,rfl⟩
    rw[hq]at hcand hpd
    have hcb:=hb (costs[q.dev.toNat]'qn) (List.getElem_mem _)
    rw[Ah (l:=roots) (i:=q.dev) qn,Ah (l:=costs) (i:=q.dev) qn,Ah (l:=ranks) (i:=q.dev) qn]at hcand
    refine rg ?_;conv=>whnf
    refine⟨E,hk0,by omega,?_⟩
    rw[hq]
    conv=>whnf
    refine⟨qq,?_⟩
    refine⟨by omega,by omega,?_⟩
    conv=>whnf
    refine⟨qq,?_⟩
    refine⟨by omega,by omega,?_⟩
    conv=>whnf
    refine⟨by unfold I64;omega,?_⟩
    conv=>whnf
    refine⟨qq,?_⟩
    refine⟨by omega,by omega,?_⟩
    conv=>whnf
    refine Bn (Am Γ.toTy 72 E E E E E (.row E) (.lit (l:=[(⟨roots[q.dev.toNat]'qn,costs[q.dev.toNat]'qn+p.cost,ranks[q.dev.toNat]'qn,k,j⟩:Vec)]) E E) qy (by simp;omega) (by simp;omega)) qq E ?_
    refine rd qq ?_;conv=>whnf
    refine⟨qq,?_⟩
    conv=>whnf
    refine⟨by unfold I64;omega,?_⟩
    conv=>whnf
    refine Ar [(1000,72)] hlt ⟨⟨E,E,E,E,E,E,E,E,E,E,E,E,Y⟩,⟨.inl (congrArg (Ob.row 5 L3) ?_),E,Y⟩,E,E⟩
    rw[hsucc,hcand]
    rfl
   ·have hk0:¬ 0≤k:=of_decide_eq_false h2
    rw[if_neg (by simp only[Bool.and_eq_true,decide_eq_true_eq];exact fun hh=>hk0 hh.2)]at hcand
    refine rg ?_;conv=>whnf
    refine⟨by unfold I64;omega,?_⟩
    conv=>whnf
    refine Ar [] hlt ⟨⟨E,E,E,E,E,E,E,E,E,E,E,E,Y⟩,⟨.inl (congrArg (Ob.row 5 L3) ?_),E,Y⟩,E,E⟩
    rw[hsucc,hcand]
    simp
  ·rw[if_neg (by rw[h];simp)]at hcand
   (refine rg ?_;(conv=>whnf);refine aF ?_;refine rg ?_;conv=>whnf)
   refine⟨by unfold I64;omega,?_⟩
   conv=>whnf
   refine Ar [] hlt ⟨⟨E,E,E,E,E,E,E,E,E,E,E,E,Y⟩,⟨.inl (congrArg (Ob.row 5 L3) ?_),E,Y⟩,E,E⟩
   rw[hsucc,hcand]
   simp
 ·have hjl:j=n.ports.length:=by
   have:¬ j<n.ports.length:=by simpa using h
   omega
  subst hjl
  have hbl:=Tu n up ranks roots costs dev n.ports.length
  have hbi:Qj n up ranks roots costs dev=if !(Lh (Kz n up ranks roots costs dev n.ports.length)).2 || nth roots dev == nth ranks dev then -1 else (Lh (Kz n up ranks roots costs dev n.ports.length)).1.own:=rfl
  rw[Ah qn,Ah qn]at hbi
  have hls:=leastS (Kz n up ranks roots costs dev n.ports.length) (by unfold An;omega)
  generalize Lh (Kz n up ranks roots costs dev n.ports.length)=r at hls hbi
  obtain ⟨v,ok⟩:=r
  simp only at hls hbi
  rw[hbi]
  refine rg ?_;conv=>whnf
  refine Au 1000 E ?_
  refine Ag hls F289 E E E E E ?_
  refine rg ?_;conv=>whnf
  (repeat' (first | (refine⟨fun h=>?_,fun h=>?_⟩<;>(repeat (first | simp only[beq_iff_eq]at h | simp only[beq_eq_false_iff_ne]at h | simp only[Bool.not_eq_true']at h | simp only[Bool.not_eq_false']at h))<;>((first|refine rg ?_|refine rd qq ?_);(conv=>whnf))) | (refine Ac rfl (.cons .tmp .nil) ?_ rfl) | (refine⟨qq,?_⟩;((conv=>whnf);repeat((refine aT ?_);(refine rg ?_);(conv=>whnf)))) | (refine⟨by (omega),by (omega),?_⟩;((conv=>whnf)))))
  all_goals (refine congrArg Aa ?_;clear hF hls hbi;grind)
theorem best_lt {n:Net} {up:List Bool} {ranks roots costs:List Int} {dev:Int} (h:0≤Qj n up ranks roots costs dev):Qj n up ranks roots costs dev<n.ports.length:=by
 have hmem:=@leastR_mem (Kz n up ranks roots costs dev n.ports.length)
 unfold Qj at *
 simp only at *
 split at h
 ·omega
 ·rename_i hc
  rw[if_neg hc]
  simp only[Bool.or_eq_true,Bool.not_eq_true',not_or]at hc
  have h2:=hmem (by simpa using hc.1)
  obtain ⟨i,hi,he⟩:=List.mem_filterMap.1 h2
  have hi:=List.mem_range.1 hi
  unfold Ye at he
  simp only at he
  split at he
  ·have e:=congrArg Vec.own (Option.some.inj he)
   simp only at e
   omega
  ·cases he
def Ahr (n:Net) (up:List Bool) (ranks costs:List Int) (i:Nat):Int :=
 if Da n up i<0 then 0 else if Kf n ranks costs i (Da n up i).toNat then 2 else 3
def H4 (n:Net) (up:List Bool) (ranks costs:List Int) (j:Nat):List Int:=(List.range n.ports.length).map fun i=>if i<j then Ahr n up ranks costs i else 0
theorem O5 (n:Net) (up:List Bool) (ranks costs:List Int) (j:Nat):(H4 n up ranks costs j).length=n.ports.length:=by simp[H4]
theorem Acp (n:Net) (up:List Bool) (ranks costs:List Int):H4 n up ranks costs 0=List.replicate n.ports.length 0:=by
 rw[H4]
 exact List.ext_getElem qy qy
theorem Acq (n:Net) (up:List Bool) (ranks costs:List Int) (j:Nat) (hj:j<n.ports.length):H4 n up ranks costs (j+1)=(H4 n up ranks costs j).set j (Ahr n up ranks costs j):=by
 refine List.ext_getElem (by simp[H4]) (fun i h1 h2=>?_)
 rw[List.getElem_set]
 simp only[H4,List.getElem_map,List.getElem_range]
 rcases Nat.lt_trichotomy i j with h | h | h
 ·rw[if_pos qn,if_neg qn,if_pos h]
 ·subst h;rw[if_pos qn,if_pos rfl]
 ·rw[if_neg qn,if_neg qn,if_neg qn]
theorem Acr (n:Net) (up:List Bool) (ranks costs:List Int) (j:Nat) (h:Ahr n up ranks costs j=0):H4 n up ranks costs (j+1)=H4 n up ranks costs j:=by
 simp only[H4]
 refine List.map_congr_left (fun i _=>?_)
 by_cases hij:i<j
 ·rw[if_pos qn,if_pos hij]
 ·by_cases he:i=j
  ·subst he;rw[if_pos qn,if_neg hij,h]
  ·rw[if_neg qn,if_neg hij]
def J0 (n:Net) (up:List Bool) (ranks roots costs:List Int):Nat→List Int
 | 0=>H4 n up ranks costs n.ports.length
 | d+1=>if 0≤Qj n up ranks roots costs d then (J0 n up ranks roots costs d).set (Qj n up ranks roots costs d).toNat 1 else J0 n up ranks roots costs d
theorem Ib (n:Net) (up:List Bool) (ranks roots costs:List Int):∀ d,(J0 n up ranks roots costs d).length=n.ports.length
 | 0=>O5 n up ranks costs _
 | d+1=>by
  rw[J0]
  split
  ·rw[List.length_set,Ib]
  ·rw[Ib]
theorem rolesS (n:Net) (up:List Bool) (ranks roots costs:List Int) (hr:Ae n=true) (hu:up.length=n.links.length) (hcost:Db n=true) (hrk:ranks.length=n.devices.length) (hro:roots.length=n.devices.length) (hc:costs.length=n.devices.length)
  (hb:∀ c∈costs,0≤c∧c<1000000000) :
  Sy.Spec Tryz.prog 161 [L6 n up ranks roots costs] [] (.sl 1 Aa (J0 n up ranks roots costs n.devices.length)) []:=Ab Γ hm 100 F161 Tryz.ntmps161 rfl fun F hF=>by
 have hf:=D8 hr
 conv=>whnf
 refine Ai (Br Γ.toTy (d:=14) (n:=n.ports.length) Aa 0 E E E E E E E E qn qn E E E) E E ?_
 rw[← Acp n up ranks costs]
 refine rg ?_;conv=>whnf
 refine Aw n.ports.length (fun j=>[(0,L6 n up ranks roots costs),(3,.osl 14),(20,Aa n.ports.length),(21,Aa j)]) (fun j=>[(14,.row 1 Aa (H4 n up ranks costs j))]) []
  ⟨⟨rfl,rfl,rfl,rfl,rfl,rfl,rfl,rfl,trivial⟩,⟨.inl rfl,rfl,trivial⟩,rfl,rfl⟩ ?_
 intro j hj
 refine rg ?_;conv=>whnf
 refine⟨fun h=>?_,fun h=>?_⟩
 ·have hlt:j<n.ports.length:=by simpa using h
  have hfar:=farS n up ranks (.sl 1 Aa roots) (.sl 1 Aa costs) rfl j hr hu hlt
  have hfl:=X1 (up:=up) hr hlt
  have hlen:=O5 n up ranks costs j
  have hrole:Ahr n up ranks costs j=if Da n up j<0 then 0 else if Kf n ranks costs j (Da n up j).toNat then 2 else 3:=rfl
  have hsucc:=Acq n up ranks costs j hlt
  have hsame:=Acr n up ranks costs j
  generalize Da n up j=k at *
  refine rg ?_;conv=>whnf
  refine Ag hfar F222 E E E E E ?_
  refine rg ?_;conv=>whnf
  refine⟨fun h=>?_,fun h=>?_⟩
  ·have hk:k<0:=of_decide_eq_true h
   rw[if_pos hk]at hrole
   refine rg ?_;conv=>whnf
   refine⟨by unfold I64;omega,?_⟩
   conv=>whnf
   exact Ar [] hlt ⟨⟨E,E,E,E,E,E,E,E,Y⟩,⟨.inl (congrArg (Ob.row 1 Aa) (hsame hrole)),E,Y⟩,E,E⟩
  have hk:¬ k<0:=of_decide_eq_false h
  rw[if_neg hk]at hrole
  obtain ⟨m,rfl⟩:∃ m:Nat,k=m:=⟨k.toNat,by omega⟩
  have hah:=Aff n up ranks roots costs j m hr hrk hc hlt qn
  rw[Int.toNat_natCast]at hrole
  refine rg ?_;conv=>whnf
  refine Ag hah F223 E E E E E ?_
  refine rg ?_;conv=>whnf
  refine⟨fun h=>?_,fun h=>?_⟩
  ·rw[h,if_pos rfl]at hrole
   rw[hrole]at hsucc
   refine rg ?_;conv=>whnf
   refine⟨by omega,by omega,?_⟩
   conv=>whnf
   refine⟨E,by omega,2,E,E,?_⟩
   conv=>whnf
   refine⟨by unfold I64;omega,?_⟩
   conv=>whnf
   exact Ar [] hlt ⟨⟨E,E,E,E,E,E,E,E,Y⟩,⟨.inl (congrArg (Ob.row 1 Aa) hsucc),E,Y⟩,E,E⟩
  ·rw[h]at hrole
   simp only[Bool.false_eq_true,if_false]at hrole
   rw[hrole]at hsucc
   refine rg ?_;conv=>whnf
   refine⟨by omega,by omega,?_⟩
   conv=>whnf
   refine⟨E,by omega,3,E,E,?_⟩
   conv=>whnf
   refine⟨by unfold I64;omega,?_⟩
   conv=>whnf
   exact Ar [] hlt ⟨⟨E,E,E,E,E,E,E,E,Y⟩,⟨.inl (congrArg (Ob.row 1 Aa) hsucc),E,Y⟩,E,E⟩
 have hjl:j=n.ports.length:=by
  have:¬ j<n.ports.length:=by simpa using h
  omega
 subst hjl
 refine rg ?_;conv=>whnf
 refine Aw n.devices.length (fun d=>[(0,L6 n up ranks roots costs),(3,.osl 14),(47,Aa n.devices.length),(48,Aa d)]) (fun d=>[(14,.row 1 Aa (J0 n up ranks roots costs d))]) []
  ⟨⟨rfl,rfl,rfl,rfl,rfl,rfl,rfl,rfl,trivial⟩,⟨.inl rfl,rfl,trivial⟩,rfl,rfl⟩ ?_
 clear hj h
 intro d hdle
 refine rg ?_;conv=>whnf
 refine⟨fun h=>?_,fun h=>?_⟩
 ·have hlt:d<n.devices.length:=by simpa using h
  have hbs:=bestS n up ranks roots costs d hr hu hcost hrk hro hc hb qn
  have hbl:=@best_lt n up ranks roots costs d
  have hlen:=Ib n up ranks roots costs d
  have hsucc:J0 n up ranks roots costs (d+1)=if 0≤Qj n up ranks roots costs d then (J0 n up ranks roots costs d).set (Qj n up ranks roots costs d).toNat 1 else J0 n up ranks roots costs d:=rfl
  generalize Qj n up ranks roots costs d=k at *
  refine rg ?_;conv=>whnf
  refine Ag hbs F224 E E E E E ?_
  refine rg ?_;conv=>whnf
  refine⟨fun h=>?_,fun h=>?_⟩
  ·have hk:0≤k:=of_decide_eq_true h
   rw[if_pos hk]at hsucc
   refine rg ?_;conv=>whnf
   refine⟨hk,by omega,?_⟩
   conv=>whnf
   refine⟨E,by omega,1,E,E,?_⟩
   conv=>whnf
   refine⟨by unfold I64;omega,?_⟩
   conv=>whnf
   exact Ar [] hlt ⟨⟨E,E,E,E,E,E,E,E,Y⟩,⟨.inl (congrArg (Ob.row 1 Aa) hsucc),E,Y⟩,E,E⟩
  ·have hk:¬ 0≤k:=of_decide_eq_false h
   rw[if_neg hk]at hsucc
   refine rg ?_;conv=>whnf
   refine⟨by unfold I64;omega,?_⟩
   conv=>whnf
   exact Ar [] hlt ⟨⟨E,E,E,E,E,E,E,E,Y⟩,⟨.inl (congrArg (Ob.row 1 Aa) hsucc),E,Y⟩,E,E⟩
 have hdl:d=n.devices.length:=by
  have:¬ d<n.devices.length:=by simpa using h
  omega
 subst hdl
 refine rg ?_;conv=>whnf
 refine Au 14 E ?_
 exact Ac E (.cons .tmp .nil) E E
def Zg (n:Net) (up:List Bool) (ranks:List Int) (roots costs:List Int):Obs:=[(0,.box (O3 n up ranks (.osl 1) (.osl 2))),(1,.row 1 Aa roots),(2,.row 1 Aa costs)]
theorem farR (n:Net) (up:List Bool) (ranks roots costs:List Int) (i:Nat) (hr:Ae n=true) (hu:up.length=n.links.length) (hi:i<n.ports.length) :
  Sy.Spec Tryz.prog 222 [.ptr 0 0,Aa i] (Zg n up ranks roots costs) (Aa (Da n up i)) (Zg n up ranks roots costs):=Ab Γ hm 100 F222 Tryz.ntmps222 rfl fun F hF=>by
 have hpl:=Od hr hi
 have hf:=D8 hr
 have e1:n.ports[(i:Int).toNat]'qn=n.ports[i]:=rfl
 have hfar:Da n up i=if n.ports[i].link<0 || !(up.getD n.ports[i].link.toNat false) then -1 else (nth n.links n.ports[i].link).a+(nth n.links n.ports[i].link).b-i:=by
  rw[Da,A9 hi]
 generalize hp:n.ports[i]=p at *
 have hle:=fun h=>Ko hr (i:=p.link.toNat) h
 conv=>whnf
 refine⟨E,by omega,by omega,?_⟩
 rw[e1]
 conv=>whnf
 (repeat' (first | (refine⟨fun h=>?_,fun h=>?_⟩<;>(repeat (first | simp only[decide_eq_true_eq]at h | simp only[decide_eq_false_iff_not]at h | simp only[Bool.not_eq_true']at h | simp only[Bool.not_eq_false']at h))<;>((first|refine rg ?_|refine rd qq ?_);(conv=>whnf))) | (refine⟨qq,?_⟩;((conv=>whnf);repeat((refine aT ?_);(refine rg ?_);(conv=>whnf)))) | (refine⟨by (first | omega | ((have hq:=hle qn;unfold I64;omega))),by (first | omega | ((have hq:=hle qn;unfold I64;omega))),?_⟩;((conv=>whnf))) | refine done rfl (.cons .tmp .nil) [] (Zg n up ranks roots costs) (fun _ h=>h) ?_ rfl ⟨trivial,⟨.inl rfl,rfl,.inl rfl,rfl,.inl rfl,rfl,trivial⟩,rfl,rfl⟩))
 all_goals (refine congrArg Aa ?_;rw[hfar])
 ·simp_all
 ·have h1:up.getD p.link.toNat false=false:=by rw[A9 qn];assumption
  rw[h1];simp
 ·have h1:up.getD p.link.toNat false=true:=by rw[A9 qn];assumption
  rw[h1,Ah qn]
  simp_all
def C3 (n:Net) (up:List Bool) (x:Item) (q:List Item) (i:Nat):List Item :=
 if (n.ports.getD i default).dev=x.dev∧0≤Da n up i then O7 q ⟨x.root,x.cost+(nth n.ports (Da n up i)).cost,(nth n.ports (Da n up i)).dev⟩ else q
def Lb (n:Net) (up:List Bool) (s:List Item × List Int × List Int):List Item × List Int × List Int :=
 let x:=(Cs s.1).getLast?.getD default
 let q:=(Cs s.1).dropLast
 if 0≤nth s.2.1 x.dev then (q,s.2) else ((List.range n.ports.length).foldl (C3 n up x) q,s.2.1.set x.dev.toNat x.root,s.2.2.set x.dev.toNat x.cost)
def Eu (n:Net) (up:List Bool):Nat→List Item × List Int × List Int→List Item × List Int × List Int
 | 0,s=>s
 | f+1,s=>if s.1=[] then s else Eu n up f (Lb n up s)
end Go.Sy.YteinjapglfkamaaGreat
namespace Go.Sy.YteinjapglfkamaaGreat
theorem Qm (q:List Item) (i j:Nat) (hi:i<q.length) (hj:j<q.length):(Dp q i j).Perm q:=by
 rw[Dp,A9 hi,A9 hj]
 exact List.set_set_perm hi hj
theorem Aca:∀ (f:Nat) (q:List Item) (j:Nat),j<q.length→(upF f q j).Perm q
 | 0,_,_,_=>.refl _
 | f+1,q,j,hj=>by
  rw[upF]
  split
  ·exact .refl _
  ·split
   ·exact(Aca f _ _ (by rw[Az];omega)).trans (Qm q _ _ qn hj)
   ·exact .refl _
theorem X7:∀ (f:Nat) (q:List Item) (i n:Nat),i<q.length→n≤q.length→(Dl f q i n).1.Perm q
 | 0,_,_,_,_,_=>.refl _
 | f+1,q,i,n,hi,hn=>by
  rw[Dl]
  split
  ·rename_i h
   have hc:=Kx q i n h
   split
   ·exact(X7 f _ _ n (by rw[Az];omega) (by rw[Az];exact hn)).trans (Qm q _ _ hi qn)
   ·exact .refl _
  ·exact .refl _
theorem Ld (q:List Item) (x:Item):(O7 q x).Perm (x::q) :=
 (Aca _ _ _ qy).trans (List.perm_append_comm (l₁:=q) (l₂:=[x]))
theorem Iy (q:List Item) (x:Item):(O7 q x).length=q.length+1:=by rw[O7,Wk];simp
theorem Oe (q:List Item) (hq:q≠[]):(Cs q).Perm q:=by
 have h0:0<q.length:=List.length_pos_iff.2 hq
 exact(X7 _ _ _ _ (by rw[Az];exact h0) (by rw[Az];omega)).trans (Qm q _ _ h0 qn)
def Jp (q:List Item) (n:Nat):Prop:=∀ c,0<c→c<n→c<q.length→Bu (q.getD c default) (q.getD ((c-1) / 2) default)=false
theorem Lj {x y z:Item} (h1:Bu y x=false) (h2:Bu z y=false):Bu z x=false:=by
 unfold Bu at *
 grind
theorem Agm {q:List Item} {n:Nat} (h:Jp q n) (hn:n≤q.length):∀ c,c<n→Bu (q.getD c default) (q.getD 0 default)=false:=by
 intro c
 induction c using Nat.strongRecOn with
 | ind c ih =>
  intro hc
  rcases Nat.eq_zero_or_pos c with h0 | h0
  ·subst h0;unfold Bu;grind
  ·have h1:=h c h0 hc qn
   have h2:=ih ((c-1) / 2) qn qn
   exact Lj h2 h1
theorem D3 (q:List Item) (i j c:Nat) (hi:i<q.length) (hj:j<q.length):(Dp q i j).getD c default=if c=j then q.getD i default else if c=i then q.getD j default else q.getD c default:=by
 rw[Dp]
 simp only[List.getD_eq_getElem?_getD,List.getElem?_set,List.length_set]
 by_cases h1:c=j
 ·subst h1;simp[hj]
 ·rw[if_neg (Ne.symm h1),if_neg h1]
  by_cases h2:c=i
  ·subst h2;simp[hi]
  ·rw[if_neg (Ne.symm h2),if_neg h2]
theorem Lk {x y:Item} (h:Bu x y=true):Bu y x=false:=by
 unfold Bu at *
 grind
structure UpInv (q:List Item) (j n:Nat):Prop where
 heap:∀ c,0<c→c<n→c≠j→Bu (q.getD c default) (q.getD ((c-1) / 2) default)=false
 over:∀ c,0<c→c<n→(c-1) / 2=j→0<j→Bu (q.getD c default) (q.getD ((j-1) / 2) default)=false
theorem Acb (n:Nat):∀ (f:Nat) (q:List Item) (j:Nat),j≤f→j<n→n≤q.length→UpInv q j n→Jp (upF f q j) n
 | 0,q,j,hf,hj,hn,hI=>by
  have:j=0:=by omega
  subst this
  exact fun c h0 hc _=>hI.heap c h0 hc qn
 | f+1,q,j,hf,hj,hn,hI=>by
  rw[upF]
  split
  ·rename_i h0
   subst h0
   exact fun c h0 hc _=>hI.heap c h0 hc qn
  ·rename_i h0
   split
   ·rename_i hlt
    have hp:(j-1) / 2<j:=by omega
    refine Acb n f _ _ qn qn (by rw[Az];exact hn) ⟨fun c hc0 hcn hcp=>?_,fun c hc0 hcn hpar hp0=>?_⟩
    ·rw[D3 _ _ _ _ qn qn,D3 _ _ _ _ qn qn]
     by_cases hcj:c=j
     ·subst hcj
      rw[if_pos rfl,if_neg qn,if_pos rfl]
      exact Lk hlt
     ·rw[if_neg hcj,if_neg hcp]
      by_cases hpj:(c-1) / 2=j
      ·rw[if_pos hpj]
       exact hI.over c hc0 hcn hpj qn
      ·rw[if_neg hpj]
       by_cases hpp:(c-1) / 2=(j-1) / 2
       ·rw[if_pos hpp]
        have:=hI.heap c hc0 hcn hcj
        rw[hpp]at this
        exact Lj (Lk hlt) this
       ·rw[if_neg hpp]
        exact hI.heap c hc0 hcn hcj
    ·rw[D3 _ _ _ _ qn qn,D3 _ _ _ _ qn qn]
     have hpI:=hI.heap ((j-1) / 2) hp0 qn qn
     rw[if_neg (show ((j-1) / 2-1) / 2≠j by omega),if_neg (show ((j-1) / 2-1) / 2≠(j-1) / 2 by omega)]
     by_cases hcj:c=j
     ·rw[if_pos hcj];exact hpI
     ·rw[if_neg hcj,if_neg qn]
      have:=hI.heap c hc0 hcn hcj
      rw[hpar]at this
      exact Lj hpI this
   ·rename_i hlt
    intro c hc0 hcn _
    by_cases hcj:c=j
    ·subst hcj;simpa using hlt
    ·exact hI.heap c hc0 hcn hcj
theorem Kr {q r:List Item} {c:Nat} (h:c<q.length):(q++r).getD c default=q.getD c default:=by
 simp[List.getD_eq_getElem?_getD,List.getElem?_append_left h]
theorem W9 (q:List Item) (x:Item) (h:Jp q q.length):Jp (O7 q x) (O7 q x).length:=by
 rw[Iy]
 refine Acb (q.length+1) _ _ _ (Nat.le_refl _) qn qy ⟨fun c hc0 hcn hcj=>?_,fun c hc0 hcn hpar hp0=>by omega⟩
 rw[Kr qn,Kr qn]
 exact h c hc0 qn qn
structure DownInv (q:List Item) (i n:Nat):Prop where
 heap:∀ c,0<c→c<n→(c-1) / 2≠i→Bu (q.getD c default) (q.getD ((c-1) / 2) default)=false
 over:∀ c,0<c→c<n→(c-1) / 2=i→0<i→Bu (q.getD c default) (q.getD ((i-1) / 2) default)=false
theorem Akm (q:List Item) (i n c:Nat) (_h:2 * i+1<n) (hc0:0<c) (hc:c<n) (hp:(c-1) / 2=i):Bu (q.getD c default) (q.getD (Dj q i n) default)=false:=by
 have hcc:c=2 * i+1∨c=2 * i+2:=by omega
 unfold Dj
 split
 ·rename_i hh
  rcases hcc with rfl | rfl
  ·exact Lk hh.2
  ·unfold Bu;grind
 ·rename_i hh
  rcases hcc with rfl | rfl
  ·unfold Bu;grind
  ·cases hlt:Bu (q.getD (2 * i+2) default) (q.getD (2 * i+1) default) with
   | false=>rfl
   | true=>exact absurd ⟨hc,hlt⟩ hh
theorem X8 (n:Nat):∀ (f:Nat) (q:List Item) (i:Nat),n≤f+i→i<q.length→n≤q.length→DownInv q i n→Jp (Dl f q i n).1 n
 | 0,q,i,hf,hi,hn,hI=>fun c hc0 hc _=>hI.heap c hc0 hc qn
 | f+1,q,i,hf,hi,hn,hI=>by
  rw[Dl]
  split
  ·rename_i h
   have hcl:=Kx q i n h
   have hpar:(Dj q i n-1) / 2=i:=by unfold Dj;split<;>omega
   have hle:=fun c=>Akm q i n c h
   generalize Dj q i n=k at *
   split
   ·rename_i hlt
    refine X8 n f _ _ qn (by rw[Az];omega) (by rw[Az];exact hn) ⟨fun c hc0 hcn hck=>?_,fun c hc0 hcn hcp hk0=>?_⟩
    ·rw[D3 _ _ _ _ hi qn,D3 _ _ _ _ hi qn,if_neg hck]
     by_cases hc1:c=k
     ·subst hc1
      rw[if_pos rfl,if_pos hpar]
      exact Lk hlt
     ·rw[if_neg hc1]
      by_cases hc2:c=i
      ·subst hc2
       rw[if_pos rfl,if_neg qn]
       exact hI.over k qn hcl.1 hpar hc0
      ·rw[if_neg hc2]
       by_cases hc3:(c-1) / 2=i
       ·rw[if_pos hc3];exact hle c hc0 hcn hc3
       ·rw[if_neg hc3];exact hI.heap c hc0 hcn hc3
    ·rw[D3 _ _ _ _ hi qn,D3 _ _ _ _ hi qn]
     rw[if_neg qn,if_neg qn,hpar,if_neg qn,if_pos rfl]
     have:=hI.heap c hc0 hcn qn
     rwa [hcp]at this
   ·rename_i hlt
    intro c hc0 hcn _
    by_cases hc3:(c-1) / 2=i
    ·rw[hc3]
     exact Lj (by simpa using hlt) (hle c hc0 hcn hc3)
    ·exact hI.heap c hc0 hcn hc3
  ·exact fun c hc0 hc _=>hI.heap c hc0 hc qn
theorem X6 (n:Nat):∀ (f:Nat) (q:List Item) (i c:Nat),i<n→n≤q.length→n≤c→(Dl f q i n).1.getD c default=q.getD c default
 | 0,_,_,_,_,_,_=>rfl
 | f+1,q,i,c,hi,hn,hc=>by
  rw[Dl]
  split
  ·rename_i h
   have hcl:=Kx q i n h
   split
   ·rw[X6 n f _ _ c qn (by rw[Az];exact hn) hc,D3 _ _ _ _ qn qn,if_neg qn,if_neg qn]
   ·rfl
  ·rfl
theorem Ac9 (q:List Item) (hq:q≠[]):(Cs q).getLast (Do hq)=q.getD 0 default:=by
 have h0:0<q.length:=List.length_pos_iff.2 hq
 rw[List.getLast_eq_getElem,← A9 (show (Cs q).length-1<(Cs q).length by rw[Dt];omega),Dt]
 by_cases h1:q.length=1
 ·have:Cs q=q:=by
   obtain ⟨x,rfl⟩:=List.length_eq_one_iff.1 h1
   rfl
  rw[this,h1]
 ·rw[Cs,X6 _ _ _ _ _ qn (by rw[Az];omega) (Nat.le_refl _),D3 _ _ _ _ h0 qn,if_pos rfl]
theorem Ajk (q:List Item) (hq:q≠[]):(Cs q).dropLast++[q.getD 0 default]=Cs q:=by
 rw[← Ac9 q hq];exact List.dropLast_concat_getLast (Do hq)
theorem Al1 (q:List Item) (hq:q≠[]):(q.getD 0 default::(Cs q).dropLast).Perm q :=
 ((List.perm_append_comm (l₁:=[q.getD 0 default]) (l₂:=(Cs q).dropLast)).trans (by rw[Ajk q hq])).trans (Oe q hq)
theorem Al2 (q:List Item) (hq:q≠[]) (h:Jp q q.length):Jp (Cs q).dropLast (Cs q).dropLast.length:=by
 have h0:0<q.length:=List.length_pos_iff.2 hq
 have hd:(Cs q).dropLast.length=q.length-1:=by rw[List.length_dropLast,Dt]
 have hh:Jp (Cs q) (q.length-1):=by
  rw[Cs]
  refine X8 (q.length-1) _ _ _ qn (by rw[Az];exact h0) (by rw[Az];omega) ⟨fun c hc0 hcn hp=>?_,fun c hc0 hcn hp h=>by omega⟩
  rw[D3 _ _ _ _ h0 qn,D3 _ _ _ _ h0 qn,if_neg qn,if_neg qn,if_neg qn,if_neg hp]
  exact h c hc0 qn qn
 intro c hc0 hcn _
 rw[hd]at hcn
 have hl:=Dt q
 have e:∀ k,k<q.length-1→(Cs q).dropLast.getD k default=(Cs q).getD k default:=fun k hk=>by
  rw[A9 (show k<(Cs q).dropLast.length by omega),A9 (show k<(Cs q).length by omega),List.getElem_dropLast]
 rw[e c hcn,e _ qn]
 exact hh c hc0 hcn qn
theorem Ajl (q:List Item) (h:Jp q q.length):∀ x∈q,Bu x (q.getD 0 default)=false:=fun x hx=>by
 obtain ⟨c,hc,rfl⟩:=List.getElem_of_mem hx
 have:=Agm h (Nat.le_refl _) c hc
 rwa [A9 hc]at this
def Dv (ranks:List Int) (j:Nat):List Item:=(List.range j).foldl (fun q (i:Nat)=>O7 q ⟨ranks.getD i 0,0,i⟩) []
theorem If (ranks:List Int) (j:Nat):Dv ranks (j+1)=O7 (Dv ranks j) ⟨ranks.getD j 0,0,j⟩:=by
 rw[Dv,List.range_succ,List.foldl_append];rfl
theorem Jy (ranks:List Int):∀ j,(Dv ranks j).length=j
 | 0=>rfl
 | j+1=>by rw[If,Iy,Jy ranks j]
def Sz (roots:List Int):Nat:=roots.countP (fun r=>decide (r<0))
def reachM (s:List Item × List Int × List Int):Nat:=41 * Sz s.2.1+s.1.length
structure ReachInv (n:Net) (s:List Item × List Int × List Int):Prop where
 rootsL:s.2.1.length=n.devices.length
 costsL:s.2.2.length=n.devices.length
 items:∀ x∈s.1,0≤x.dev∧x.dev<n.devices.length∧0≤x.root∧0≤x.cost∧x.cost+65535 * Sz s.2.1≤65535 * n.devices.length
 few:s.1.length+40 * Sz s.2.1≤1000
theorem Amg (roots:List Int):Sz roots≤roots.length:=List.countP_le_length
theorem Ajt {roots:List Int} {i:Nat} {v:Int} (h:i<roots.length) (h0:roots[i]<0) (hv:0≤v):Sz (roots.set i v)+1=Sz roots:=by
 have h1:0<roots.countP (fun r=>decide (r<0)):=List.countP_pos_iff.2 ⟨roots[i],List.getElem_mem h,by simpa using h0⟩
 have hv':¬ v<0:=by omega
 rw[Sz,Sz,List.countP_set h]
 simp only[h0,hv',decide_true,decide_false,if_true,Bool.false_eq_true,if_false]
 omega
theorem Aau (n:Net) (up:List Bool) (x:Item) (hr:Ae n=true) (hcost:Db n=true) {m:Nat} (hx:0≤x.root∧0≤x.cost∧x.cost+65535 * (m+1)≤65535 * n.devices.length) (q:List Item)
  (hq:∀ y∈q,0≤y.dev∧y.dev<n.devices.length∧0≤y.root∧0≤y.cost∧y.cost+65535 * m≤65535 * n.devices.length) (i:Nat) (hi:i<n.ports.length) :
  (∀ y∈C3 n up x q i,0≤y.dev∧y.dev<n.devices.length∧0≤y.root∧0≤y.cost∧y.cost+65535 * m≤65535 * n.devices.length)∧(C3 n up x q i).length≤q.length+1:=by
 rw[C3]
 split
 ·rename_i h
  have hlt:=X1 hr hi h.2
  have hk:(Da n up i).toNat<n.ports.length:=by omega
  have hd:=Me hr hk
  have hpc:1≤n.ports[(Da n up i).toNat].cost∧n.ports[(Da n up i).toNat].cost≤65535:=by
   simp only[Db,Bool.not_eq_true',List.any_eq_false]at hcost
   have:=hcost _ (List.getElem_mem hk)
   simp only[Jv,Bool.or_eq_true,decide_eq_true_eq,not_or]at this
   omega
  have e:nth n.ports (Da n up i)=n.ports[(Da n up i).toNat]:=Ah (l:=n.ports) (i:=Da n up i) qn
  rw[e]
  refine⟨fun y hy=>?_,by rw[Iy];omega⟩
  rcases List.mem_cons.1 ((Ld q _).mem_iff.1 hy) with rfl | hy
  ·simp only
   omega
  ·exact hq y hy
 ·exact⟨hq,by omega⟩
theorem W6 (n:Net) (up:List Bool) (x:Item) (hr:Ae n=true) (hcost:Db n=true) {m:Nat} (hx:0≤x.root∧0≤x.cost∧x.cost+65535 * (m+1)≤65535 * n.devices.length) (q:List Item)
  (hq:∀ y∈q,0≤y.dev∧y.dev<n.devices.length∧0≤y.root∧0≤y.cost∧y.cost+65535 * m≤65535 * n.devices.length):∀ i,i≤n.ports.length →
  (∀ y∈(List.range i).foldl (C3 n up x) q,0≤y.dev∧y.dev<n.devices.length∧0≤y.root∧0≤y.cost∧y.cost+65535 * m≤65535 * n.devices.length)∧((List.range i).foldl (C3 n up x) q).length≤q.length+i
 | 0,_=>⟨hq,by simp⟩
 | i+1,hi=>by
  obtain ⟨h1,h2⟩:=W6 n up x hr hcost hx q hq i qn
  rw[List.range_succ,List.foldl_append]
  obtain ⟨h3,h4⟩:=Aau n up x hr hcost hx _ h1 i qn
  exact⟨h3,by simp only[List.foldl_cons,List.foldl_nil];omega⟩
theorem Xk {q:List Item} (hq:q≠[]):(Cs q).getLast?.getD default=(Cs q).getLast (Do hq):=by
 rw[List.getLast?_eq_some_getLast (Do hq)];rfl
theorem Ja (n:Net) (up:List Bool) (hr:Ae n=true) (hcost:Db n=true) (s:List Item × List Int × List Int) (hI:ReachInv n s) (hne:s.1≠[]):ReachInv n (Lb n up s)∧reachM (Lb n up s)<reachM s:=by
 have hf:=D8 hr
 have hx:=hI.items _ ((Oe s.1 hne).mem_iff.1 (List.getLast_mem (Do hne)))
 have hd:∀ y∈(Cs s.1).dropLast,y∈s.1:=fun y hy=>(Oe s.1 hne).mem_iff.1 ((List.dropLast_sublist _).subset hy)
 have h0:0<s.1.length:=List.length_pos_iff.2 hne
 have hdl:(Cs s.1).dropLast.length+1=s.1.length:=by rw[List.length_dropLast,Dt];omega
 have hfew:=hI.few
 rw[Lb,Xk hne]
 generalize (Cs s.1).getLast (Do hne)=x at *
 split
 ·exact⟨⟨hI.rootsL,hI.costsL,fun y hy=>hI.items y (hd y hy),by simp only;omega⟩,by unfold reachM;simp only;omega⟩
 ·rename_i hneg
  have hk:x.dev.toNat<s.2.1.length:=by rw[hI.rootsL];omega
  rw[Ah (l:=s.2.1) (i:=x.dev) (by rw[hI.rootsL];omega)]at hneg
  have hm:=Ajt hk qn hx.2.2.1
  obtain ⟨h1,h2⟩:=W6 n up x hr hcost (m:=Sz (s.2.1.set x.dev.toNat x.root)) ⟨hx.2.2.1,hx.2.2.2.1,by have:=hx.2.2.2.2;omega⟩ (Cs s.1).dropLast (fun y hy=>by have:=hI.items y (hd y hy);omega) n.ports.length (Nat.le_refl _)
  exact⟨⟨by simp only[List.length_set];exact hI.rootsL,by simp only[List.length_set];exact hI.costsL,h1,by simp only;omega⟩,by unfold reachM;simp only;omega⟩
theorem U3 (n:Net) (up:List Bool) (hr:Ae n=true) (hcost:Db n=true):∀ (f g:Nat) (s:List Item × List Int × List Int),ReachInv n s→reachM s≤f→reachM s≤g→Eu n up f s=Eu n up g s
 | 0,0,_,_,_,_=>rfl
 | 0,g+1,s,_,h,_=>by
  have:s.1=[]:=List.eq_nil_of_length_eq_zero (by unfold reachM at h;omega)
  rw[Eu,Eu,if_pos this]
 | f+1,0,s,_,_,h=>by
  have:s.1=[]:=List.eq_nil_of_length_eq_zero (by unfold reachM at h;omega)
  rw[Eu,Eu,if_pos this]
 | f+1,g+1,s,hI,h1,h2=>by
  rw[Eu,Eu]
  split
  ·rfl
  ·rename_i hne
   obtain ⟨h3,h4⟩:=Ja n up hr hcost s hI hne
   exact U3 n up hr hcost f g _ h3 qn qn
def Io (n:Net) (up:List Bool) (s:List Item × List Int × List Int):List Item × List Int × List Int:=Eu n up (reachM s) s
theorem Aft (n:Net) (up:List Bool) (s:List Item × List Int × List Int) (h:s.1=[]):Io n up s=s:=by
 rw[Io]
 cases reachM s with
 | zero=>rfl
 | succ m=>rw[Eu,if_pos h]
theorem Ac6 (n:Net) (up:List Bool) (hr:Ae n=true) (hcost:Db n=true) (s:List Item × List Int × List Int) (hI:ReachInv n s) (hne:s.1≠[]):Io n up s=Io n up (Lb n up s):=by
 obtain ⟨h3,h4⟩:=Ja n up hr hcost s hI hne
 rw[Io,Io]
 obtain ⟨m,hm⟩:∃ m,reachM s=m+1:=⟨reachM s-1,by omega⟩
 rw[hm,Eu,if_neg hne]
 exact U3 n up hr hcost _ _ _ h3 qn (Nat.le_refl _)
theorem Uy (ranks:List Int) (m:Nat) (hrr:∀ r∈ranks,0≤r):∀ j,j≤ranks.length→∀ y∈Dv ranks j,0≤y.dev∧y.dev<m+ranks.length∧0≤y.root∧y.cost=0
 | 0,_,y,hy=>by simp[Dv]at hy
 | j+1,hj,y,hy=>by
  rw[If]at hy
  rcases List.mem_cons.1 ((Ld _ _).mem_iff.1 hy) with rfl | hy
  ·have h1:=hrr (ranks[j]'qn) (List.getElem_mem _)
   have h2:(0:Int)≤(j:Int)∧(j:Int)<m+ranks.length:=by omega
   exact⟨h2.1,h2.2,by rw[A9 (show j<ranks.length by omega)];exact h1,E⟩
  ·exact Uy ranks m hrr j qn y hy
theorem Zf (n:Net) (ranks roots costs:List Int) (hr:Ae n=true) (hrk:ranks.length=n.devices.length) (hro:roots.length=n.devices.length) (hc:costs.length=n.devices.length) (hrr:∀ r∈ranks,0≤r):ReachInv n (Dv ranks ranks.length,roots,costs):=by
 have hf:=D8 hr
 have hm:=Amg roots
 refine⟨hro,hc,fun y hy=>?_,by simp only[Jy];omega⟩
 have:=Uy ranks 0 hrr _ (Nat.le_refl _) y hy
 simp only
 omega
def Le2 (r c r' c':Int):Prop:=r<r'∨(r=r'∧c≤c')
theorem Aj2 {x y:Item} (h:Bu y x=false):Le2 x.root x.cost y.root y.cost:=by
 simp only[Bu,Bool.or_eq_false_iff,decide_eq_false_iff_not,Bool.and_eq_false_iff,beq_eq_false_iff_ne]at h
 unfold Le2
 omega
theorem Aj1 {a b c d e f:Int} (h1:Le2 a b c d) (h2:Le2 c d e f):Le2 a b e f:=by
 unfold Le2 at *
 omega
theorem Adz {a b c d m:Int} (h1:Le2 a b c d) (hm:0≤m):Le2 a b c (d+m):=by
 unfold Le2 at *
 omega
def Y8 (n:Net) (up:List Bool) (i j:Nat):Prop:=i<n.ports.length∧Da n up i=j
theorem Mq {n:Net} {up:List Bool} (hr:Ae n=true) {i j:Nat} (h:Y8 n up i j):j<n.ports.length:=by
 have:=X1 (up:=up) hr h.1 (by rw[h.2];omega)
 rw[h.2]at this
 omega
theorem Zv {n:Net} {up:List Bool} (hr:Ae n=true) {i j:Nat} (h:Y8 n up i j) :
  ∃ k:Nat,k<n.links.length∧(nth n.ports i).link=k∧(nth n.ports j).link=k∧up.getD k false=true∧(((nth n.links k).a=i∧(nth n.links k).b=j)∨((nth n.links k).a=j∧(nth n.links k).b=i))∧Ei n i≠Ei n j:=by
 have hj:=Mq hr h
 obtain ⟨hi,hf⟩:=h
 have hp:=K9 hr hi
 have hpl:=Od hr hi
 simp only[Eh,Bool.and_eq_true,Bool.or_eq_true,beq_iff_eq]at hp
 have hp:=hp.2
 have e:nth n.ports i=n.ports[i]:=Ah (l:=n.ports) (i:=(i:Int)) (by simpa using hi)
 unfold Da at hf
 rw[A9 hi]at hf
 simp only at hf
 split at hf
 ·omega
 ·rename_i hc
  simp only[Bool.or_eq_true,decide_eq_true_eq,not_or,Bool.not_eq_true',Bool.not_eq_false]at hc
  rcases hp with hp | hp
  ·omega
  ·have hl:n.ports[i].link.toNat<n.links.length:=by omega
   have hlk:=W0 hr hl
   have he:=Ko hr hl
   have ek:((n.ports[i].link.toNat:Nat):Int)=n.ports[i].link:=by omega
   refine⟨n.ports[i].link.toNat,hl,by rw[e];omega,?_⟩
   simp only[Jh,Bool.and_eq_true,beq_iff_eq,bne_iff_ne]at hlk
   obtain ⟨⟨⟨_,hne⟩,h1⟩,h2⟩:=hlk
   rw[ek]
   rw[Ah (l:=n.links) (i:=n.ports[i].link) qn]at hf hp ⊢
   generalize n.links[n.ports[i].link.toNat]=l at *
   rcases hp.2 with ha | hb
   ·have hb:l.b=j:=by omega
    rw[ha,hb]at hne
    rw[hb]at h2
    exact⟨by omega,by simpa using hc.2,.inl ⟨ha,hb⟩,hne⟩
   ·have ha:l.a=j:=by omega
    rw[ha,hb]at hne
    rw[ha]at h1
    exact⟨by omega,by simpa using hc.2,.inr ⟨ha,hb⟩,fun h=>hne h.symm⟩
theorem Ad4 {n:Net} {up:List Bool} (hr:Ae n=true) {i j:Nat} (h:Y8 n up i j):Y8 n up j i:=by
 have hj:=Mq hr h
 obtain ⟨k,hk,_,h2,h3,h4,_⟩:=Zv hr h
 refine⟨hj,?_⟩
 unfold Da
 have e:n.ports.getD j default=nth n.ports j:=rfl
 rw[e]
 simp only[h2,Int.toNat_natCast,h3]
 rw[if_neg qy]
 omega
theorem Of {n:Net} (hr:Ae n=true) {i:Nat} (hi:i<n.ports.length):0≤Ei n i∧Ei n i<n.devices.length:=by
 rw[Ei,Ah (l:=n.ports) (i:=(i:Int)) (by simpa using hi)]
 exact Me hr hi
def Der (n:Net) (up:List Bool) (K R C:Int→Int) (r c d:Int):Prop :=
 (r=K d∧c=0)∨∃ i j:Nat,Y8 n up i j∧Ei n i=d∧0≤R (Ei n j)∧r=R (Ei n j)∧c=C (Ei n j)+Sr n i
structure Dij (n:Net) (up:List Bool) (K:Int→Int) (q:List Item) (R C:Int→Int):Prop where
 heap:Jp q q.length
 items:∀ x∈q,Der n up K R C x.root x.cost x.dev
 done:∀ d:Int,0≤d→d<n.devices.length→0≤R d→Der n up K R C (R d) (C d) d
 own:∀ d:Int,0≤d→d<n.devices.length→R d<0→⟨K d,0,d⟩∈q
 push:∀ i j:Nat,Y8 n up i j→R (Ei n i)<0→0≤R (Ei n j)→⟨R (Ei n j),C (Ei n j)+Sr n i,Ei n i⟩∈q
 low:∀ d:Int,0≤d→d<n.devices.length→0≤R d→∀ x∈q,Le2 (R d) (C d) x.root x.cost
 self:∀ d:Int,0≤d→d<n.devices.length→0≤R d→Le2 (R d) (C d) (K d) 0
 tri:∀ i j:Nat,Y8 n up i j→0≤R (Ei n i)→0≤R (Ei n j)→Le2 (R (Ei n i)) (C (Ei n i)) (R (Ei n j)) (C (Ei n j)+Sr n i)
theorem W4 (n:Net) (up:List Bool) (x:Item) (q:List Item) (y:Item):∀ m,y∈(List.range m).foldl (C3 n up x) q↔y∈q∨∃ i,i<m∧Ei n i=x.dev∧0≤Da n up i∧y=⟨x.root,x.cost+(nth n.ports (Da n up i)).cost,(nth n.ports (Da n up i)).dev⟩
 | 0=>by simp
 | m+1=>by
  rw[List.range_succ,List.foldl_append]
  simp only[List.foldl_cons,List.foldl_nil]
  rw[C3]
  have ih:=W4 n up x q y m
  have e:(n.ports.getD m default).dev=Ei n m:=rfl
  rw[e]
  split
  ·rename_i h
   rw[(Ld _ _).mem_iff,List.mem_cons,ih]
   constructor
   ·rintro (h1 | h1 | ⟨i,h1,h2⟩)
    ·exact .inr ⟨m,by omega,h.1,h.2,h1⟩
    ·exact .inl h1
    ·exact .inr ⟨i,by omega,h2⟩
   ·rintro (h1 | ⟨i,h1,h2,h3,h4⟩)
    ·exact .inr (.inl h1)
    ·by_cases hm:i=m
     ·subst hm;exact .inl h4
     ·exact .inr (.inr ⟨i,by omega,h2,h3,h4⟩)
  ·rename_i h
   rw[ih]
   constructor
   ·rintro (h1 | ⟨i,h1,h2⟩)
    ·exact .inl h1
    ·exact .inr ⟨i,by omega,h2⟩
   ·rintro (h1 | ⟨i,h1,h2,h3,h4⟩)
    ·exact .inl h1
    ·by_cases hm:i=m
     ·subst hm;exact absurd ⟨h2,h3⟩ h
     ·exact .inr ⟨i,by omega,h2,h3,h4⟩
theorem U2 (n:Net) (up:List Bool) (x:Item) (q:List Item) (h:Jp q q.length):∀ m,Jp ((List.range m).foldl (C3 n up x) q) ((List.range m).foldl (C3 n up x) q).length
 | 0=>h
 | m+1=>by
  rw[List.range_succ,List.foldl_append]
  simp only[List.foldl_cons,List.foldl_nil]
  have ih:=U2 n up x q h m
  rw[C3]
  split
  ·exact W9 _ _ ih
  ·exact ih
theorem X9 {n:Net} {up:List Bool} {K R C R' C':Int→Int} {r c d:Int} (h:Der n up K R C r c d) (hs:∀ e,0≤R e→R' e=R e∧C' e=C e):Der n up K R' C' r c d:=by
 rcases h with h | ⟨i,j,h1,h2,h3,h4,h5⟩
 ·exact .inl h
 ·obtain ⟨e1,e2⟩:=hs _ h3
  exact .inr ⟨i,j,h1,h2,by rw[e1];exact h3,by rw[e1];exact h4,by rw[e2];exact h5⟩
theorem Anf {n:Net} {up:List Bool} {K R C:Int→Int} {q q':List Item} {x:Item} (h:Dij n up K q R C) (hp:(x::q').Perm q) (hh:Jp q' q'.length) (hx:0≤R x.dev):Dij n up K q' R C:=by
 have hm:∀ y,y∈q↔y=x∨y∈q':=fun y=>by rw[← hp.mem_iff,List.mem_cons]
 refine⟨hh,fun y hy=>h.items y ((hm y).2 (.inr hy)),h.done,fun d h0 h1 h2=>?_,fun i j hij h1 h2=>?_,fun d h0 h1 h2 y hy=>h.low d h0 h1 h2 y ((hm y).2 (.inr hy)),h.self,h.tri⟩
 ·rcases (hm _).1 (h.own d h0 h1 h2) with e | e
  ·rw[← e]at hx;simp only at hx;omega
  ·exact e
 ·rcases (hm _).1 (h.push i j hij h1 h2) with e | e
  ·rw[← e]at hx;simp only at hx;omega
  ·exact e
theorem Ane {n:Net} {up:List Bool} {K R C R' C':Int→Int} {q q':List Item} {x:Item} (hr:Ae n=true) (hcost:Db n=true) (h:Dij n up K q R C) (hp:(x::q').Perm q) (hh:Jp q' q'.length)
  (hmin:∀ y∈q,Bu y x=false) (hx:R x.dev<0) (hx0:0≤x.root) (_hxd:0≤x.dev∧x.dev<n.devices.length)
  (hR:∀ e,R' e=if e=x.dev then x.root else R e) (hC:∀ e,C' e=if e=x.dev then x.cost else C e) :
  Dij n up K ((List.range n.ports.length).foldl (C3 n up x) q') R' C':=by
 have hm:∀ y,y∈q↔y=x∨y∈q':=fun y=>by rw[← hp.mem_iff,List.mem_cons]
 have hn:=fun y=>W4 n up x q' y n.ports.length
 have hs:∀ e,0≤R e→R' e=R e∧C' e=C e:=fun e he=>by
  have:e≠x.dev:=fun h=>by rw[h]at he;omega
  rw[hR,hC,if_neg this,if_neg this]
  exact⟨E,E⟩
 have hRd:R' x.dev=x.root:=by rw[hR,if_pos rfl]
 have hCd:C' x.dev=x.cost:=by rw[hC,if_pos rfl]
 have hxq:x∈q:=(hm x).2 (.inl rfl)
 have hle:∀ y∈q,Le2 x.root x.cost y.root y.cost:=fun y hy=>Aj2 (hmin y hy)
 have hnew:∀ y,y∈(List.range n.ports.length).foldl (C3 n up x) q'↔y∈q'∨∃ i j:Nat,Y8 n up i j∧Ei n i=x.dev∧y=⟨x.root,x.cost+Sr n j,Ei n j⟩:=fun y=>by
  rw[hn y]
  constructor
  ·rintro (h1 | ⟨i,h1,h2,h3,h4⟩)
   ·exact .inl h1
   ·obtain ⟨j,hj⟩:∃ j:Nat,Da n up i=j:=⟨(Da n up i).toNat,by omega⟩
    rw[hj]at h4
    exact .inr ⟨i,j,⟨h1,hj⟩,h2,h4⟩
  ·rintro (h1 | ⟨i,j,h1,h2,h3⟩)
   ·exact .inl h1
   ·refine .inr ⟨i,h1.1,h2,by rw[h1.2];omega,?_⟩
    rw[h1.2]
    exact h3
 refine⟨U2 n up x q' hh _,fun y hy=>?_,fun d h0 h1 h2=>?_,fun d h0 h1 h2=>?_,fun i j hij h1 h2=>?_,fun d h0 h1 h2 y hy=>?_,fun d h0 h1 h2=>?_,fun i j hij h1 h2=>?_⟩
 ·rcases (hnew y).1 hy with hy | ⟨i,j,h1,h2,rfl⟩
  ·exact X9 (h.items y ((hm y).2 (.inr hy))) hs
  ·exact .inr ⟨j,i,Ad4 hr h1,E,by rw[h2,hRd];exact hx0,by rw[h2,hRd],by rw[h2,hCd]⟩
 ·by_cases hd:d=x.dev
  ·subst hd
   rw[hRd,hCd]
   exact X9 (h.items x hxq) hs
  ·rw[hR,if_neg hd]at h2
   obtain ⟨e1,e2⟩:=hs d h2
   rw[e1,e2]
   exact X9 (h.done d h0 h1 h2) hs
 ·have hd:d≠x.dev:=fun e=>by rw[e,hRd]at h2;omega
  rw[hR,if_neg hd]at h2
  refine(hnew _).2 (.inl ?_)
  rcases (hm _).1 (h.own d h0 h1 h2) with e | e
  ·exact absurd (congrArg Item.dev e) hd
  ·exact e
 ·have hd:Ei n i≠x.dev:=fun e=>by rw[e,hRd]at h1;omega
  rw[hR,if_neg hd]at h1
  by_cases hj:Ei n j=x.dev
  ·rw[hj,hRd,hCd]
   exact(hnew _).2 (.inr ⟨j,i,Ad4 hr hij,hj,E⟩)
  ·rw[hR,if_neg hj]at h2
   obtain ⟨e1,e2⟩:=hs _ h2
   rw[e1,e2]
   refine(hnew _).2 (.inl ?_)
   rcases (hm _).1 (h.push i j hij h1 h2) with e | e
   ·exact absurd (congrArg Item.dev e) hd
   ·exact e
 ·have hdx:Le2 (R' d) (C' d) x.root x.cost:=by
   by_cases hd:d=x.dev
   ·subst hd;rw[hRd,hCd];exact .inr ⟨rfl,Int.le_refl _⟩
   ·rw[hR,if_neg hd]at h2
    obtain ⟨e1,e2⟩:=hs d h2
    rw[e1,e2]
    exact h.low d h0 h1 h2 x hxq
  rcases (hnew y).1 hy with hy | ⟨i,j,h3,_,rfl⟩
  ·exact Aj1 hdx (hle y ((hm y).2 (.inr hy)))
  ·exact Adz hdx (by have:=Adf hcost (Mq hr h3);omega)
 ·by_cases hd:d=x.dev
  ·subst hd
   rw[hRd,hCd]
   exact hle _ (h.own _ h0 h1 hx)
  ·rw[hR,if_neg hd]at h2
   obtain ⟨e1,e2⟩:=hs d h2
   rw[e1,e2]
   exact h.self d h0 h1 h2
 ·have hj:=Mq hr hij
  have hpc:=Adf hcost hij.1
  have hne:=(Zv hr hij).choose_spec.2.2.2.2.2
  by_cases hd:Ei n i=x.dev
  ·rw[hd,hRd,hCd]
   have hjd:Ei n j≠x.dev:=fun e=>hne (by rw[hd,e])
   rw[hR,if_neg hjd]at h2
   obtain ⟨e1,e2⟩:=hs _ h2
   rw[e1,e2]
   exact hle _ (h.push i j hij (by rw[hd];exact hx) h2)
  ·rw[hR,if_neg hd]at h1
   obtain ⟨e1,e2⟩:=hs _ h1
   rw[e1,e2]
   by_cases hjd:Ei n j=x.dev
   ·rw[hjd,hRd,hCd]
    have hdl:=Of hr hij.1
    exact Adz (h.low _ hdl.1 hdl.2 h1 x hxq) qn
   ·rw[hR,if_neg hjd]at h2
    obtain ⟨e3,e4⟩:=hs _ h2
    rw[e3,e4]
    exact h.tri i j hij h1 h2
def atI (l:List Int) (e:Int):Int:=if e<0 then -1 else nth l e
theorem Jo {l:List Int} {e:Int} (h:0≤e):atI l e=nth l e:=by rw[atI,if_neg qn]
theorem Aid {l:List Int} {d v:Int} (h0:0≤d) (h1:d<l.length) (e:Int):atI (l.set d.toNat v) e=if e=d then v else atI l e:=by
 by_cases he:e<0
 ·rw[atI,if_pos he,if_neg qn,atI,if_pos he]
 ·rw[atI,if_neg he,atI,if_neg he,nth,nth,List.getElem?_set]
  by_cases hd:e=d
  ·subst hd
   rw[if_pos rfl,if_pos rfl,if_pos qn]
   rfl
  ·rw[if_neg qn,if_neg hd]
structure DijS (n:Net) (up:List Bool) (ranks:List Int) (s:List Item × List Int × List Int):Prop where
 inv:ReachInv n s
 dij:Dij n up (atI ranks) s.1 (atI s.2.1) (atI s.2.2)
 bound:∀ c∈s.2.2,0≤c∧c≤1000000
theorem Afu (n:Net) (up:List Bool) (ranks:List Int) (hr:Ae n=true) (hcost:Db n=true) (s:List Item × List Int × List Int) (hI:DijS n up ranks s) (hne:s.1≠[]):DijS n up ranks (Lb n up s):=by
 have hf:=D8 hr
 have h1:=(Ja n up hr hcost s hI.inv hne).1
 have hrest:=Al1 s.1 hne
 have hheap:=Al2 s.1 hne hI.dij.heap
 have hleast:=Ajl s.1 hI.dij.heap
 have hx:=hI.inv.items _ (hrest.mem_iff.1 (List.mem_cons_self ..))
 have hrl:=hI.inv.rootsL
 have hcl:=hI.inv.costsL
 have hd:=hI.dij
 have hb:=hI.bound
 rw[Lb,Xk hne,Ac9 s.1 hne]at *
 generalize s.1.getD 0 default=x at *
 try simp only at *
 have ea:nth s.2.1 x.dev=atI s.2.1 x.dev:=(Jo hx.1).symm
 rw[ea];rw[ea]at h1
 split
 ·rename_i hc
  rw[if_pos hc]at h1
  exact⟨h1,Anf hd hrest hheap hc,hb⟩
 ·rename_i hc
  rw[if_neg hc]at h1
  refine⟨h1,Ane hr hcost hd hrest hheap hleast qn hx.2.2.1 ⟨hx.1,hx.2.1⟩ (Aid hx.1 qn) (Aid hx.1 qn),fun c hc=>?_⟩
  rcases List.mem_or_eq_of_mem_set hc with h | h
  ·exact hb c h
  ·omega
theorem W7 (n:Net) (up:List Bool) (ranks:List Int) (hr:Ae n=true) (hcost:Db n=true):∀ (f:Nat) (s:List Item × List Int × List Int),DijS n up ranks s→reachM s≤f→DijS n up ranks (Eu n up f s)∧(Eu n up f s).1=[]
 | 0,s,h,hf=>⟨h,List.eq_nil_of_length_eq_zero (by unfold reachM at hf;rw[Eu];omega)⟩
 | f+1,s,h,hf=>by
  rw[Eu]
  split
  ·rename_i he;exact⟨h,he⟩
  ·rename_i hne
   exact W7 n up ranks hr hcost f _ (Afu n up ranks hr hcost s h hne) (by have:=(Ja n up hr hcost s h.inv hne).2;omega)
structure Solved (n:Net) (up:List Bool) (ranks roots costs:List Int):Prop where
 rootsL:roots.length=n.devices.length
 costsL:costs.length=n.devices.length
 bound:∀ c∈costs,0≤c∧c≤1000000
 root:∀ d:Int,0≤d→d<n.devices.length→0≤nth roots d
 self:∀ d:Int,0≤d→d<n.devices.length→Le2 (nth roots d) (nth costs d) (nth ranks d) 0
 tri:∀ i j:Nat,Y8 n up i j→Le2 (nth roots (Ei n i)) (nth costs (Ei n i)) (nth roots (Ei n j)) (nth costs (Ei n j)+Sr n i)
 der:∀ d:Int,0≤d→d<n.devices.length→(nth roots d=nth ranks d∧nth costs d=0)∨∃ i j:Nat,Y8 n up i j∧Ei n i=d∧nth roots d=nth roots (Ei n j)∧nth costs d=nth costs (Ei n j)+Sr n i
theorem Aiv (n:Net) (up:List Bool) (ranks:List Int) (hr:Ae n=true) (s:List Item × List Int × List Int) (h:DijS n up ranks s) (he:s.1=[]):Solved n up ranks s.2.1 s.2.2:=by
 have hd:=h.dij
 rw[he]at hd
 have h0:∀ d:Int,0≤d→d<n.devices.length→0≤atI s.2.1 d:=fun d h1 h2=>by
  by_cases hc:0≤atI s.2.1 d
  ·exact hc
  ·have:=hd.own d h1 h2 qn
   simp at this
 refine⟨h.inv.rootsL,h.inv.costsL,h.bound,fun d h1 h2=>?_,fun d h1 h2=>?_,fun i j hij=>?_,fun d h1 h2=>?_⟩
 ·have:=h0 d h1 h2
  rwa [Jo h1]at this
 ·have:=hd.self d h1 h2 (h0 d h1 h2)
  simpa only [Jo h1] using this
 ·have hi:=Of hr hij.1
  have hj:=Of hr (Mq hr hij)
  have:=hd.tri i j hij (h0 _ hi.1 hi.2) (h0 _ hj.1 hj.2)
  simpa only [Jo hi.1,Jo hj.1] using this
 ·rcases hd.done d h1 h2 (h0 d h1 h2) with h3 | ⟨i,j,h3,h4,_,h5,h6⟩
  ·simp only[Jo h1]at h3
   exact .inl h3
  ·have hj:=Of hr (Mq hr h3)
   simp only[Jo h1,Jo hj.1]at h5 h6
   exact .inr ⟨i,j,h3,h4,h5,h6⟩
theorem Ub (ranks:List Int) (y:Item):∀ j,y∈Dv ranks j↔∃ i,i<j∧y=⟨ranks.getD i 0,0,i⟩
 | 0=>by simp[Dv]
 | j+1=>by
  rw[If,(Ld _ _).mem_iff,List.mem_cons,Ub ranks y j]
  constructor
  ·rintro (h | ⟨i,h1,h2⟩)
   ·exact⟨j,by omega,h⟩
   ·exact⟨i,by omega,h2⟩
  ·rintro ⟨i,h1,h2⟩
   by_cases h:i=j
   ·subst h;exact .inl h2
   ·exact .inr ⟨i,by omega,h2⟩
theorem Wp (ranks:List Int):∀ j,Jp (Dv ranks j) (Dv ranks j).length
 | 0=>fun c _ h2 _=>by simp[Dv]at h2
 | j+1=>by
  rw[If]
  exact W9 _ _ (Wp ranks j)
theorem Yu {v:Int} {m:Nat} {d:Int} (h1:d<m) (h0:0≤d):nth (List.replicate m v) d=v:=by
 rw[Ah (by simp;omega)];simp
theorem Ait (n:Net) (up:List Bool) (ranks:List Int) (hr:Ae n=true) (hrk:ranks.length=n.devices.length) (hrr:∀ r∈ranks,0≤r) :
  DijS n up ranks (Dv ranks ranks.length,List.replicate n.devices.length (-1),List.replicate n.devices.length 0):=by
 have hneg:∀ d:Int,0≤d→d<n.devices.length→atI (List.replicate n.devices.length (-1)) d=-1:=fun d h0 h1=>by rw[Jo h0,Yu h1 h0]
 refine⟨Zf n ranks _ _ hr hrk qy qy hrr,⟨Wp ranks _,fun x hx=>?_,fun d h0 h1 h2=>?_,fun d h0 h1 h2=>?_,fun i j hij h1 h2=>?_,fun d h0 h1 h2=>?_,fun d h0 h1 h2=>?_,fun i j hij h1 h2=>?_⟩,fun c hc=>?_⟩
 ·obtain ⟨i,h1,rfl⟩:=(Ub ranks x _).1 hx
  refine .inl ⟨?_,E⟩
  simp only
  rw[Jo qn,Ah (by simpa using h1),A9 h1]
  rfl
 ·rw[hneg d h0 h1]at h2;omega
 ·refine(Ub ranks _ _).2 ⟨d.toNat,by omega,?_⟩
  rw[Jo h0,Ah qn,A9 qn,Int.toNat_of_nonneg h0]
 ·have hj:=Of hr (Mq hr hij)
  rw[hneg _ hj.1 hj.2]at h2;omega
 ·rw[hneg d h0 h1]at h2;omega
 ·rw[hneg d h0 h1]at h2;omega
 ·have hj:=Of hr (Mq hr hij)
  rw[hneg _ hj.1 hj.2]at h2;omega
 ·have:=List.eq_of_mem_replicate hc
  omega
def Md (n:Net) (up:List Bool) (ranks:List Int):List Item × List Int × List Int:=Io n up (Dv ranks ranks.length,List.replicate n.devices.length (-1),List.replicate n.devices.length 0)
theorem Yq (n:Net) (up:List Bool) (ranks:List Int) (hr:Ae n=true) (hcost:Db n=true) (hrk:ranks.length=n.devices.length) (hrr:∀ r∈ranks,0≤r):Solved n up ranks (Md n up ranks).2.1 (Md n up ranks).2.2:=by
 obtain ⟨h1,h2⟩:=W7 n up ranks hr hcost _ _ (Ait n up ranks hr hrk hrr) (Nat.le_refl _)
 exact Aiv n up ranks hr _ h1 h2
end Go.Sy.YteinjapglfkamaaGreat
namespace Go.Sy.YteinjapglfkamaaGreat
section
variable {n:Net} {up:List Bool} {ranks roots costs:List Int}
def rolesL (n:Net) (up:List Bool) (ranks roots costs:List Int):List Int:=J0 n up ranks roots costs n.devices.length
def Am6 (roles:List Int) (l:Link):Bool:=inB [nth roles l.a,nth roles l.b] 1 && inB [nth roles l.a,nth roles l.b] 2
def fwdL (n:Net) (roles:List Int):List Bool:=n.links.map (Am6 roles)
end
end Go.Sy.YteinjapglfkamaaGreat
namespace Go.Sy.YteinjapglfkamaaGreat
open Go.Proofs
theorem G_lit {C:Cx} {k:List KI} {s:SS} (d:Nat) {sz:Nat} {α:Type} (e:α→SV) (l:List α) {svs:List SV} (h:s.h d=.lit sz svs) (hl:l.map e=svs) (hg:G C k ⟨s.σ,upd s.h d (.row sz e l)⟩):G C k s:=fun κ a w hs=>by
 refine hg κ a w ⟨hs.defers,hs.size,hs.inv,hs.ctx,hs.slot,fun j=>?_⟩
 show ObOK κ w j (upd s.h d (.row sz e l) j)
 by_cases hj:j=d
 ·subst hj
  rw[Bi]
  have hob:=hs.obj j
  rw[h]at hob
  have hlen:l.length=svs.length:=by rw[← hl,List.length_map]
  obtain ⟨b,cap,cs,T,fr,e1,e2,e3,e4,e5,e6⟩:=hob
  exact .inr ⟨b,cap,cs,T,fr,by rw[hlen];exact e1,e2,e3,e4,by omega,fun i x hx=>by rw[hlen];exact e6 i x (Kg hl i x hx)⟩
 ·rw[B0 _ _ hj];exact hs.obj j
attribute [local irreducible] Go.Sy.G Go.Sy.DR
set_option maxRecDepth 100000
set_option maxHeartbeats 4000000
theorem W5 (n:Net) (up:List Bool) (x:Item) (q:List Item):∀ i,((List.range i).foldl (C3 n up x) q).length≤q.length+i
 | 0=>by simp
 | i+1=>by
  have:=W5 n up x q i
  rw[List.range_succ,List.foldl_append]
  simp only[List.foldl_cons,List.foldl_nil]
  rw[C3]
  split
  ·rw[Iy];omega
  ·omega
theorem reachS (n:Net) (up:List Bool) (ranks roots costs:List Int) (hr:Ae n=true) (hu:up.length=n.links.length) (hcost:Db n=true) (hrk:ranks.length=n.devices.length) (hro:roots.length=n.devices.length) (hc:costs.length=n.devices.length) (hrr:∀ r∈ranks,0≤r) (D:List Item × List Int × List Int) (hD:Io n up (Dv ranks ranks.length,roots,costs)=D) :
  Sy.Spec Tryz.prog 221 [.ptr 0 0] (Zg n up ranks roots costs) (.tup []) (Zg n up ranks D.2.1 D.2.2):=Ab Γ hm 100 F221 Tryz.ntmps221 rfl fun F hF=>by
 have hf:=D8 hr
 conv=>whnf
 refine G_lit 10 Bl [] E E ?_
 refine Aw ranks.length (fun j=>[(0,.ptr 0 0),(2,.ptr 11 0),(15,.sl 1 Aa ranks),(16,Aa ranks.length),(17,Aa j)]) (fun j=>[(0,.box (O3 n up ranks (.osl 1) (.osl 2))),(1,.row 1 Aa roots),(2,.row 1 Aa costs),(11,.box [.osl 12]),(12,.row 3 Bl (Dv ranks j))]) [(12,10)]
  ⟨⟨rfl,rfl,rfl,rfl,rfl,rfl,rfl,rfl,rfl,rfl,trivial⟩,⟨.inl rfl,rfl,.inl rfl,rfl,.inl rfl,rfl,.inl rfl,rfl,.inl rfl,rfl,trivial⟩,rfl,rfl⟩ ?_
 intro j hj
 refine rg ?_;conv=>whnf
 refine⟨fun h=>?_,fun h=>?_⟩
 ·have hlt:j<ranks.length:=by simpa using h
  have e1:ranks[(j:Int).toNat]'qn=ranks[j]:=rfl
  have hpush:=Zw (Dv ranks j) ⟨ranks.getD j 0,0,j⟩ (by rw[Jy];omega)
  have hsucc:=If ranks j
  rw[A9 (show j<ranks.length by omega)]at hpush hsucc
  refine rg ?_;conv=>whnf
  refine⟨by omega,by omega,?_⟩
  conv=>whnf
  refine⟨by omega,?_⟩
  rw[e1]
  conv=>whnf
  refine Ai (Ak [(0,11),(1,12),(2,28)] E F286 hpush E ⟨E,E,Y⟩ E ⟨.inl E,.inl E,.inr E,Y⟩) E E ?_
  refine rg ?_;conv=>whnf
  refine⟨by unfold I64;omega,?_⟩
  conv=>whnf
  refine Ar [(12,28)] hlt ⟨⟨E,E,E,E,E,E,E,E,E,E,Y⟩,⟨.inl E,E,.inl E,E,.inl E,E,.inl E,E,.inl (congrArg (Ob.row 3 Bl) hsucc),E,Y⟩,E,E⟩
 ·have hjl:j=ranks.length:=by
   have:¬ j<ranks.length:=by simpa using h
   omega
  subst hjl
  refine rg ?_;conv=>whnf
  refine M6 (α:={s:List Item × List Int × List Int // ReachInv n s∧Io n up s=D}) (fun p=>[(0,.ptr 0 0),(2,.ptr 11 0)]) (fun p=>[(0,.box (O3 n up ranks (.osl 1) (.osl 2))),(1,.row 1 Aa p.1.2.1),(2,.row 1 Aa p.1.2.2),(11,.box [.osl 12]),(12,.row 3 Bl p.1.1)]) (fun p=>reachM p.1) ⟨(Dv ranks ranks.length,roots,costs),Zf n ranks roots costs hr hrk hro hc hrr,hD⟩ []
   ⟨⟨rfl,rfl,rfl,rfl,trivial⟩,⟨.inl rfl,rfl,.inl rfl,rfl,.inl rfl,rfl,.inl rfl,rfl,.inl rfl,rfl,trivial⟩,rfl,rfl⟩ ?_
  rintro ⟨⟨q,ro,co⟩,hI,hDq⟩
  have hlen:=Uf q
  have hdn:=Aft n up (q,ro,co)
  have hds:=Ac6 n up hr hcost (q,ro,co) hI
  dsimp only at hdn hds ⊢
  refine rg ?_;conv=>whnf
  refine Ai (Qv [12] E F287 hlen (.cons (.row E E) .nil) E E) E E ?_
  refine rg ?_;conv=>whnf
  refine⟨fun h2=>?_,fun h2=>?_⟩
  ·have hne:q≠[]:=fun e=>by subst e;simp at h2
   have hpop:=Amx q hne (by have:=hI.few;simp only at this;omega)
   have hx:=hI.items _ ((Oe q hne).mem_iff.1 (List.getLast_mem (Do hne)))
   have hst:Lb n up (q,ro,co)=if 0≤nth ro ((Cs q).getLast (Do hne)).dev then ((Cs q).dropLast,ro,co) else ((List.range n.ports.length).foldl (C3 n up ((Cs q).getLast (Do hne))) (Cs q).dropLast,ro.set ((Cs q).getLast (Do hne)).dev.toNat ((Cs q).getLast (Do hne)).root,co.set ((Cs q).getLast (Do hne)).dev.toNat ((Cs q).getLast (Do hne)).cost):=by
    rw[Lb,Xk hne]
   have hr1:=Ja n up hr hcost (q,ro,co) hI hne
   have hD1:=hds hne
   rw[hDq]at hD1
   rw[hst]at hr1 hD1
   generalize (Cs q).getLast (Do hne)=x at *
   have hroL:=hI.rootsL
   have hcoL:=hI.costsL
   dsimp only at hroL hcoL
   rw[Ah (l:=ro) (i:=x.dev) qn]at hr1 hD1
   refine rg ?_;conv=>whnf
   refine Ai (Ak [(0,11),(1,12),(2,38)] E F288 hpop E ⟨E,E,Y⟩ E ⟨.inl E,.inl E,.inr E,Y⟩) E E ?_
   refine rg ?_;conv=>whnf
   refine Ai (Vh Γ.toTy E E E E) E E ?_
   (refine rg ?_;(conv=>whnf);refine aF ?_;refine rd qq ?_;conv=>whnf)
   have hx1:=hx.1
   have hx2:=hx.2.1
   refine⟨by omega,by omega,?_⟩
   conv=>whnf
   refine⟨E,by omega,?_⟩
   conv=>whnf
   refine⟨qq,?_⟩
   conv=>whnf
   refine⟨fun h3=>?_,fun h3=>?_⟩
   ·have h30:0≤ro[x.dev.toNat]'qn:=of_decide_eq_true h3
    rw[if_pos h30]at hr1 hD1
    refine rg ?_;conv=>whnf
    exact Qk (α:={s:List Item × List Int × List Int // ReachInv n s∧Io n up s=D}) (L:=fun p=>[(0,.ptr 0 0),(2,.ptr 11 0)]) (O:=fun p=>[(0,.box (O3 n up ranks (.osl 1) (.osl 2))),(1,.row 1 Aa p.1.2.1),(2,.row 1 Aa p.1.2.2),(11,.box [.osl 12]),(12,.row 3 Bl p.1.1)]) (μ:=fun p=>reachM p.1) (x:=⟨(q,ro,co),hI,hDq⟩)
     ⟨((Cs q).dropLast,ro,co),hr1.1,hD1.symm⟩ [(12,38)] hr1.2
     ⟨⟨rfl,rfl,rfl,rfl,trivial⟩,⟨.inl rfl,rfl,.inl rfl,rfl,.inl rfl,rfl,.inl rfl,rfl,.inl rfl,rfl,trivial⟩,rfl,rfl⟩
   ·have h30:¬ 0≤ro[x.dev.toNat]'qn:=of_decide_eq_false h3
    rw[if_neg h30]at hr1 hD1
    refine rg ?_;conv=>whnf
    refine⟨by omega,by omega,?_⟩
    conv=>whnf
    refine⟨by omega,by omega,?_⟩
    conv=>whnf
    refine⟨x.root,E,E,?_⟩
    conv=>whnf
    refine⟨by omega,by omega,E,by omega,x.cost,E,E,?_⟩
    conv=>whnf
    refine⟨qq,?_⟩
    conv=>whnf
    generalize ro.set x.dev.toNat x.root=ro' at *
    generalize co.set x.dev.toNat x.cost=co' at *
    refine Aw n.ports.length (fun j=>[(0,.ptr 0 0),(2,.ptr 11 0),(5,.ptr 5 0),(77,.sl 7 A5 n.ports),(78,Aa n.ports.length),(79,Aa j)]) (fun j=>[(0,.box (O3 n up ranks (.osl 1) (.osl 2))),(1,.row 1 Aa ro'),(2,.row 1 Aa co'),(5,.box [Aa x.root,Aa x.cost,Aa x.dev]),(11,.box [.osl 12]),(12,.row 3 Bl ((List.range j).foldl (C3 n up x) (Cs q).dropLast))]) [(12,38)]
     ⟨⟨rfl,rfl,rfl,rfl,rfl,rfl,rfl,rfl,rfl,rfl,rfl,rfl,trivial⟩,⟨.inl rfl,rfl,.inl rfl,rfl,.inl rfl,rfl,.inl rfl,rfl,.inl rfl,rfl,.inl rfl,rfl,trivial⟩,rfl,rfl⟩ ?_
    intro j hj
    refine rg ?_;conv=>whnf
    refine⟨fun h4=>?_,fun h4=>?_⟩
    ·have hlt:j<n.ports.length:=by simpa using h4
     have e1:n.ports[(j:Int).toNat]'qn=n.ports[j]:=rfl
     have hfar:=farR n up ranks ro' co' j hr hu hlt
     have hql:(Cs q).dropLast.length≤q.length:=by rw[List.length_dropLast,Dt];omega
     have hlenQ:=W5 n up x (Cs q).dropLast j
     have hfew:=hI.few
     dsimp only at hfew
     have hsucc:(List.range (j+1)).foldl (C3 n up x) (Cs q).dropLast=C3 n up x ((List.range j).foldl (C3 n up x) (Cs q).dropLast) j:=by
      rw[List.range_succ,List.foldl_append];rfl
     generalize (List.range j).foldl (C3 n up x) (Cs q).dropLast=Q at *
     rw[C3,A9 hlt]at hsucc
     refine rg ?_;conv=>whnf
     refine⟨by omega,by omega,?_⟩
     conv=>whnf
     refine⟨by omega,?_⟩
     rw[e1]
     conv=>whnf
     refine Ai (Ak [] E F222 hfar E ⟨E,E,E,Y⟩ E ⟨.inl E,.inl E,.inl E,Y⟩) E E ?_
     refine rg ?_;conv=>whnf
     refine⟨fun h5=>?_,fun h5=>?_⟩
     ·refine rg ?_;conv=>whnf
      refine⟨fun h6=>?_,fun h6=>?_⟩
      ·have hk0:0≤Da n up j:=of_decide_eq_true h6
       have hk1:=X1 (up:=up) hr hlt hk0
       rw[if_pos ⟨by simpa using h5,hk0⟩,Ah (l:=n.ports) (i:=Da n up j) qn]at hsucc
       have hpc:1≤(n.ports[(Da n up j).toNat]'qn).cost∧(n.ports[(Da n up j).toNat]'qn).cost≤65535:=by
        simp only[Db,Bool.not_eq_true',List.any_eq_false]at hcost
        have:=hcost _ (List.getElem_mem (show (Da n up j).toNat<n.ports.length by omega))
        simp only[Jv,Bool.or_eq_true,decide_eq_true_eq,not_or]at this
        omega
       have hxc:=hx.2.2.2
       have hpush:=Zw Q ⟨x.root,x.cost+(n.ports[(Da n up j).toNat]'qn).cost,(n.ports[(Da n up j).toNat]'qn).dev⟩ qn
       refine rg ?_;conv=>whnf
       refine⟨E,hk0,by omega,?_⟩
       conv=>whnf
       refine⟨by unfold I64;omega,?_⟩
       conv=>whnf
       refine⟨E,hk0,by omega,?_⟩
       conv=>whnf
       refine Bn (Ak [(0,11),(1,12),(2,123)] E F286 hpush E ⟨E,E,Y⟩ E ⟨.inl E,.inl E,.inr E,Y⟩) qq E ?_
       refine rd qq ?_;conv=>whnf
       refine⟨qq,?_⟩
       conv=>whnf
       refine⟨by unfold I64;omega,?_⟩
       conv=>whnf
       refine Ar [(12,123)] hlt ⟨⟨E,E,E,E,E,E,E,E,E,E,E,E,Y⟩,⟨.inl E,E,.inl E,E,.inl E,E,.inl E,E,.inl E,E,.inl (congrArg (Ob.row 3 Bl) hsucc),E,Y⟩,E,E⟩
      ·rw[if_neg (fun hh=>(of_decide_eq_false h6) hh.2)]at hsucc
       refine rg ?_;conv=>whnf
       refine⟨by unfold I64;omega,?_⟩
       conv=>whnf
       refine Ar [] hlt ⟨⟨E,E,E,E,E,E,E,E,E,E,E,E,Y⟩,⟨.inl E,E,.inl E,E,.inl E,E,.inl E,E,.inl E,E,.inl (congrArg (Ob.row 3 Bl) hsucc),E,Y⟩,E,E⟩
     ·rw[if_neg (fun hh=>absurd hh.1 (by simpa using h5))]at hsucc
      (refine rg ?_;(conv=>whnf);refine aF ?_;refine rg ?_;conv=>whnf)
      refine⟨by unfold I64;omega,?_⟩
      conv=>whnf
      refine Ar [] hlt ⟨⟨E,E,E,E,E,E,E,E,E,E,E,E,Y⟩,⟨.inl E,E,.inl E,E,.inl E,E,.inl E,E,.inl E,E,.inl (congrArg (Ob.row 3 Bl) hsucc),E,Y⟩,E,E⟩
    ·have hjl:j=n.ports.length:=by
      have:¬ j<n.ports.length:=by simpa using h4
      omega
     subst hjl
     refine rg ?_;conv=>whnf
     exact Qk (α:={s:List Item × List Int × List Int // ReachInv n s∧Io n up s=D}) (L:=fun p=>[(0,.ptr 0 0),(2,.ptr 11 0)]) (O:=fun p=>[(0,.box (O3 n up ranks (.osl 1) (.osl 2))),(1,.row 1 Aa p.1.2.1),(2,.row 1 Aa p.1.2.2),(11,.box [.osl 12]),(12,.row 3 Bl p.1.1)]) (μ:=fun p=>reachM p.1) (x:=⟨(q,ro,co),hI,hDq⟩)
      ⟨((List.range n.ports.length).foldl (C3 n up x) (Cs q).dropLast,ro',co'),hr1.1,hD1.symm⟩ [] hr1.2
      ⟨⟨rfl,rfl,rfl,rfl,trivial⟩,⟨.inl rfl,rfl,.inl rfl,rfl,.inl rfl,rfl,.inl rfl,rfl,.inl rfl,rfl,trivial⟩,rfl,rfl⟩
  ·have he:q=[]:=List.eq_nil_of_length_eq_zero (by
    have:¬ 0<q.length:=by simpa using h2
    omega)
   have e:D=(q,ro,co):=by rw[← hDq,hdn he]
   rw[e]
   refine rg ?_;conv=>whnf
   exact Ba E .nil [] (Zg n up ranks ro co) (fun _ h=>h) E E ⟨Y,⟨.inl E,E,.inl E,E,.inl E,E,Y⟩,E,E⟩
end Go.Sy.YteinjapglfkamaaGreat
namespace Go.Sy.YteinjapglfkamaaGreat
open Go.Proofs
attribute [local irreducible] Go.Sy.G Go.Sy.DR
set_option maxRecDepth 100000
set_option maxHeartbeats 4000000
def okB (n:Net) (up:List Bool):Bool:=decide (up.length=n.links.length) && (Ae n && Db n)
theorem ok_iff {n:Net} {up:List Bool}:okB n up=true↔up.length=n.links.length∧Ae n=true∧Db n=true:=by simp[okB]
def Wy (n:Net) (up:List Bool):List Int:=(Md n up (Dq n)).2.1
def Yb (n:Net) (up:List Bool):List Int:=(Md n up (Dq n)).2.2
def Aa1 (n:Net) (up:List Bool):SV:=L6 n up (Dq n) (Wy n up) (Yb n up)
theorem Aoj (n:Net) (up:List Bool) (hn:n.Fin) (h:okB n up=false):Sy.Spec Tryz.prog 160 [Al n,.sl 1 Ad up] [] (.tup [.val (.pointer none),Aa 2]) []:=Ab Γ hm 100 F160 Tryz.ntmps160 rfl fun F hF=>by
 have h':¬ (up.length=n.links.length∧Ae n=true∧Db n=true):=fun hh=>by rw[ok_iff.2 hh]at h;cases h
 conv=>whnf
 (repeat' (first | (refine⟨fun h=>?_,fun h=>?_⟩<;>(repeat (first | simp only[bne_iff_ne]at h | simp only[bne_eq_false_iff_eq]at h | simp only[Bool.not_eq_true']at h | simp only[Bool.not_eq_false']at h))<;>((refine rg ?_);(conv=>whnf);repeat((refine aT ?_);(refine rg ?_);(conv=>whnf)))) | (refine Ag (Be n hn) F23 rfl rfl rfl rfl rfl ?_;((refine rg ?_);(conv=>whnf))) | (refine Ag (Ang n hn.ports) F219 rfl rfl rfl rfl rfl ?_;((refine rg ?_);(conv=>whnf))) | refine Ac rfl (.cons .tmp (.cons .tmp .nil)) rfl rfl))
 all_goals exact absurd ⟨by omega,by assumption,by assumption⟩ h'
def L1 (m j:Nat):List Int:=List.replicate j (-1)++List.replicate (m-j) 0
theorem Ags (m:Nat):L1 m 0=List.replicate m 0:=by simp[L1]
theorem Ake (m:Nat):L1 m m=List.replicate m (-1):=by simp[L1]
theorem Abj (m j:Nat) (h:j≤m):(L1 m j).length=m:=by simp[L1];omega
theorem Agt (m j:Nat) (h:j<m):L1 m (j+1)=(L1 m j).set j (-1):=by
 have e:m-j=(m-(j+1))+1:=by omega
 rw[L1,L1,e,List.set_append_right _ _ qy,List.length_replicate,Nat.sub_self,List.replicate_succ' (n:=j),List.replicate_succ (n:=m-(j+1))]
 simp
theorem openOK (n:Net) (up:List Bool) (hn:n.Fin) (hu:up.length=n.links.length) (hr:Ae n=true) (hcost:Db n=true):Sy.Spec Tryz.prog 160 [Al n,.sl 1 Ad up] [] (.tup [Aa1 n up,Aa 0]) []:=Ab Γ hm 100 F160 Tryz.ntmps160 rfl fun F hF=>by
 have hf:=D8 hr
 have hrt:=Be n hn
 have hct:=Ang n hn.ports
 have hrs:=ranksS n hn
 rw[hr]at hrt
 rw[hcost]at hct
 rw[hr,if_pos rfl]at hrs
 have hrk:=J3 n
 have hrr:∀ r∈Dq n,0≤r:=fun r h=>(U4 n r h).1
 have hsv:Aa1 n up=L6 n up (Dq n) (Md n up (Dq n)).2.1 (Md n up (Dq n)).2.2:=rfl
 rw[hsv]
 generalize Dq n=ranks at *
 have hreach:=fun D hD=>reachS n up ranks (List.replicate n.devices.length (-1)) (List.replicate n.devices.length 0) hr hu hcost hrk qy qy hrr D hD
 have hRT:Io n up (Dv ranks ranks.length,List.replicate n.devices.length (-1),List.replicate n.devices.length 0)=Md n up ranks:=rfl
 generalize Md n up ranks=D at *
 have hreach:=hreach D hRT
 clear hRT hsv
 conv=>whnf
 refine⟨fun h=>absurd h (by simp[hu]),fun h=>?_⟩
 refine rg ?_;conv=>whnf
 refine Ag hrt F23 E E E E E ?_
 (refine rg ?_;(conv=>whnf);refine aF ?_;refine rg ?_;conv=>whnf)
 refine Ag hct F219 E E E E E ?_
 (refine rg ?_;(conv=>whnf);refine aF ?_;refine rg ?_;conv=>whnf)
 refine Aq hrs F220 E E E qq E ?_
 refine rd qq ?_;conv=>whnf
 refine Bn (Br Γ.toTy (d:=31) (n:=n.devices.length) Aa 0 E E E E E E E E qn qn E E E) qq E ?_
 refine rd qq ?_;conv=>whnf
 refine Bn (Br Γ.toTy (d:=35) (n:=n.devices.length) Aa 0 E E E E E E E E qn qn E E E) qq E ?_
 refine rd qq ?_;conv=>whnf
 refine⟨qq,?_⟩
 conv=>whnf
 refine Aw n.devices.length (fun j=>[(6,.ptr 37 0),(42,Aa (List.replicate n.devices.length (0:Int)).length),(43,Aa j)]) (fun j=>[(37,.box (O3 n up ranks (.osl 31) (.osl 35))),(31,.row 1 Aa (L1 n.devices.length j)),(35,.row 1 Aa (List.replicate n.devices.length 0))]) []
  ⟨⟨rfl,rfl,rfl,rfl,rfl,rfl,trivial⟩,⟨.inl rfl,rfl,.inl (by rw[Ags];rfl),rfl,.inl rfl,rfl,trivial⟩,rfl,rfl⟩ ?_
 intro j hj
 have hlen:=Abj n.devices.length j hj
 refine rg ?_;conv=>whnf
 refine⟨fun h=>?_,fun h=>?_⟩
 ·have hlt:j<n.devices.length:=by simpa using h
  have hsucc:=Agt n.devices.length j hlt
  generalize L1 n.devices.length j=u at *
  refine rg ?_;conv=>whnf
  refine⟨by omega,by omega,?_⟩
  conv=>whnf
  refine⟨E,by omega,-1,E,E,?_⟩
  conv=>whnf
  refine⟨by unfold I64;omega,?_⟩
  conv=>whnf
  exact Ar [] hlt ⟨⟨E,E,E,E,E,E,Y⟩,⟨.inl E,E,.inl (congrArg (Ob.row 1 Aa) hsucc),E,.inl E,E,Y⟩,E,E⟩
 have hjl:j=n.devices.length:=by
  have:¬ j<n.devices.length:=by simpa using h
  omega
 subst hjl
 have hall:=Ake n.devices.length
 rw[← hall]at hreach
 refine rg ?_;conv=>whnf
 refine Ai (Ak [(0,37),(1,31),(2,35)] E F221 hreach E ⟨E,E,E,Y⟩ E ⟨.inl E,.inl E,.inl E,Y⟩) E E ?_
 refine Au 31 E ?_
 refine Au 35 E ?_
 refine A3 37 12 (.agg (O3 n up ranks (.sl 1 Aa D.2.1) (.sl 1 Aa D.2.2))) E E E ?_
 refine rg ?_;conv=>whnf
 exact Ac E (.cons .tmp (.cons .tmp .nil)) E E
theorem Acf {n:Net} {up:List Bool} (h:okB n up=true):Solved n up (Dq n) (Wy n up) (Yb n up):=by
 obtain ⟨hu,hr,hcost⟩:=ok_iff.1 h
 exact Yq n up (Dq n) hr hcost (J3 n) (fun r h=>(U4 n r h).1)
def Aas (n:Net) (up:List Bool):List Int:=rolesL n up (Dq n) (Wy n up) (Yb n up)
def fwdT (n:Net) (up:List Bool):List Bool:=fwdL n (Aas n up)
theorem Yo (n:Net) (up:List Bool):(Aas n up).length=n.ports.length:=Ib ..
theorem Af1 (n:Net) (up:List Bool) (h:okB n up=true):Sy.Spec Tryz.prog 161 [Aa1 n up] [] (.sl 1 Aa (Aas n up)) []:=by
 obtain ⟨hu,hr,hcost⟩:=ok_iff.1 h
 have S:=Acf h
 exact rolesS n up (Dq n) (Wy n up) (Yb n up) hr hu hcost (J3 n) S.rootsL S.costsL (fun c hc=>by have:=S.bound c hc;omega)
theorem Xy (n:Net) (up:List Bool) (hn:n.Fin) (h:okB n up=false):Sy.Spec Tryz.prog 112 [Al n,.sl 1 Ad up] [] (.tup [.sl 1 Ad [],Aa 2]) []:=Ab Γ hm 100 F112 Tryz.ntmps112 rfl fun F hF=>by
 conv=>whnf
 refine Ag (Aoj n up hn h) F160 E E E E E ?_
 (refine rg ?_;(conv=>whnf);refine aT ?_;refine rg ?_;conv=>whnf)
 refine Ap 4 1 Ad E ?_
 exact Ac E (.cons .tmp (.cons .tmp .nil)) E E
def V1 (n:Net) (roles:List Int) (j:Nat):List Bool:=(n.links.take j).map (Am6 roles)++List.replicate (n.links.length-j) false
theorem Akb (n:Net) (roles:List Int):V1 n roles 0=List.replicate n.links.length false:=by simp[V1]
theorem Am5 (n:Net) (roles:List Int):V1 n roles n.links.length=fwdL n roles:=by simp[V1,fwdL]
theorem Ad8 (n:Net) (roles:List Int) (j:Nat) (h:j≤n.links.length):(V1 n roles j).length=n.links.length:=by simp[V1];omega
theorem Akc (n:Net) (roles:List Int) (j:Nat) (h:j<n.links.length):V1 n roles (j+1)=(V1 n roles j).set j (Am6 roles n.links[j]):=by
 have e:n.links.length-j=(n.links.length-(j+1))+1:=by omega
 have el:((n.links.take j).map (Am6 roles)).length=j:=by simp;omega
 rw[V1,V1,List.set_append_right _ _ qn,el,Nat.sub_self,List.take_succ_eq_append_getElem h,List.map_append,e,List.replicate_succ,List.set_cons_zero]
 simp
theorem Z0 (n:Net) (up:List Bool) (hn:n.Fin) (h:okB n up=true):Sy.Spec Tryz.prog 112 [Al n,.sl 1 Ad up] [] (.tup [.sl 1 Ad (fwdT n up),Aa 0]) []:=Ab Γ hm 100 F112 Tryz.ntmps112 rfl fun F hF=>by
 obtain ⟨hu,hr,hcost⟩:=ok_iff.1 h
 have hf:=D8 hr
 have ho:=openOK n up hn hu hr hcost
 have hro:=Af1 n up h
 have hrl:=Yo n up
 rw[fwdT]
 generalize Aas n up=roles at *
 unfold Aa1 at ho hro
 generalize Dq n=ranks at *
 generalize Wy n up=roots at *
 generalize Yb n up=costs at *
 conv=>whnf
 refine Ag ho F160 E E E E E ?_
 (refine rg ?_;(conv=>whnf);refine aF ?_;refine rg ?_;conv=>whnf)
 refine Ag hro F161 E E E E E ?_
 refine rg ?_;conv=>whnf
 refine Ai (Br Γ.toTy (d:=27) (n:=n.links.length) Ad false E E E E E E E E qn qn E E E) E E ?_
 rw[← Akb n roles]
 refine rg ?_;conv=>whnf
 refine Aw n.links.length (fun j=>[(8,.sl 1 Aa roles),(9,.osl 27),(29,.sl 3 Ch n.links),(30,Aa n.links.length),(31,Aa j)]) (fun j=>[(27,.row 1 Ad (V1 n roles j))]) []
  ⟨⟨rfl,rfl,rfl,rfl,rfl,rfl,rfl,rfl,rfl,rfl,trivial⟩,⟨.inl rfl,rfl,trivial⟩,rfl,rfl⟩ ?_
 intro j hj
 have hall:=Am5 n roles
 refine rg ?_;conv=>whnf
 refine⟨fun h=>?_,fun h=>?_⟩
 ·have hlt:j<n.links.length:=by simpa using h
  have he:=Ko hr hlt
  have e1:n.links[(j:Int).toNat]'qn=n.links[j]:=rfl
  have hlen:=Ad8 n roles j hj
  have hsucc:=Akc n roles j hlt
  generalize V1 n roles j=u at *
  generalize n.links[j]=l at *
  rw[Am6,Ah (l:=roles) (i:=l.a) qn,Ah (l:=roles) (i:=l.b) qn]at hsucc
  refine rg ?_;conv=>whnf
  refine⟨E,by omega,by omega,?_⟩
  rw[e1]
  conv=>whnf
  refine⟨E,by omega,by omega,?_⟩
  conv=>whnf
  refine⟨E,by omega,by omega,?_⟩
  conv=>whnf
  refine⟨qq,?_⟩
  conv=>whnf
  have hA:0≤l.a∧l.a<roles.length:=by omega
  have hB:0≤l.b∧l.b<roles.length:=by omega
  obtain ⟨x,hx⟩:∃ x,roles[l.a.toNat]'qn=x:=⟨_,rfl⟩
  obtain ⟨y,hy⟩:∃ y,roles[l.b.toNat]'qn=y:=⟨_,rfl⟩
  rw[hx,hy]at hsucc
  refine Ae5 46 (e:=Aa) (l:=[x,y]) E (by rw[← hx,← hy];rfl) ?_
  refine Au 46 E ?_
  refine Ag (C2 [x,y] 1 (by unfold An;simp)) F25 E E E E E ?_
  refine rg ?_;conv=>whnf
  refine⟨fun h1=>?_,fun h1=>?_⟩
  ·rw[h1,Bool.true_and]at hsucc
   refine rg ?_;conv=>whnf
   refine Ag (C2 [x,y] 2 (by unfold An;simp)) F25 E E E E E ?_
   refine rg ?_;conv=>whnf
   refine⟨by omega,by omega,?_⟩
   conv=>whnf
   refine⟨E,by omega,inB [x,y] 2,E,E,?_⟩
   conv=>whnf
   refine⟨by unfold I64;omega,?_⟩
   conv=>whnf
   exact Ar [] hlt ⟨⟨E,E,E,E,E,E,E,E,E,E,Y⟩,⟨.inl (congrArg (Ob.row 1 Ad) hsucc),E,Y⟩,E,E⟩
  ·rw[h1,Bool.false_and]at hsucc
   refine rg ?_;conv=>whnf
   refine⟨by omega,by omega,?_⟩
   conv=>whnf
   refine⟨E,by omega,false,E,E,?_⟩
   conv=>whnf
   refine⟨by unfold I64;omega,?_⟩
   conv=>whnf
   exact Ar [] hlt ⟨⟨E,E,E,E,E,E,E,E,E,E,Y⟩,⟨.inl (congrArg (Ob.row 1 Ad) hsucc),E,Y⟩,E,E⟩
 have hjl:j=n.links.length:=by
  have:¬ j<n.links.length:=by simpa using h
  omega
 subst hjl
 rw[← hall]
 refine rg ?_;conv=>whnf
 refine Au 27 E ?_
 exact Ac E (.cons .tmp (.cons .tmp .nil)) E E
end Go.Sy.YteinjapglfkamaaGreat
namespace Go.Sy.YteinjapglfkamaaGreat
open Go.Proofs
structure MacM where
 up:List Bool
 tables:List (List EntryM)
 queues:List (List QueuedM)
 now:Int
 injected:Int
 drops:Nat→Int
def Ca (m:MacM) (e:Int):MacM:=⟨m.up,m.tables,m.queues,m.now,m.injected,fun i=>if i=e.toNat then m.drops i+1 else m.drops i⟩
def queueL (m:MacM) (dom:Int):List QueuedM:=(m.queues[dom.toNat]?).getD []
def tableL (m:MacM) (dom:Int):List EntryM:=(m.tables[dom.toNat]?).getD []
def Aiz (m:MacM) (dom:Int) (l:List QueuedM):MacM:=⟨m.up,m.tables,m.queues.set dom.toNat l,m.now,m.injected,m.drops⟩
def Et (m:MacM) (dom:Int) (t:List EntryM):MacM:=⟨m.up,m.tables.set dom.toNat t,m.queues,m.now,m.injected,m.drops⟩
def comeM (m:MacM) (dom:Int) (q:QueuedM) (e:Int):MacM :=
 if e≠0 then Ca m e else if (pushT (queueL m dom) q).2=true then Aiz m dom (pushT (queueL m dom) q).1 else Ca m 3
def takeM (m:MacM) (dom at_:Int):MacM × QueuedM × Bool :=
 if Aj dom m.queues.length=false then (m,noQ,false)
 else (Aiz m dom (takeT (queueL m dom) at_).2.1,(takeT (queueL m dom) at_).1,(takeT (queueL m dom) at_).2.2)
def injectT (n:Net) (m:MacM) (port:Int) (b:List UInt8):MacM :=
 if Aj port n.ports.length=false∨0≤(nth n.ports port).link then m
 else comeM ⟨m.up,m.tables,m.queues,m.now,m.injected+1,m.drops⟩ (enterT n port b).1 ⟨port,0,m.injected+1,(enterT n port b).2.1⟩ (enterT n port b).2.2
def goesM (n:Net) (m:MacM) (o:OutM) (origin:Int):MacM × List SeenM :=
 if o.kind=1 then (m,[⟨o.port,origin,o.bytes⟩])
 else if o.kind=2 then (comeM m (linkT n o.port o.bytes).2.1 ⟨(linkT n o.port o.bytes).1,0,origin,(linkT n o.port o.bytes).2.2.1⟩ (linkT n o.port o.bytes).2.2.2,[])
 else if o.kind=3 then (comeM m (comeT n o.bytes).2.1 ⟨-1,(comeT n o.bytes).1,origin,(comeT n o.bytes).2.2.1⟩ (comeT n o.bytes).2.2.2,[])
 else if o.kind=4 then (comeM m o.domain ⟨-2,0,origin,o.frame⟩ 0,[])
 else (Ca m o.error,[])
def Bt (n:Net) (m:MacM) (origin:Int):List OutM→MacM × List SeenM
 | []=>(m,[])
 | o::l=>((Bt n (goesM n m o origin).1 origin l).1,(goesM n m o origin).2++(Bt n (goesM n m o origin).1 origin l).2)
def Ks (n:Net) (up:List Bool):List Bool:=if okB n up=true then fwdT n up else []
def Adc (n:Net) (m:MacM) (dom:Int) (q:QueuedM):List EntryM × List OutM × Int:=bridgeT n (Ks n m.up) (tableL m dom) dom q m.now
def Sq (m:MacM) (dom:Int) (r:List EntryM × List OutM × Int):MacM :=
 if r.2.2=2 then Ca m 2 else if r.2.2≠0 then Ca (Et m dom r.1) r.2.2 else Et m dom r.1
def pickT (n:Net) (m:MacM) (dom at_:Int):MacM × List SeenM :=
 if (takeM m dom at_).2.2=false then ((takeM m dom at_).1,[])
 else Bt n (Sq (takeM m dom at_).1 dom (Adc n (takeM m dom at_).1 dom (takeM m dom at_).2.1)) (takeM m dom at_).2.1.origin (Adc n (takeM m dom at_).1 dom (takeM m dom at_).2.1).2.1
def O2 (m:MacM):MacM :=
 let now:=min (m.now+1) 1099511627776
 ⟨m.up,m.tables.map (fun t=>ageT t now),m.queues,now,m.injected,m.drops⟩
def doT (n:Net) (m:MacM) (x:StepM):MacM × List SeenM :=
 if x.kind=1 then (injectT n m x.port x.bytes,[])
 else if x.kind=2 then pickT n m x.domain x.at_
 else if x.kind=3 then ((takeM m x.domain x.at_).1,[])
 else if x.kind=4 then (O2 m,[])
 else if x.kind=5 then ((if x.up.length=n.links.length then ⟨x.up,m.tables,m.queues,m.now,m.injected,m.drops⟩ else m),[])
 else (m,[])
def newT (n:Net):MacM:=⟨List.replicate n.links.length true,List.replicate n.domains.length [],List.replicate n.domains.length [],0,0,fun _=>0⟩
def Bp (e:Int):Prop:=0≤e∧e<64
def DomIn (n:Net) (d:Int):Prop:=0≤d∧d.toNat<n.domains.length
theorem Jd {n:Net} {d:Int} (h:Aj d n.domains.length=true):DomIn n d:=by
 have:=B3 h
 unfold DomIn
 omega
theorem T7 (b:List UInt8):Bp (takeF b).2:=by
 unfold takeF Bp
 repeat' split
 all_goals (dsimp only;omega)
theorem Afd (f:FrameM):Bp (stripT f).2.2.2:=by
 unfold stripT Bp
 repeat' split
 all_goals (dsimp only;omega)
theorem X2 (n:Net) (port:Int) (b:List UInt8):Bp (enterT n port b).2.2:=by
 have h1:=T7 b
 have h2:=Afd (takeF b).1
 have h3:∀ f tg v,Bp (Jn n port f tg v).2.2:=fun f tg v=>by
  unfold Jn Bp
  repeat' split
  all_goals (dsimp only;omega)
 unfold enterT
 split
 ·unfold Bp;dsimp only;omega
 split
 ·exact h1
 split
 ·split
  ·exact h2
  ·exact h3 _ _ _
 ·exact h3 _ _ _
theorem Ajy (n:Net) (port:Int) (b:List UInt8):Bp (linkT n port b).2.2.2:=by
 unfold linkT
 split
 ·unfold Bp;dsimp only;omega
 ·exact X2 _ _ _
theorem Aga (n:Net) (port dom:Int) (f:FrameM):Bp (leaveT n port dom f).2:=by
 unfold leaveT
 split
 ·unfold Bp;dsimp only;omega
 split
 ·unfold Bp;dsimp only;omega
 split
 ·unfold Bp;dsimp only;omega
 split
 ·unfold Bp;dsimp only;omega
 split
 ·show Bp (tagT f (nth n.domains dom).vlan).2
  unfold tagT Bp
  repeat' split
  all_goals (dsimp only;omega)
 ·unfold Bp;dsimp only;omega
theorem Aij (a b:Nat) (v:Int) (f:FrameM):Bp (wrapT a b v f).2:=by
 unfold wrapT Bp
 repeat' split
 all_goals (dsimp only;omega)
theorem Ajv (n:Net) (dom peer:Int) (f:FrameM):Bp (meshT n dom peer f).2:=by
 unfold meshT
 split
 ·unfold Bp;dsimp only;omega
 split
 ·unfold Bp;dsimp only;omega
 ·exact Aij _ _ _ _
theorem Vd (b:List UInt8):Bp (ipTakeT b).2:=by
 unfold ipTakeT Bp
 repeat' split
 all_goals (dsimp only;omega)
theorem Aal (b:List UInt8):Bp (udpTakeT b).2.2.2:=by
 unfold udpTakeT Bp
 repeat' split
 all_goals (dsimp only;omega)
theorem Ak3 (b:List UInt8):Bp (vniT b).2.2:=by
 unfold vniT Bp
 repeat' split
 all_goals (dsimp only;omega)
theorem Afz (b:List UInt8):Bp (outerT b).2:=by
 unfold outerT
 split
 ·exact T7 _
 split
 ·unfold Bp;dsimp only;omega
 split
 ·exact Vd _
 ·unfold Bp;dsimp only;split<;>omega
theorem Agj (b:List UInt8):Bp (J9 b).2.2:=by
 unfold J9
 split
 ·exact Aal _
 split
 ·unfold Bp;dsimp only;omega
 split
 ·exact Ak3 _
 split
 ·exact T7 _
 split
 ·unfold Bp;dsimp only;omega
 ·unfold Bp;dsimp only;omega
theorem Acd (b:List UInt8):Bp (Bv b).2.2.2.2:=by
 unfold Bv
 split
 ·exact Afz _
 split
 ·exact Agj _
 ·unfold Bp;dsimp only;omega
theorem Aki (n:Net) (b:List UInt8):Bp (comeT n b).2.2.2:=by
 unfold comeT
 split
 ·unfold Bp;dsimp only;omega
 split
 ·exact Acd _
 split
 ·unfold Bp;dsimp only;omega
 split
 ·unfold Bp;dsimp only;omega
 ·unfold Bp;dsimp only;omega
theorem Amv (n:Net) (irb:Int) (f:FrameM):Bp (hopT n irb f).2.2:=by
 unfold hopT
 split
 ·unfold Bp;dsimp only;omega
 split
 ·unfold Bp;dsimp only;omega
 split
 ·exact Vd _
 split
 ·unfold Bp;dsimp only;omega
 split
 ·unfold Bp;dsimp only;omega
 split
 ·unfold Bp;dsimp only;omega
 ·unfold Bp;dsimp only;omega
theorem Aet (n:Net) (fw:List Bool) (t:List EntryM) (dom:Int) (q:QueuedM) (now:Int):Bp (bridgeT n fw t dom q now).2.2:=by
 unfold bridgeT
 split
 ·unfold Bp;dsimp only;omega
 split
 ·split
  ·exact Amv _ _ _
  ·unfold Bp;dsimp only;omega
 ·unfold Bp;dsimp only;omega
theorem Ah9 {n:Net} {dev v:Int} (h:By n dev v=true):DomIn n (Mx n dev v):=by
 have h1:0≤Mx n dev v:=by simpa [By] using h
 have h2:Mx n dev v<n.domains.length:=E9 _ _
 exact⟨h1,by omega⟩
theorem Ak4 {n:Net} (hb:Ae n=true) {port:Int} (hp:Aj port n.ports.length=true) {tg:Bool} {vid:Int} (h:(vlanT (nth n.ports port) tg vid).2=true):DomIn n (Mx n (nth n.ports port).dev (vlanT (nth n.ports port) tg vid).1):=by
 have hk:=B3 hp
 have hk2:port.toNat<n.ports.length:=by omega
 simp only[Ae,Bool.and_eq_true]at hb
 have hpb:=allB_iff.1 hb.1.1.1.1.1.2 _ hk2
 rw[Ah hk2]at h ⊢
 generalize n.ports[port.toNat]=p at *
 simp only[Eh,Bool.and_eq_true]at hpb
 obtain ⟨⟨⟨⟨⟨⟨⟨⟨g1,g2⟩,g3⟩,g4⟩,g5⟩,g6⟩,g7⟩,g8⟩,g9⟩:=hpb
 unfold vlanT at h ⊢
 split
 ·rw[if_pos (by assumption)]at h
  have h1:p.native≠0:=by simpa using h
  have h2:0≤p.native:=by simpa using g2
  refine Ah9 ?_
  have h3:decide (0<p.native)=true:=by simp;omega
  rw[h3,Bool.true_and]at g8
  simpa using g8
 ·rw[if_neg (by assumption)]at h
  split
  ·rename_i h4
   have h5:vid∈p.tagged:=inB_mem.1 h4
   obtain ⟨i,hi,rfl⟩:=List.mem_iff_getElem.1 h5
   exact Ah9 (allB_iff.1 g7 i hi)
  ·rw[if_neg (by assumption)]at h
   cases h
theorem X3 {n:Net} {port:Int} {b:List UInt8} (h:(enterT n port b).2.2=0):DomIn n (enterT n port b).1:=by
 unfold enterT at h ⊢
 split
 ·rw[if_pos (by assumption)]at h;cases h
 rename_i hc
 rw[if_neg hc]at h
 have hp:Aj port n.ports.length=true:=by cases hx:Aj port n.ports.length;exact absurd (.inl hx) hc;rfl
 have hb:Ae n=true:=by cases hx:Ae n;exact absurd (.inr hx) hc;rfl
 have key:∀ f tg v,(Jn n port f tg v).2.2=0→DomIn n (Jn n port f tg v).1:=fun f tg v h=>by
  unfold Jn at h ⊢
  split
  ·rw[if_pos (by assumption)]at h;cases h
  rw[if_neg (by assumption)]at h
  split
  ·rw[if_pos (by assumption)]at h;cases h
  rename_i h5
  show DomIn n (B5 n _ _)
  rw[B5,if_pos hb]
  exact Ak4 hb hp (by simpa using h5)
 split
 ·rename_i h2
  rw[if_pos h2]at h
  exact absurd h h2
 rename_i h2
 rw[if_neg h2]at h
 split
 ·rename_i h3
  rw[if_pos h3]at h
  split
  ·rename_i h4
   rw[if_pos h4]at h
   exact absurd h h4
  ·rename_i h4
   rw[if_neg h4]at h
   exact key _ _ _ h
 ·rename_i h3
  rw[if_neg h3]at h
  exact key _ _ _ h
theorem Ajz {n:Net} {port:Int} {b:List UInt8} (h:(linkT n port b).2.2.2=0):DomIn n (linkT n port b).2.1:=by
 unfold linkT at h ⊢
 split
 ·rw[if_pos (by assumption)]at h;cases h
 ·rename_i h2
  rw[if_neg h2]at h
  exact X3 h
theorem Ade {n:Net} (hb:Ae n=true) {dom:Nat} (hd:dom<n.domains.length) {k:Int} (hk:k∈n.domains[dom].peers):DomIn n k:=by
 simp only[Ae,Bool.and_eq_true]at hb
 have:=allB_iff.1 hb.1.1.1.1.1.1.2 _ hd
 obtain ⟨i,hi,rfl⟩:=List.mem_iff_getElem.1 hk
 have h2:=allB_iff.1 this i hi
 simp only[Lx,Bool.and_eq_true]at h2
 exact Jd h2.1.1.1.1.1.1.1.1.1
theorem Anc {n:Net} (hb:Ae n=true) {src dst:Nat} {vni:Int} (h:¬ (endsT n src dst vni).1<0):DomIn n (endsT n src dst vni).1∧DomIn n (endsT n src dst vni).2:=by
 unfold endsT at h ⊢
 dsimp only at h ⊢
 split
 ·rw[if_pos (by assumption)]at h;exact absurd qx h
 rename_i h1
 rw[if_neg h1]at h
 split
 ·rw[if_pos (by assumption)]at h;exact absurd qx h
 rename_i h2
 have hd:=E9 (fun d:Domain=>decide (d.dev=Ct (fun d:Device=>decide (d.vtep=(dst:Int))) n.devices) && decide (d.vni=vni)) n.domains
 generalize Ct (fun d:Domain=>decide (d.dev=Ct (fun d:Device=>decide (d.vtep=(dst:Int))) n.devices) && decide (d.vni=vni)) n.domains=dom at *
 have hd2:dom.toNat<n.domains.length:=by omega
 have hi:=E9 (fun k:Int=>decide (Ir n k=(src:Int))) (nth n.domains dom).peers
 generalize Ct (fun k:Int=>decide (Ir n k=(src:Int))) (nth n.domains dom).peers=i at *
 rw[Ah hd2]at hi ⊢
 have hi2:i.toNat<(n.domains[dom.toNat]).peers.length:=by omega
 refine⟨?_,⟨by dsimp only;omega,hd2⟩⟩
 show DomIn n (nth (n.domains[dom.toNat]).peers i)
 rw[Ah hi2]
 exact Ade hb hd2 (List.getElem_mem hi2)
theorem Z8 {n:Net} {b:List UInt8} (h:(comeT n b).2.2.2=0):DomIn n (comeT n b).1∧DomIn n (comeT n b).2.1:=by
 unfold comeT at h ⊢
 split
 ·rw[if_pos (by assumption)]at h;cases h
 rename_i hb
 rw[if_neg hb]at h
 split
 ·rename_i h2
  rw[if_pos h2]at h;exact absurd h h2
 rename_i h2
 rw[if_neg h2]at h
 split
 ·rw[if_pos (by assumption)]at h;cases h
 rename_i h3
 rw[if_neg h3]at h
 split
 ·rw[if_pos (by assumption)]at h;cases h
 exact Anc (by simpa using hb) h3
theorem Amw {n:Net} {irb:Int} {f:FrameM} (hin:∀ (d:Int),(lookT n irb d).2=true→0≤(lookT n irb d).1∧(lookT n irb d).1.toNat<n.irbs.length) (h:(hopT n irb f).2.2=0):DomIn n (hopT n irb f).1:=by
 unfold hopT at h ⊢
 split
 ·rw[if_pos (by assumption)]at h;cases h
 rename_i h1
 rw[if_neg h1]at h
 split
 ·rw[if_pos (by assumption)]at h;cases h
 rename_i h2
 rw[if_neg h2]at h
 split
 ·rename_i h3
  rw[if_pos h3]at h;exact absurd h h3
 rename_i h3
 rw[if_neg h3]at h
 split
 ·rw[if_pos (by assumption)]at h;cases h
 rename_i h4
 rw[if_neg h4]at h
 split
 ·rw[if_pos (by assumption)]at h;cases h
 rename_i h5
 rw[if_neg h5]at h
 split
 ·rw[if_pos (by assumption)]at h;cases h
 have hl:=hin ((ipTakeT f.body).1.dst:Int) (by simpa using h5)
 have hb:Ae n=true:=by cases hx:Ae n;exact absurd (.inr hx) h1;rfl
 have:=(B4 hb hl.2).1
 show DomIn n (nth n.irbs _).domain
 rw[Ah hl.2]
 exact this
end Go.Sy.YteinjapglfkamaaGreat
namespace Go.Sy.YteinjapglfkamaaGreat
open Go.Proofs
attribute [local irreducible] Go.Sy.G Go.Sy.DR
set_option maxRecDepth 100000
set_option maxHeartbeats 4000000
theorem S8 (l:List Device) (p:Device→Bool) (f:FuncId) (first cap:List SV) (hc:(SV.clo (.func f) first cap).inn []=true) (hf:∀ x∈l,Hz Tryz.prog f (first++[Bm x]++cap) (Ad (p x))) (hl:An l) :
  Sy.Spec Tryz.prog 359 [.sl 5 Bm l,.clo (.func f) first cap] [] (Aa (Ct p l)) []:=Ab Γ hm 100 F359 Tryz.ntmps359 rfl fun F hF=>by
 unfold An at hl
 have hin:∀ x:Device,B8 [] (first++[Bm x]++cap)=true:=fun x=>Cr hc rfl
 conv=>whnf
 refine Ay l.length (fun j=>Dk (fun _ x=>!(p x)) l j) (fun j=>[(0,.sl 5 Bm l),(1,.clo (.func f) first cap),(7,Aa l.length),(8,Aa j)]) (fun _=>[]) [] (A2 _ _) ⟨⟨E,E,Bb _,hc,E,E,E,E,Y⟩,Y,E,E⟩ ?_
 intro j hj hI
 refine rg ?_;conv=>whnf
 refine⟨fun h=>?_,fun h=>?_⟩
 ·have h:=of_decide_eq_true h
  have hj2:j<l.length:=by omega
  refine rg ?_;conv=>whnf
  refine⟨E,by omega,by omega,?_⟩
  conv=>whnf
  refine D7 (hf l[j] (List.getElem_mem hj2)) E E E (by simp only[hin];rfl) E E ?_
  refine rg ?_;conv=>whnf
  refine⟨fun h2=>?_,fun h2=>?_⟩
  ·refine rg ?_;conv=>whnf
   refine Ac E (.cons .tmp .nil) (congrArg Aa ?_) E
   exact Dh hj2 (fun i hi hij=>by simpa using hI i hi hij) h2
  ·refine rg ?_;conv=>whnf
   refine⟨by unfold I64;omega,?_⟩
   conv=>whnf
   exact Av [] hI hj2 (Ax hI hj2 (by simp[h2])) ⟨⟨E,E,Bb _,hc,E,E,E,E,Y⟩,Y,E,E⟩
 ·have h:=of_decide_eq_false h
  refine rg ?_;conv=>whnf
  refine Ac E (.cons .tmp .nil) (congrArg Aa ?_) E
  exact Ea (fun i hi=>by simpa using hI i hi qn)
theorem Abn {n:Net} (hb:Ae n=true) {d:Int} (hd:DomIn n d):0≤(n.domains[d.toNat]'hd.2).dev∧(n.domains[d.toNat]'hd.2).dev.toNat<n.devices.length:=by
 simp only[Ae,Bool.and_eq_true]at hb
 have:=K0 hb.1.1.1.1.1.1.1.2 hd.2
 have:=B3 this
 omega
theorem Ab3 {n:Net} (hb:Ae n=true) {d:Int} (hd:DomIn n d):Ir n d=(n.devices[(n.domains[d.toNat]'hd.2).dev.toNat]'(Abn hb hd).2).vtep:=by
 rw[Ir,Ah hd.2,Ah (Abn hb hd).2]
theorem Ab2 {n:Net} (hm:n.Num) (hb:Ae n=true) {d:Int} (hd:DomIn n d):0≤Ir n d∧Ir n d<4294967296:=by
 rw[Ab3 hb hd]
 exact hm.vtep _ (List.getElem_mem _)
theorem Qs (n:Net) (hb:Ae n=true) (d:Int) (hd:DomIn n d):Sy.Spec Tryz.prog 304 [Al n,Aa d] [] (Bj (Ir n d)) []:=Ab Γ hm 100 F304 Tryz.ntmps304 rfl fun F hF=>by
 have hv:=Ab3 hb hd
 have h2:=Abn hb hd
 obtain ⟨x,hx⟩:∃ x,n.domains[d.toNat]'hd.2=x:=⟨_,rfl⟩
 rw[hx]at h2
 simp only[hx]at hv
 obtain ⟨y,hy⟩:∃ y,n.devices[x.dev.toNat]'h2.2=y:=⟨_,rfl⟩
 rw[hy]at hv
 rw[hv]
 conv=>whnf
 refine⟨E,hd.1,hd.2,?_⟩
 rw[hx]
 conv=>whnf
 refine⟨E,h2.1,h2.2,?_⟩
 rw[hy]
 conv=>whnf
 refine⟨qq,?_⟩
 conv=>whnf
 exact Ac E (.cons .tmp .nil) E E
theorem Agb (n:Net) (hn:n.Fin) (hm0:n.Num) (dom peer:Int) (f:FrameM) (h:FrameOK f) :
  Sy.Spec Tryz.prog 237 [Al n,Aa dom,Aa peer,B9 f] [] (.tup [.sl 1 Ao (meshT n dom peer f).1,Aa (meshT n dom peer f).2]) []:=Ab Γ hm 100 F237 Tryz.ntmps237 rfl fun F hF=>by
 have hres:=meshT.eq_1 n dom peer f
 generalize meshT n dom peer f=res at *
 have hr:=Be n hn
 have hpS:=Js peer n.domains.length
 have hdS:=Js dom n.domains.length
 conv=>whnf
 refine A3 4 8 (Al n) E E E ?_
 refine A3 7 4 (B9 f) E E E ?_
 refine rg ?_;conv=>whnf
 refine Ag hpS F300 E E E E E ?_
 cases hpl:Aj peer n.domains.length
 ·rw[if_pos (.inl hpl)]at hres
  subst hres
  (refine rg ?_;(conv=>whnf);refine aT ?_;refine rg ?_;(conv=>whnf);refine aT ?_;refine rg ?_;(conv=>whnf);refine aT ?_;refine rg ?_;conv=>whnf)
  refine Ap 8 1 Ao E ?_
  exact Ac E (.cons .tmp (.cons .tmp .nil)) E E
 (refine rg ?_;(conv=>whnf);refine aF ?_;refine rg ?_;conv=>whnf)
 refine Ag hdS F300 E E E E E ?_
 cases hdl:Aj dom n.domains.length
 ·rw[if_pos (.inr (.inl hdl))]at hres
  subst hres
  (refine rg ?_;(conv=>whnf);refine aT ?_;refine rg ?_;(conv=>whnf);refine aT ?_;refine rg ?_;conv=>whnf)
  refine Ap 8 1 Ao E ?_
  exact Ac E (.cons .tmp (.cons .tmp .nil)) E E
 (refine rg ?_;(conv=>whnf);refine aF ?_;refine rg ?_;conv=>whnf)
 refine Ag hr F23 E E E E E ?_
 cases hbn:Ae n
 ·rw[if_pos (.inr (.inr hbn))]at hres
  subst hres
  (refine rg ?_;(conv=>whnf);refine aT ?_;refine rg ?_;conv=>whnf)
  refine Ap 8 1 Ao E ?_
  exact Ac E (.cons .tmp (.cons .tmp .nil)) E E
 rw[if_neg (by simp[hbn,hpl,hdl])]at hres
 have hd:=Jd hdl
 have hp:=Jd hpl
 have hd0:=hd.1
 have hkd:=hd.2
 have e2:nth n.domains dom=n.domains[dom.toNat]:=Ah hkd
 have hpe:=hn.peers _ (List.getElem_mem hkd)
 have va:=Ab2 hm0 hbn hd
 have vb:=Ab2 hm0 hbn hp
 have qa:=Qs n hbn dom hd
 have qb:=Qs n hbn peer hp
 generalize Ir n dom=a at *
 generalize Ir n peer=c at *
 obtain ⟨a,rfl⟩:=Int.eq_ofNat_of_zero_le va.1
 obtain ⟨c,rfl⟩:=Int.eq_ofNat_of_zero_le vb.1
 rw[Int.toNat_natCast,Int.toNat_natCast]at hres
 obtain ⟨d,hdd⟩:∃ d,n.domains[dom.toNat]'hkd=d:=⟨_,rfl⟩
 rw[hdd]at e2 hpe
 rw[e2]at hres
 have qc:=C2 d.peers peer hpe
 have qw:=An3 a c d.vni f qn qn h
 (refine rg ?_;(conv=>whnf);refine aF ?_;refine rg ?_;conv=>whnf)
 refine⟨E,hd0,hkd,?_⟩
 rw[hdd]
 conv=>whnf
 refine Ag qc F25 E E E E E ?_
 cases hi:inB d.peers peer
 ·rw[if_pos hi]at hres
  subst hres
  (refine rg ?_;(conv=>whnf);refine aT ?_;refine rg ?_;conv=>whnf)
  refine Ap 8 1 Ao E ?_
  exact Ac E (.cons .tmp (.cons .tmp .nil)) E E
 rw[if_neg (by rw[hi];decide)]at hres
 subst hres
 (refine rg ?_;(conv=>whnf);refine aF ?_;refine rg ?_;conv=>whnf)
 refine Aq qa F304 E E E qq E ?_
 refine rd qq ?_;conv=>whnf
 refine Aq qb F304 E E E qq E ?_
 refine rd qq ?_;conv=>whnf
 refine⟨E,hd0,hkd,?_⟩
 rw[hdd]
 conv=>whnf
 refine Aq qw F303 E E E qq E ?_
 refine rd qq ?_;conv=>whnf
 refine⟨qq,?_⟩
 conv=>whnf
 exact Ac E (.cons .tmp (.cons .tmp .nil)) E E
end Go.Sy.YteinjapglfkamaaGreat
