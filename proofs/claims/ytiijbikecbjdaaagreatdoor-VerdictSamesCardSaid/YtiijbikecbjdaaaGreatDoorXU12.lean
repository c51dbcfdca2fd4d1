/-
  K32 K33 K34 Sy24 T1 T2 T3 T4 V6 V7 V8 T5 T6 T7 T8 T9 T10 T11 T12 T13 T15 T16 T17: parts of a proof, joined by program.
-/
import Derived.Test.YtiijbikecbjdaaaGreatDoorXU11
import Derived.Test.YtiijbikecbjdaaaGreatDoorXU4
import Derived.Test.YtiijbikecbjdaaaGreatDoorXU6
set_option linter.all false
set_option linter.unusedVariables false
set_option linter.unusedSimpArgs false
set_option linter.deprecated false
namespace Go.Sy.YtiijbikecbjdaaaGreatDoor
open Go.Proofs
attribute [local irreducible] Go.Sy.G Go.Sy.DR
set_option maxRecDepth 100000
set_option maxHeartbeats 4000000
theorem Au1 (a b:List UInt8):((⟨a.toArray⟩:ByteArray) == (⟨b.toArray⟩:ByteArray))=decide (a=b):=by
 have key:=Go.MapKept.bytes_beq (⟨a.toArray⟩:ByteArray) ⟨b.toArray⟩
 by_cases h:a=b
 ·subst h
  rw[zR rfl]
  exact key.2 E
 ·rw[zI h]
  cases hb:((⟨a.toArray⟩:ByteArray) == (⟨b.toArray⟩:ByteArray)) with
  | false=>rfl
  | true =>
   have:=zG (λ z:ByteArray=>z.data.toList) (key.1 hb)
   exact yB (by simpa using this) h
theorem Avv (x y z:UInt8):bits .or .i64 (bits .or .i64 (IntKind.i64.wrap ((IntKind.i64.wrap (x.toNat:Int)) * 2 ^ min (Int.toNat 16) IntKind.i64.bits)) (IntKind.i64.wrap ((IntKind.i64.wrap (y.toNat:Int)) * 2 ^ min (Int.toNat 8) IntKind.i64.bits))) (IntKind.i64.wrap (z.toNat:Int))
  = (((x.toNat * 256+y.toNat) * 256+z.toNat:Nat):Int):=by
 have h1:=x.toNat_lt
 have h2:=y.toNat_lt
 have h3:=z.toNat_lt
 have e1:IntKind.i64.wrap (x.toNat:Int)=(x.toNat:Int):=by rw[IntKind.wrap_i64];omega
 have e2:IntKind.i64.wrap (y.toNat:Int)=(y.toNat:Int):=by rw[IntKind.wrap_i64];omega
 have e3:IntKind.i64.wrap (z.toNat:Int)=(z.toNat:Int):=by rw[IntKind.wrap_i64];omega
 rw[e1,e2,e3]
 have f1:IntKind.i64.wrap ((x.toNat:Int) * 2 ^ min (Int.toNat 16) IntKind.i64.bits)=((x.toNat * 65536:Nat):Int):=by
  show IntKind.i64.wrap ((x.toNat:Int) * 65536)=_
  rw[IntKind.wrap_i64]
  omega
 have f2:IntKind.i64.wrap ((y.toNat:Int) * 2 ^ min (Int.toNat 8) IntKind.i64.bits)=((y.toNat * 256:Nat):Int):=by
  show IntKind.i64.wrap ((y.toNat:Int) * 256)=_
  rw[IntKind.wrap_i64]
  omega
 rw[f1,f2,Ed _ _ q_ q_]
 have g1:x.toNat * 65536 ||| y.toNat * 256=x.toNat * 65536+y.toNat * 256:=by
  have h:=xD (i:=16) (b:=y.toNat * 256) q_ x.toNat
  rw[vH x.toNat 65536]
  exact h.symm
 rw[g1,Ed _ _ q_ q_]
 refine zG (λ n:Nat=>(n:Int)) ?_
 have h:256 * (x.toNat * 256+y.toNat)+z.toNat=256 * (x.toNat * 256+y.toNat) ||| z.toNat:=xD (i:=8) (b:=z.toNat) q_ (x.toNat * 256+y.toNat)
 have e:x.toNat * 65536+y.toNat * 256=256 * (x.toNat * 256+y.toNat):=by omega
 rw[e,← h]
 omega
theorem vniS (b:List UInt8) (hb:b.length<100000):Sp 379 [.sl 1 Ah b] (.tup [Aa (vniT b).1,.sl 1 Ah (vniT b).2.1,Aa (vniT b).2.2]):=cT F379 Tryz.ntmps379 λ F hF=>by
 have hres:=vniT.eq_1 b
 generalize vniT b=res at *
 conv=>whnf
 constructor<;>intro h
 ·rw[zE (qA h)]at hres
  subst hres
  refine oO ?_
  refine Am 3 1 Ah E ?_
  exact dN
 have h8:8≤b.length:=qB h
 rw[zD q_]at hres
 clear h
 have i4:(4:Int).toNat<b.length:=by show 4<_;omega
 have i5:(5:Int).toNat<b.length:=by show 5<_;omega
 have i6:(6:Int).toNat<b.length:=by show 6<_;omega
 have hv:bits .or .i64 (bits .or .i64 (IntKind.i64.wrap ((IntKind.i64.wrap ((b[(4:Int).toNat]'i4).toNat:Int)) * 2 ^ min (Int.toNat 16) IntKind.i64.bits)) (IntKind.i64.wrap ((IntKind.i64.wrap ((b[(5:Int).toNat]'i5).toNat:Int)) * 2 ^ min (Int.toNat 8) IntKind.i64.bits))) (IntKind.i64.wrap ((b[(6:Int).toNat]'i6).toNat:Int))
   = (numAt b 4 3:Int):=by
  rw[Avv,numAt3 (show 4+3≤b.length by omega)]
  rfl
 have hvl:=M7 b 4 3
 refine oO ?_
 refine⟨E,by decide,i4,?_⟩
 conv=>whnf
 refine⟨by decide,?_⟩
 conv=>whnf
 refine⟨E,by decide,i5,?_⟩
 conv=>whnf
 refine⟨by decide,?_⟩
 conv=>whnf
 refine⟨E,by decide,i6,?_⟩
 conv=>whnf
 refine⟨z_,?_⟩
 rw[hv]
 generalize hvv:numAt b 4 3=v at *
 conv=>whnf
 by_cases h0:v=0
 ·rw[zE (.inl h0)]at hres
  subst hres
  have q:=Arx v (by rw[h0];decide)
  refine c0 q F345 ?_
  (refine rg ?_;(conv=>whnf);refine aT ?_;refine oD ?_)
  refine⟨z_,?_⟩
  ((conv=>whnf);refine aT ?_;refine rg ?_;conv=>whnf)
  refine Am 3 1 Ah E ?_
  exact dN
 have q:=Ayb v q_
 refine Af (Ad [(0,55)] E F345 q E Y E ⟨.inr E,Y⟩) E E ?_
 refine Ag 55 E ?_
 (refine rg ?_;(conv=>whnf);refine aF ?_;refine oD ?_)
 refine Br (Cd Γ.toTy (bs:=Qy v) E E E E E E E .sl) z_ E ?_
 refine oD ?_
 refine Br (Dc (lo:=0) (hi:=8) Γ.toTy E E E E (.inl ⟨E,E⟩) (.inr ⟨_,_,E,E⟩) q_ h8) z_ E ?_
 refine oD ?_
 refine Br (Cd Γ.toTy (bs:=b.take 8) E E E E E E E .sl) z_ E ?_
 refine oD ?_
 refine kW ?_
 have hbe:=Au1 (Qy v) (b.take 8)
 rw[hbe]
 by_cases he:b.take 8=Qy v
 rotate_left
 ·rw[zE (.inr he)]at hres
  subst hres
  rw[zI (λ e=>he e.symm)]
  refine⟨λ _=>?_,λ h=>yB h j_⟩
  refine oO ?_
  refine Am 3 1 Ah E ?_
  exact dN
 rw[zD (λ h=>h.elim h0 (λ h2=>h2 he))]at hres
 subst hres
 rw[zR he.symm]
 have etk:(b.take b.length).drop 8=b.drop 8:=by rw[yG]
 refine⟨λ h=>yB h j_,λ _=>?_⟩
 refine oO ?_
 refine Af (Dc (lo:=8) (hi:=b.length) Γ.toTy E E E E (.inr ⟨_,_,E,E⟩) (.inl ⟨E,E⟩) h8 (yC _)) E E ?_
 refine oO ?_
 refine Af (Ae Γ.toTy 45 E E E E E .nil .sl y_ (by simp;omega) (by simp;omega)) E E ?_
 refine Ag 45 E ?_
 refine oO ?_
 refine Aq E (.cons .tmp (.cons .tmp (.cons .tmp .nil))) ?_ E
 show SV.tup [_,.sl 1 Ah (b.drop 8),_]=SV.tup [_,.sl 1 Ah ([]++(b.take b.length).drop 8),_]
 rw[etk]
 rfl
theorem Ama (a c v:Nat) (f:FrameM) (h:f.body.length≤1450):ipPutT (Ut a c v f)=(Abr (Ut a c v f),0):=by
 rw[ipPutT,zD (by rw[Ky];omega)]
theorem Anq (a b:Nat):udpPort a b≤65535:=by
 have:=tG (a ^^^ b) (show 0<16384 by decide)
 unfold udpPort
 omega
theorem Aw5 (a c v:Nat) (f:FrameM) (ha:a<4294967296) (hc:c<4294967296) (h:f.body.length≤1450):FrameOK ⟨Kf c,Kf a,2048,Abr (Ut a c v f)⟩ :=
 ⟨Ad7 c hc,Ad7 a ha,by show (2048:Nat)≤65535;decide,by show (Abr (Ut a c v f)).length≤1504;rw[Ta,Ky];omega⟩
theorem Azo (a c:Nat) (v:Int) (f:FrameM) (ha:a<4294967296) (hc:c<4294967296) (hf:FrameOK f) :
  Sp 284 [A6 a,A6 c,Aa v,Cy f] (.tup [.sl 1 Ah (wrapT a c v f).1,Aa (wrapT a c v f).2]):=cT F284 Tryz.ntmps284 λ F hF=>by
 have hres:=wrapT.eq_1 a c v f
 generalize wrapT a c v f=res at *
 have q0:=Tz f
 have hd:=hf.dst
 have hs:=hf.src
 have hb:=hf.body
 have hpl:=I1 f
 conv=>whnf
 refine A7 7 4 (Cy f) E E E ?_
 by_cases ht:f.typ=33024
 ·rw[zE ht]at hres
  subst hres
  rw[zR ht]at q0
  refine oO ?_
  refine c0 q0 F160 ?_
  refine oT ?_
  refine Am 8 1 Ah E ?_
  exact dN
 rw[zD ht]at hres
 rw[zI ht]at q0
 refine oO ?_
 refine c0 q0 F160 ?_
 refine oF ?_
 refine Af (Ad [(0,55)] E F90 (K8 f hf) E Y E ⟨.inr E,Y⟩) E E ?_
 refine Ag 55 E ?_
 refine oF ?_
 cases hv:Yz v
 rotate_left
 ·rw[zE hv]at hres
  subst hres
  refine c0 (Arx v hv) F345 ?_
  refine oT ?_
  refine Am 8 1 Ah E ?_
  exact dN
 rw[zD (by rw[hv];decide)]at hres
 have hvg:=Avk hv
 obtain ⟨k,rfl⟩:=xA (show 0≤v by omega)
 rw[yL]at hres
 refine Af (Ad [(0,56)] E F345 (Ayb k q_) E Y E ⟨.inr E,Y⟩) E E ?_
 refine oF ?_
 constructor<;>intro h
 ·rw[zE (qA h)]at hres
  subst hres
  refine oO ?_
  refine Am 8 1 Ah E ?_
  exact dN
 have hl:f.body.length≤1450:=qB h
 rw[zD q_]at hres
 subst hres
 clear h
 have qp:=Avr f.dst f.src q_ q_
 have hpo:=Anq f.dst f.src
 have qu:=Azs (udpPort f.dst f.src) 4789 (Qy k++Xc f) hpo j_ (by rw[yE,K7,hpl];omega)
 have hwb:(Ut a c k f).body=Avq (udpPort f.dst f.src) 4789 (Qy k++Xc f):=rfl
 have qi:=Ai8 (Ut a c k f) (Avg a c k f ha hc) (by rw[Ky];omega)
 rw[Ama a c k f hl]at qi
 have qe:=K8 _ (Aw5 a c k f ha hc hl)
 refine oO ?_
 refine c0 qp F347 ?_
 refine oO ?_
 refine Af (Ae Γ.toTy 46 E E E E E (.row E) .sl j_ (by rw[K7,hpl];simp;omega) (by rw[K7,hpl];omega)) E E ?_
 refine Ag 46 E ?_
 refine oO ?_
 refine c0 qu F346 ?_
 refine oO ?_
 refine c0 qi F157 ?_
 refine oO ?_
 refine c0 (Ahb c hc) F158 ?_
 refine oO ?_
 refine c0 (Ahb a ha) F158 ?_
 refine oO ?_
 refine Af (Ad [(0,57)] E F90 qe E Y E ⟨.inr E,Y⟩) E E ?_
 refine Ag 57 E ?_
 refine oO ?_
 exact dN
def Dz (p:PacketM) (v e:Int):List SV:=[Aa p.tos,Aa p.id,Aa p.ttl,Aa p.proto,A6 p.src,A6 p.dst,.sl 1 Ah p.body,Aa v,Aa e]
def Db (is:Bool) (re e:Int):Int:=if is=true∧re=0 then e else re
theorem Yb (p:PacketM) (v re:Int) (is:Bool) (e:Int):Sq 377 [.ptr 0 0,Ab is,Aa e] [(0,.box (Dz p v re))] (.tup []) [(0,.box (Dz p v (Db is re e)))]:=cT F377 Tryz.ntmps377 λ F hF=>by
 cases is
 ·have h:Db false re e=re:=by simp[Db]
  rw[h]
  ((conv=>whnf);refine aF ?_;refine rg ?_;(conv=>whnf);refine aF ?_;refine rg ?_;conv=>whnf)
  exact A1 E .nil [] [(0,.box (Dz p v re))] (λ _ h=>h) E E ⟨Y,⟨.inl E,E,Y⟩,E,E⟩
 ·((conv=>whnf);refine aT ?_;refine rg ?_;conv=>whnf)
  constructor<;>intro h
  ·have h2:Db true re e=e:=by show (if true=true∧re=0 then e else re)=e;rw[zE ⟨rfl,by simpa using h⟩]
   rw[h2]
   refine oO ?_
   exact A1 E .nil [] [(0,.box (Dz p v e))] (λ _ h=>h) E E ⟨Y,⟨.inl E,E,Y⟩,E,E⟩
  ·have h2:Db true re e=re:=by
    show (if true=true∧re=0 then e else re)=re
    rw[zD (λ h3=>by
     have h4:¬ re=0:=by simpa using h
     exact h4 h3.2)]
   rw[h2]
   refine oO ?_
   exact A1 E .nil [] [(0,.box (Dz p v re))] (λ _ h=>h) E E ⟨Y,⟨.inl E,E,Y⟩,E,E⟩
theorem Az6 (b:List UInt8) (hb:b.length<100000):Sq 348 [.ptr 0 0,.sl 1 Ah b] [(0,.box (Dz noP 0 0))] (.tup []) [(0,.box (Dz (outerT b).1 0 (outerT b).2))]:=cT F348 Tryz.ntmps348 λ F hF=>by
 have hres:=outerT.eq_1 b
 generalize outerT b=res at *
 have q1:=Qj b hb
 have hbad:=@Asq b
 have hok:=@Acm b
 generalize takeF b=tk at *
 obtain ⟨f,e⟩:=tk
 dsimp only at hres q1 hbad hok
 conv=>whnf
 refine c0 q1 F88 ?_
 refine oO ?_
 refine Af (Ad [(0,0)] E F377 (Yb noP 0 0 true e) E ⟨E,Y⟩ E ⟨.inl E,Y⟩) E E ?_
 rw[show Db true 0 e=e by simp[Db]]
 refine oO ?_
 refine Af (Ad [(0,0)] E F377 (Yb noP 0 e ((f.typ:Int) != 2048) 11) E ⟨E,Y⟩ E ⟨.inl E,Y⟩) E E ?_
 by_cases he:e=0
 rotate_left
 ·rw[zE he]at hres
  subst hres
  rw[show Db ((f.typ:Int) != 2048) e 11=e by simp[Db,he]]
  refine oO ?_
  refine⟨λ h=>yB (show e=0 by simpa using h) he,λ _=>?_⟩
  refine oO ?_
  exact A1 E .nil [] [(0,.box (Dz noP 0 e))] (λ _ h=>h) E E ⟨Y,⟨.inl E,E,Y⟩,E,E⟩
 subst he
 rw[zD y_]at hres
 by_cases ht:f.typ=2048
 rotate_left
 ·rw[zE ht]at hres
  subst hres
  have hb2:((f.typ:Int) != 2048)=true:=by simp;omega
  rw[hb2,show Db true 0 11=11 by simp[Db]]
  refine oF ?_
  exact A1 E .nil [] [(0,.box (Dz noP 0 11))] (λ _ h=>h) E E ⟨Y,⟨.inl E,E,Y⟩,E,E⟩
 rw[zD (λ h=>h ht)]at hres
 have hb2:((f.typ:Int) != 2048)=false:=by simp;omega
 rw[hb2,show Db false 0 11=0 by simp[Db]]
 have hfb:=(hok rfl).body
 have q2:=Arv f.body q_
 have hib:=@A1q f.body
 generalize ipTakeT f.body=ip at *
 obtain ⟨p,e2⟩:=ip
 dsimp only at hres q2 hib
 refine oT ?_
 refine c0 q2 F277 ?_
 refine oO ?_
 refine Af (Ad [(0,0)] E F377 (Yb p 0 0 true e2) E ⟨E,Y⟩ E ⟨.inl E,Y⟩) E E ?_
 rw[show Db true 0 e2=e2 by simp[Db]]
 refine oO ?_
 refine Af (Ad [(0,0)] E F377 (Yb p 0 e2 ((p.proto:Int) != 17) 11) E ⟨E,Y⟩ E ⟨.inl E,Y⟩) E E ?_
 have hfin:res=(p,Db ((p.proto:Int) != 17) e2 11):=by
  by_cases h2:e2=0
  ·subst h2
   rw[zD y_]at hres
   rw[hres]
   simp only[Db]
   by_cases h3:p.proto=17
   ·rw[zD (by simp[h3]),zD (by simp[h3])]
   ·rw[zE h3,zE (by simp;omega)]
  ·rw[zE h2]at hres
   rw[hres,hib h2,show Db ((noP.proto:Int) != 17) e2 11=e2 by simp[Db,h2]]
 rw[hfin]
 refine oO ?_
 exact A1 E .nil [] [(0,.box (Dz p 0 (Db ((p.proto:Int) != 17) e2 11)))] (λ _ h=>h) E E ⟨Y,⟨.inl E,E,Y⟩,E,E⟩
def frameT (p:PacketM) (e:Int):FrameM × Int × Int :=
 if e≠0 then (noF,0,e) else if (udpTakeT p.body).2.2.2≠0 then (noF,0,(udpTakeT p.body).2.2.2) else if (udpTakeT p.body).2.1≠4789 then (noF,0,11)
 else if (vniT (udpTakeT p.body).2.2.1).2.2≠0 then (noF,(vniT (udpTakeT p.body).2.2.1).1,(vniT (udpTakeT p.body).2.2.1).2.2)
 else ((takeF (vniT (udpTakeT p.body).2.2.1).2.1).1,(vniT (udpTakeT p.body).2.2.1).1,
  if (takeF (vniT (udpTakeT p.body).2.2.1).2.1).2≠0 then (takeF (vniT (udpTakeT p.body).2.2.1).2.1).2 else if (takeF (vniT (udpTakeT p.body).2.2.1).2.1).1.typ=33024 then 15 else 0)
theorem frameS (p:PacketM) (e:Int) (hb:p.body.length<100000):Sq 349 [.ptr 0 0] [(0,.box (Dz p 0 e))] (Cy (frameT p e).1) [(0,.box (Dz p (frameT p e).2.1 (frameT p e).2.2))]:=cT F349 Tryz.ntmps349 λ F hF=>by
 have hres:=frameT.eq_1 p e
 generalize frameT p e=res at *
 have q1:=Avp p.body hb
 have hul:=@Azk p.body
 generalize udpTakeT p.body=u at *
 obtain ⟨u1,u2,u3,u4⟩:=u
 dsimp only at hres q1 hul
 have q2:=vniS u3 q_
 have hvl:=@vniT_body u3
 generalize vniT u3=w at *
 obtain ⟨w1,w2,w3⟩:=w
 dsimp only at hres q2 hvl
 have q3:=Qj w2 q_
 have hbad:=@Asq w2
 generalize takeF w2=t at *
 obtain ⟨f,t2⟩:=t
 dsimp only at hres q3 hbad
 conv=>whnf
 constructor<;>intro h
 ·rw[zE (by simpa using h)]at hres
  subst hres
  refine oO ?_
  refine Ai 2 zF E vL ?_
  exact done E (.cons (.cell E E E E) .nil) [] [(0,.box (Dz p 0 e))] (λ _ h=>h) E E ⟨Y,⟨.inl E,E,Y⟩,E,E⟩
 have he:e=0:=by simpa using h
 clear h
 subst he
 rw[zD y_]at hres
 refine oO ?_
 refine c0 q1 F378 ?_
 refine oO ?_
 refine Af (Ad [(0,0)] E F377 (Yb p 0 0 true u4) E ⟨E,Y⟩ E ⟨.inl E,Y⟩) E E ?_
 rw[show Db true 0 u4=u4 by simp[Db]]
 refine oO ?_
 refine Af (Ad [(0,0)] E F377 (Yb p 0 u4 (u2 != 4789) 11) E ⟨E,Y⟩ E ⟨.inl E,Y⟩) E E ?_
 by_cases h4:u4=0
 rotate_left
 ·rw[zE h4]at hres
  subst hres
  rw[show Db (u2 != 4789) u4 11=u4 by simp[Db,h4]]
  refine oO ?_
  refine⟨λ h=>yB (show u4=0 by simpa using h) h4,λ _=>?_⟩
  refine oO ?_
  refine⟨λ _=>?_,λ h=>yB (show u4=0 by simpa using h) h4⟩
  refine oO ?_
  refine Ai 2 zF E vL ?_
  exact done E (.cons (.cell E E E E) .nil) [] [(0,.box (Dz p 0 u4))] (λ _ h=>h) E E ⟨Y,⟨.inl E,E,Y⟩,E,E⟩
 subst h4
 rw[zD y_]at hres
 by_cases h2:u2=4789
 rotate_left
 ·rw[zE h2]at hres
  subst hres
  rw[show Db (u2 != 4789) 0 11=11 by simp[Db,h2]]
  (refine oF ?_;refine bT ?_)
  refine Ai 2 zF E vL ?_
  exact done E (.cons (.cell E E E E) .nil) [] [(0,.box (Dz p 0 11))] (λ _ h=>h) E E ⟨Y,⟨.inl E,E,Y⟩,E,E⟩
 rw[zD (λ h=>h h2)]at hres
 rw[show Db (u2 != 4789) 0 11=0 by simp[Db,h2]]
 refine oT ?_
 refine c0 q2 F379 ?_
 refine oO ?_
 refine Af (Ad [(0,0)] E F377 (Yb p w1 0 true w3) E ⟨E,Y⟩ E ⟨.inl E,Y⟩) E E ?_
 rw[show Db true 0 w3=w3 by simp[Db]]
 refine oO ?_
 constructor<;>intro h
 ·rw[zE (by simpa using h)]at hres
  subst hres
  refine oO ?_
  refine Ai 2 zF E vL ?_
  exact done E (.cons (.cell E E E E) .nil) [] [(0,.box (Dz p w1 w3))] (λ _ h=>h) E E ⟨Y,⟨.inl E,E,Y⟩,E,E⟩
 have h3:w3=0:=by simpa using h
 clear h
 subst h3
 rw[zD y_]at hres
 refine oO ?_
 refine c0 q3 F88 ?_
 refine oO ?_
 refine Af (Ad [(0,0)] E F377 (Yb p w1 0 true t2) E ⟨E,Y⟩ E ⟨.inl E,Y⟩) E E ?_
 rw[show Db true 0 t2=t2 by simp[Db]]
 refine oO ?_
 refine c0 (Tz f) F160 ?_
 refine oO ?_
 refine Af (Ad [(0,0)] E F377 (Yb p w1 t2 (decide (f.typ=33024)) 15) E ⟨E,Y⟩ E ⟨.inl E,Y⟩) E E ?_
 have hfin:Db (decide (f.typ=33024)) t2 15=if t2≠0 then t2 else if f.typ=33024 then 15 else 0:=by
  by_cases k1:t2=0
  ·subst k1
   rw[zD y_]
   by_cases k2:f.typ=33024<;>simp[Db,k2]
  ·rw[zE k1]
   simp[Db,k1]
 rw[← hfin]at hres
 subst hres
 refine oO ?_
 exact done E (.cons (.cell E E E E) .nil) [] [(0,.box (Dz p w1 (Db (decide (f.typ=33024)) t2 15)))] (λ _ h=>h) E E ⟨Y,⟨.inl E,E,Y⟩,E,E⟩
theorem Ah6 (b:List UInt8):Ci b=if (frameT (outerT b).1 (outerT b).2).2.2≠0 then (0,0,0,noF,(frameT (outerT b).1 (outerT b).2).2.2)
  else ((outerT b).1.src,(outerT b).1.dst,(frameT (outerT b).1 (outerT b).2).2.1,(frameT (outerT b).1 (outerT b).2).1,0):=by
 unfold Ci
 generalize outerT b=o
 obtain ⟨p,e⟩:=o
 dsimp only
 by_cases he:e=0
 rotate_left
 ·rw[zE he]
  have h1:frameT p e=(noF,0,e):=by rw[frameT,zE he]
  rw[h1,zE he]
 subst he
 rw[zD y_]
 unfold Mu frameT
 rw[zD (show ¬ (0:Int)≠0 by simp)]
 generalize udpTakeT p.body=u
 obtain ⟨u1,u2,u3,u4⟩:=u
 dsimp only
 by_cases h4:u4=0
 rotate_left
 ·rw[zE h4,zE h4,zE h4]
  dsimp only
  rw[zE h4]
 subst h4
 simp only[ne_eq,not_true_eq_false,if_false]
 by_cases h2:u2=4789
 rotate_left
 ·simp[h2]
 simp only[h2,not_true_eq_false,if_false]
 generalize vniT u3=w
 obtain ⟨w1,w2,w3⟩:=w
 dsimp only
 by_cases h3:w3=0
 rotate_left
 ·simp[h3]
 simp only[h3,not_true_eq_false,if_false]
 generalize takeF w2=t
 obtain ⟨f,t2⟩:=t
 dsimp only
 by_cases k1:t2=0
 ·by_cases k2:f.typ=33024<;>simp[k1,k2]
 ·simp[k1]
theorem Asj (b:List UInt8) (hb:b.length<100000) :
  Sp 288 [.sl 1 Ah b] (.tup [A6 (Ci b).1,A6 (Ci b).2.1,Aa (Ci b).2.2.1,Cy (Ci b).2.2.2.1,Aa (Ci b).2.2.2.2]):=cT F288 Tryz.ntmps288 λ F hF=>by
 have hres:=Ah6 b
 generalize Ci b=res at *
 have q1:=Az6 b hb
 have hol:=(Zm b).2
 generalize outerT b=o at *
 obtain ⟨p,e⟩:=o
 dsimp only at hres q1 hol
 have q2:=frameS p e q_
 generalize frameT p e=fr at *
 obtain ⟨f,v,e2⟩:=fr
 dsimp only at hres q2
 conv=>whnf
 refine Ai 9 (Dz noP 0 0) E vL ?_
 refine oO ?_
 refine Af (Ad [(0,9)] E F348 q1 E ⟨E,Y⟩ E ⟨.inl E,Y⟩) E E ?_
 refine oO ?_
 refine Af (Ad [(0,9)] E F349 q2 E ⟨E,Y⟩ E ⟨.inl E,Y⟩) E E ?_
 refine oO ?_
 constructor<;>intro h
 ·rw[zE (by simpa using h)]at hres
  subst hres
  refine oO ?_
  refine kW ?_
  refine Ai 5 zF E vL ?_
  exact dN
 rw[zD (by simpa using h)]at hres
 subst hres
 refine oO ?_
 refine kW ?_
 exact dN
end Go.Sy.YtiijbikecbjdaaaGreatDoor
namespace Go.Sy
structure Meth (P:Program) (t:TypeId) (name:String) (f:FuncId) (pr:Bool) (e:TypeId):Prop where
 row:∃ i m,P.info? t=some i∧i.methods.find? (·.name == name)=some m∧m.path=#[]∧m.func=some (f,pr)
 under:P.underlying t=some (.pointer e)
theorem Acz {P:Program} {t:TypeId} {name:String} {f:FuncId} {e:TypeId} (hm:Meth P t name f true e) (w:World) (v:Value):(Go.method (P.types.size+Made.depth) t v name).run P w=.ok (f,v) w:=by
 obtain ⟨⟨i,m,h1,h2,h3,h4⟩,hu⟩:=hm
 show (Go.method (P.types.size+99+1) t v name).run P w=_
 rw[Go.method]
 simp only[Sem.run_bind,run_typeInfo w h1,Result.andThen_ok,h2,h3,Go.follow,Sem.run_pure,h4,Go.receiverAt,run_underlying hu,Go.Place.get]
theorem Acy {P:Program} {t:TypeId} {name:String} {f:FuncId} {e:TypeId} (hm:Meth P t name f false e) (w:World) (a:Addr) {v:Value} (hv:(loadVar e a).run P w=.ok v w):(Go.method (P.types.size+Made.depth) t (.pointer (some a)) name).run P w=.ok (f,v) w:=by
 obtain ⟨⟨i,m,h1,h2,h3,h4⟩,hu⟩:=hm
 show (Go.method (P.types.size+99+1) t (.pointer (some a)) name).run P w=_
 rw[Go.method]
 have he:(#[]:Array FieldStep).isEmpty=true:=rfl
 simp only[Sem.run_bind,run_typeInfo w h1,Result.andThen_ok,h2,h3,Go.follow,Sem.run_pure,h4,Go.receiverAt,run_underlying hu,Go.Place.get,he,if_true]
 have hs : ∀ n : String, (Builtin.ssaWrapNilChk_ #[t] t #[.pointer (some a), strVal "", strVal n]).run P w = .ok (.pointer (some a)) w := λ n => rfl
 simp only[hs,Result.andThen_ok,asAddr,Sem.run_pure,hv]
theorem Vj {P:Program} {o:Oper} {s:SS} {rd:List Nat} {f:FuncId} {fn:Func} {c:Code} {t e:TypeId} {name:String} {x:Operand} {xs:List Operand} {ts:Array TypeId} {y:SV} (hm:Meth P t name f true e) (hf:Fun P f fn c) (h:o.op=.call ⟨.invoke x name,xs.toArray,ts⟩) (hx:ev s x=.ifc t y) :
  Qt P o s rd f (y::xs.map (ev s)) :=
 λ κ a w hr _=>by
  have h1:=hr x (by simp[h,Op.operands,Call.operands])
  rw[hx]at h1
  simp only[Rd]at h1
  obtain ⟨u,e1,e2⟩:=h1
  refine⟨u::xs.map a.eval,?_,?_⟩
  ·have hcall:=K0 hf (u::xs.map a.eval).toArray w
   have hmeth:=Acz hm w u
   simp only[execOp,h,resolve,invoke,e1,Sem.run_bind,Sem.run_pure,Result.andThen_ok]at hcall ⊢
   simp only[callMethod]
   rw[← hcall]
   have htk:(xs.map a.eval).take xs.length=xs.map a.eval:=xC y_
   simp[hmeth,Sem.run_bind,htk]
  ·simp only[RdL]
   exact⟨_,_,E,e2,Mj xs (λ y hy=>hr y (by simp[h,Op.operands,Call.operands,hy]))⟩
theorem Bs {P:Program} (Γ:Ty P) {o:Oper} {s:SS} {f:FuncId} {fn:Func} {c:Code} {t e:TypeId} {ti:TI} {name:String} {x:Operand} {xs:List Operand} {ts:Array TypeId} {k off:Nat} {l:List SV} {z:SV} (hm:Meth P t name f false e) (hf:Fun P f fn c) (h:o.op=.call ⟨.invoke x name,xs.toArray,ts⟩)
  (hx:ev s x=.ifc t (.ptr k off)) (hk:s.h k=.box l) (ht:Γ.get e=some ti) (hz:Lp ti l off=some z):Qt P o s [k] f (z::xs.map (ev s)) :=
 λ κ a w hr ho=>by
  have h1:=hr x (by simp[h,Op.operands,Call.operands])
  rw[hx]at h1
  simp only[Rd]at h1
  obtain ⟨u,e1,e2⟩:=h1
  have hob:=ho k y_
  rw[hk]at hob
  obtain ⟨b,f1,f2⟩:=hob.cellsAt
  rw[f1]at e2
  simp only at e2
  subst e2
  obtain ⟨v,g1,g2⟩:=Le (P:=P) Γ ht f2 hz
  rw[wD]at g1
  refine⟨v::xs.map a.eval,?_,?_⟩
  ·have hcall:=K0 hf (v::xs.map a.eval).toArray w
   have hmeth:=Acy hm w ⟨b,off,none⟩ g1
   simp only[execOp,h,resolve,invoke,e1,Sem.run_bind,Sem.run_pure,Result.andThen_ok]at hcall ⊢
   simp only[callMethod]
   rw[← hcall]
   have htk:(xs.map a.eval).take xs.length=xs.map a.eval:=xC y_
   simp[hmeth,Sem.run_bind,htk]
  ·simp only[RdL]
   exact⟨_,_,E,g2,Mj xs (λ y hy=>hr y (by simp[h,Op.operands,Call.operands,hy]))⟩
theorem Aay {P:Program} (Γ:Ty P) {o:Oper} {s:SS} {x:Operand} {xt t:TypeId} {ti:TI} {y:SV} {ok:Bool} (h:o.op=.typeAssert x xt t ok) (hx:ev s x=.ifc t y) (ht:Γ.get t=some ti) (hk:ti.k matches .bool | .int _ | .string | .slice .. | .struct _ | .ptr | .func) :
  Good P o s ⟨if ok then .tup [y,Ab true] else y,[],[]⟩ :=
 Good.pure λ κ a w _ hr _=>by
  have h1:=hr x (by simp[h,Op.operands])
  rw[hx]at h1
  simp only[Rd]at h1
  obtain ⟨u,e1,e2⟩:=h1
  obtain ⟨d,info,z,k1,k2,_⟩:=Γ.ok t ti ht
  have hni:∀ ms,d≠.interface ms:=by
   obtain ⟨k,n,zz⟩:=ti
   intro ms hd
   subst hd
   cases k<;>simp_all[TK.ok]
  have hrun:(Instr.typeAssert (.iface t u) xt t ok).run P w=.ok (if ok then .tuple #[u,.bool true] else u) w:=by
   cases d<;>first
    | exact yB rfl (hni _)
    | (cases ok<;>simp[Instr.typeAssert,run_underlying k1])
  refine⟨if ok then .tuple #[u,.bool true] else u,by simp[execOp,h,e1,hrun],?_⟩
  cases ok
  ·exact e2
  ·simp only[if_true,Rd,RdL]
   exact⟨[u,.bool true],E,_,_,E,e2,_,_,E,by simp[Ab,Rd],E⟩
def A1o (P:Program) (t:TypeId) (name:String) (f:FuncId) (pr:Bool):Bool :=
 match P.info? t with
 | some i=>(match i.methods.find? (·.name == name) with
  | some m=>m.path.isEmpty && (match m.func with | some (g,b)=>Nat.beq g f && (b == pr) | none=>false)
  | none=>false)
 | none=>false
theorem Meth.of {P:Program} {t:TypeId} {name:String} {f:FuncId} {pr:Bool} {e:TypeId} (h:A1o P t name f pr=true) (hu:P.underlying t=some (.pointer e)):Meth P t name f pr e:=by
 refine⟨?_,hu⟩
 unfold A1o at h
 split at h
 ·rename_i i hi
  split at h
  ·rename_i m hm
   simp only[zH]at h
   obtain ⟨h1,h2⟩:=h
   split at h2
   ·rename_i g b hf
    simp only[zH,yF]at h2
    obtain ⟨h3,rfl⟩:=h2
    have h3:=yH h3
    subst h3
    exact⟨i,m,hi,hm,by simpa using h1,hf⟩
   ·cases h2
  ·cases h
 ·cases h
end Go.Sy
namespace Go.Sy.YtiijbikecbjdaaaGreatDoor
open Go.Proofs
attribute [local irreducible] Go.Sy.G Go.Sy.DR
set_option maxRecDepth 20000
set_option maxHeartbeats 4000000
structure Item where
 (root cost dev:Int)
instance:Inhabited Item:=⟨⟨0,0,0⟩⟩
def Bu (x:Item):SV:=.agg [Aa x.root,Aa x.cost,Aa x.dev]
def Cf (x y:Item):Bool:=decide (x.root<y.root) || (x.root == y.root && decide (x.cost<y.cost))
theorem Zj (q:List Item):Sp 267 [.sl 3 Bu q] (Aa q.length):=cT F267 Tryz.ntmps267 λ F hF=>by
 conv=>whnf
 exact dN
theorem Lj (q:List Item) (i j:Nat) (hi:i<q.length) (hj:j<q.length):Sp 417 [.sl 3 Bu q,Aa i,Aa j] (Ab (Cf q[i] q[j])):=cT F417 Tryz.ntmps417 λ F hF=>by
 have e1:q[(i:Int).toNat]'q_=q[i]:=rfl
 have e2:q[(j:Int).toNat]'q_=q[j]:=rfl
 conv=>whnf
 (repeat' (first | (refine⟨λ h=>?_,λ h=>?_⟩<;>(repeat (first | simp only[zQ]at h | simp only[zY]at h | simp only[yF]at h | simp only[zL]at h))<;>((refine rd z_ ?_);(conv=>whnf))) | (refine Aq rfl (.cons .tmp .nil) ?_ rfl) | (refine⟨z_,?_⟩;((conv=>whnf))) | (refine⟨by (omega),by (omega),?_⟩;((conv=>whnf)))))
 all_goals (refine zG Ab ?_;clear hF;grind [Cf])
theorem Li (q:List Item) (i j:Nat) (hi:i<q.length) (hj:j<q.length):Sq 420 [.osl 0,Aa i,Aa j] [(0,.row 3 Bu q)] (.tup []) [(0,.row 3 Bu ((q.set i q[j]).set j q[i]))]:=cT F420 Tryz.ntmps420 λ F hF=>by
 have e1:q[(i:Int).toNat]'q_=q[i]:=rfl
 have e2:q[(j:Int).toNat]'q_=q[j]:=rfl
 conv=>whnf
 refine⟨by omega,by omega,?_⟩
 conv=>whnf
 refine⟨E,by omega,?_⟩
 rw[e2]
 conv=>whnf
 refine⟨by omega,by omega,?_⟩
 conv=>whnf
 refine⟨E,by omega,?_⟩
 rw[e1]
 conv=>whnf
 refine⟨by omega,by omega,?_⟩
 conv=>whnf
 refine⟨E,by omega,q[j],E,E,?_⟩
 conv=>whnf
 refine⟨by omega,by simp;omega,?_⟩
 conv=>whnf
 refine⟨E,by simp;omega,q[i],E,E,?_⟩
 conv=>whnf
 refine kW ?_
 exact A1 E .nil [] [(0,.row 3 Bu ((q.set i q[j]).set j q[i]))] (λ _ h=>h) E E ⟨Y,⟨.inl E,E,Y⟩,E,E⟩
theorem Ao2 (q:List Item) (x:Item) (hq:q.length<1000000):Sq 419 [.ptr 0 0,.ifc 396 (Bu x)] [(0,.box [.osl 1]),(1,.row 3 Bu q)] (.tup []) [(0,.box [.osl 2]),(1,.non),(2,.row 3 Bu (q++[x]))]:=cT F419 Tryz.ntmps419 λ F hF=>by
 conv=>whnf
 refine Af (Aay Γ.toTy E E E E) E E ?_
 refine oT ?_
 refine Br (Ae Γ.toTy 18 E E E E E (.row E) (.lit (l:=[x]) E E) y_ (by simp;omega) (by simp;omega)) z_ E ?_
 refine oD ?_
 refine kW ?_
 exact A1 E .nil [(2,18)] [(0,.box [.osl 2]),(1,.non),(2,.row 3 Bu (q++[x]))] (λ _ h=>h) E E ⟨Y,⟨.inl E,E,.inl E,E,.inl E,E,Y⟩,E,E⟩
theorem Atl (q:List Item) (hq:q≠[]) (hl:q.length<1000000):Sq 418 [.ptr 0 0] [(0,.box [.osl 1]),(1,.row 3 Bu q)] (.ifc 396 (Bu (q.getLast hq))) [(0,.box [.osl 2]),(1,.non),(2,.row 3 Bu q.dropLast)]:=cT F418 Tryz.ntmps418 λ F hF=>by
 have h0:0<q.length:=xO.2 hq
 have e1:q[((q.length:Int)-1).toNat]'q_=q.getLast hq:=by
  rw[List.getLast_eq_getElem]
  congr 1
  omega
 conv=>whnf
 refine iW ?_
 refine⟨by omega,by omega,?_⟩
 conv=>whnf
 refine⟨E,by omega,?_⟩
 rw[e1]
 conv=>whnf
 refine kW ?_
 refine iW ?_
 refine Br (Ad9 Γ.toTy (d:=23) (hi:=q.length-1) E E E E E j_ E (.inl ⟨E,E⟩) (.inr ⟨_,_,E,zG (λ z=>SV.val (.int .i64 z)) q_⟩) q_) z_ E ?_
 rw[← List.dropLast_eq_take]
 refine oD ?_
 refine kW ?_
 exact done E (.cons .tmp .nil) [(2,23)] [(0,.box [.osl 2]),(1,.non),(2,.row 3 Bu q.dropLast)] (λ _ h=>h) E E ⟨Y,⟨.inl E,E,.inl E,E,.inl E,E,Y⟩,E,E⟩
end Go.Sy.YtiijbikecbjdaaaGreatDoor
namespace Go.Sy.YtiijbikecbjdaaaGreatDoor
open Go.Proofs
attribute [local irreducible] Go.Sy.G Go.Sy.DR
set_option maxRecDepth 100000
set_option maxHeartbeats 4000000
theorem mLen : Meth Tryz.prog 391 "Len" 267 false 393 := .of (by kernel_rfl) Tryz.underlying391
theorem Alx : Meth Tryz.prog 391 "Less" 417 false 393 := .of (by kernel_rfl) Tryz.underlying391
theorem Alw : Meth Tryz.prog 391 "Swap" 420 false 393 := .of (by kernel_rfl) Tryz.underlying391
theorem mPush : Meth Tryz.prog 391 "Push" 419 true 393 := .of (by kernel_rfl) Tryz.underlying391
theorem mPop : Meth Tryz.prog 391 "Pop" 418 true 393 := .of (by kernel_rfl) Tryz.underlying391
def Et (q:List Item) (i j:Nat):List Item:=(q.set i (q.getD j default)).set j (q.getD i default)
theorem Bb (q:List Item) (i j:Nat):(Et q i j).length=q.length:=by simp[Et]
def upF:Nat→List Item→Nat→List Item
 | 0,q,_=>q
 | n+1,q,j=>if j=0 then q else if Cf (q.getD j default) (q.getD ((j-1) / 2) default) then upF n (Et q ((j-1) / 2) j) ((j-1) / 2) else q
theorem Akc:∀ (n m:Nat) (q:List Item) (j:Nat),j≤n→j≤m→upF n q j=upF m q j
 | 0,m,q,j,h,_=>by
  have:j=0:=by omega
  subst this
  cases m<;>simp[upF]
 | n+1,0,q,j,_,h=>by
  have:j=0:=by omega
  subst this
  simp[upF]
 | n+1,m+1,q,j,h1,h2=>by
  rw[upF,upF]
  split
  ·rfl
  ·split
   ·exact Akc n m _ _ q_ q_
   ·rfl
theorem Avo (r:List Item):∀ (i:Nat),i≠0→upF i r i=if Cf (r.getD i default) (r.getD ((i-1) / 2) default) then upF ((i-1) / 2) (Et r ((i-1) / 2) i) ((i-1) / 2) else r
 | 0,h=>yB rfl h
 | m+1,_=>by
  rw[upF,zD q_]
  split
  ·exact Akc _ _ _ _ q_ q_
  ·rfl
theorem upS (q:List Item) (j:Nat) (hj:j<q.length) (hl:q.length<1000000) :
  Sq 325 [.ifc 391 (.ptr 0 0),Aa j] [(0,.box [.osl 1]),(1,.row 3 Bu q)] (.tup []) [(0,.box [.osl 1]),(1,.row 3 Bu (upF j q j))]:=cT F325 Tryz.ntmps325 λ F hF=>by
 conv=>whnf
 refine Tv (α:={p:List Item × Nat // upF p.2 p.1 p.2=upF j q j∧p.1.length=q.length∧p.2<p.1.length}) (λ p=>[(0,.ifc 391 (.ptr 0 0)),(1,Aa p.1.2)]) (λ p=>[(0,.box [.osl 1]),(1,.row 3 Bu p.1.1)]) (λ p=>p.1.2) ⟨(q,j),E,E,hj⟩ []
  ⟨⟨rfl,rfl,rfl,rfl,trivial⟩,⟨.inl rfl,rfl,.inl rfl,rfl,trivial⟩,rfl,rfl⟩ ?_
 rintro ⟨⟨r,i⟩,h1,h2,h3⟩
 simp only at h1 h2 h3
 dsimp only
 have hw:IntKind.i64.wrap (((i:Int)-1).tdiv 2)=(((i-1) / 2:Nat):Int):=by
  rcases vU i with h0 | h0
  ·subst h0;rfl
  ·have:((i:Int)-1)=((i-1:Nat):Int):=by omega
   rw[this,vP q_,IntKind.wrap_i64]
   omega
 refine oO ?_
 refine iW ?_
 refine⟨by decide,?_⟩
 rw[hw]
 conv=>whnf
 constructor<;>intro h
 ·have h0:i=0:=by
   have:(((i-1) / 2:Nat):Int)=i:=by simpa using h
   omega
  subst h0
  have e:upF j q j=r:=by rw[← h1];rfl
  rw[e]
  refine oT ?_
  exact A1 E .nil [] [(0,.box [.osl 1]),(1,.row 3 Bu r)] (λ _ h=>h) E E ⟨Y,⟨.inl E,E,.inl E,E,Y⟩,E,E⟩
 have h0:i≠0:=by
  intro h0
  subst h0
  exact yB h j_
 have hp:(i-1) / 2<r.length:=by omega
 have hless:=Lj r i ((i-1) / 2) h3 hp
 refine oO ?_
 refine Af (Ey [1] (Bs Γ.toTy Alx F417 E E E E E) hless (.cons (.row E E) (.cons (.refl _) (.cons (.refl _) .nil))) E E) E E ?_
 refine oO ?_
 have hu:upF i r i=if Cf r[i] r[(i-1) / 2] then upF ((i-1) / 2) (Et r ((i-1) / 2) i) ((i-1) / 2) else r:=by
  rw[Avo r i h0,Bi h3,Bi hp]
 constructor<;>intro h
 ·have hlt:Cf r[i] r[(i-1) / 2]=false:=by simpa using h
  have e:upF j q j=r:=by rw[← h1,hu,hlt];rfl
  rw[e]
  refine oO ?_
  exact A1 E .nil [] [(0,.box [.osl 1]),(1,.row 3 Bu r)] (λ _ h=>h) E E ⟨Y,⟨.inl E,E,.inl E,E,Y⟩,E,E⟩
 have hlt:Cf r[i] r[(i-1) / 2]=true:=by simpa using h
 rw[hlt,zE rfl]at hu
 have hsw:=Li r ((i-1) / 2) i hp h3
 have e:(r.set ((i-1) / 2) r[i]).set i r[(i-1) / 2]=Et r ((i-1) / 2) i:=by
  rw[Et,Bi h3,Bi hp]
 rw[e]at hsw
 refine oO ?_
 refine Af (As [(0,1)] (Bs Γ.toTy Alw F420 E E E E E) hsw E ⟨E,Y⟩ E ⟨.inl E,Y⟩) E E ?_
 refine oO ?_
 exact Vl (α:={p:List Item × Nat // upF p.2 p.1 p.2=upF j q j∧p.1.length=q.length∧p.2<p.1.length}) (L:=λ p=>[(0,.ifc 391 (.ptr 0 0)),(1,Aa p.1.2)]) (O:=λ p=>[(0,.box [.osl 1]),(1,.row 3 Bu p.1.1)]) (μ:=λ p=>p.1.2) (x:=⟨(r,i),h1,h2,h3⟩)
  ⟨(Et r ((i-1) / 2) i,(i-1) / 2),by rw[← h1,hu],by rw[Bb];exact h2,by rw[Bb];exact hp⟩ [] (by simp only;omega)
  ⟨⟨rfl,rfl,rfl,rfl,trivial⟩,⟨.inl rfl,rfl,.inl rfl,rfl,trivial⟩,rfl,rfl⟩
theorem Ach:∀ (n:Nat) (q:List Item) (j:Nat),(upF n q j).length=q.length
 | 0,q,j=>rfl
 | n+1,q,j=>by
  rw[upF]
  split
  ·rfl
  ·split
   ·rw[Ach n,Bb]
   ·rfl
def U2 (q:List Item) (x:Item):List Item:=upF q.length (q++[x]) q.length
theorem Ahd (q:List Item) (x:Item) (hl:q.length<999999) :
  Sq 266 [.ifc 391 (.ptr 0 0),.ifc 396 (Bu x)] [(0,.box [.osl 1]),(1,.row 3 Bu q)] (.tup []) [(0,.box [.osl 2]),(1,.non),(2,.row 3 Bu (U2 q x))]:=cT F266 Tryz.ntmps266 λ F hF=>by
 have hpush:=Ao2 q x q_
 have hlen:=Zj (q++[x])
 have hup:=upS (q++[x]) q.length y_ (by simp;omega)
 have hln:(((q++[x]).length:Nat):Int)-1=(q.length:Int):=by simp
 conv=>whnf
 refine Af (As (rd:=[]) [(2,6)] (Vj mPush F419 E E) hpush E ⟨E,E,Y⟩ E ⟨.inl E,.inl E,.inr E,Y⟩) E E ?_
 refine oO ?_
 refine Af (Ey [6] (Bs Γ.toTy mLen F267 E E E E E) hlen (.cons (.row E E) .nil) E E) E E ?_
 refine oO ?_
 refine⟨by unfold I64;simp;omega,?_⟩
 rw[hln]
 conv=>whnf
 refine Af (Ad [(1,6)] E F325 hup E ⟨E,E,Y⟩ E ⟨.inl E,.inl E,Y⟩) E E ?_
 refine oO ?_
 exact A1 E .nil [(2,6)] [(0,.box [.osl 2]),(1,.non),(2,.row 3 Bu (U2 q x))] (λ _ h=>h) E E ⟨Y,⟨.inl E,E,.inl E,E,.inl E,E,Y⟩,E,E⟩
def Ek (q:List Item) (i n:Nat):Nat:=if 2 * i+2<n∧Cf (q.getD (2 * i+2) default) (q.getD (2 * i+1) default)=true then 2 * i+2 else 2 * i+1
theorem Ok (q:List Item) (i n:Nat) (h:2 * i+1<n):Ek q i n<n∧i<Ek q i n:=by
 unfold Ek
 split<;>omega
def El:Nat→List Item→Nat→Nat→List Item × Nat
 | 0,q,i,_=>(q,i)
 | f+1,q,i,n=>if 2 * i+1<n then (if Cf (q.getD (Ek q i n) default) (q.getD i default) then El f (Et q i (Ek q i n)) (Ek q i n) n else (q,i)) else (q,i)
theorem Wc:∀ (f g:Nat) (q:List Item) (i n:Nat),n≤f+i→n≤g+i→El f q i n=El g q i n
 | 0,g,q,i,n,h1,h2=>by
  cases g with
  | zero=>rfl
  | succ g=>rw[El,El,zD q_]
 | f+1,0,q,i,n,h1,h2=>by rw[El,El,zD q_]
 | f+1,g+1,q,i,n,h1,h2=>by
  rw[El,El]
  split
  ·rename_i h
   have:=Ok q i n h
   split
   ·exact Wc f g _ _ n q_ q_
   ·rfl
  ·rfl
theorem Aqi (r:List Item) (i n:Nat):El (n-i) r i n=if 2 * i+1<n then (if Cf (r.getD (Ek r i n) default) (r.getD i default) then El (n-Ek r i n) (Et r i (Ek r i n)) (Ek r i n) n else (r,i)) else (r,i):=by
 rw[Wc (n-i) (n-i+1) r i n q_ q_,El]
 split
 ·rename_i h
  have:=Ok r i n h
  split
  ·exact Wc _ _ _ _ _ q_ q_
  ·rfl
 ·rfl
theorem Yf:∀ (f:Nat) (q:List Item) (i n:Nat),(El f q i n).1.length=q.length
 | 0,_,_,_=>rfl
 | f+1,q,i,n=>by
  rw[El]
  split
  ·split
   ·rw[Yf f,Bb]
   ·rfl
  ·rfl
theorem downS (q:List Item) (i0 n:Nat) (hn:n≤q.length) (hi:i0<q.length) (hl:q.length<1000000) :
  Sq 326 [.ifc 391 (.ptr 0 0),Aa i0,Aa n] [(0,.box [.osl 1]),(1,.row 3 Bu q)] (Ab (decide (((El (n-i0) q i0 n).2:Int)>i0))) [(0,.box [.osl 1]),(1,.row 3 Bu (El (n-i0) q i0 n).1)]:=cT F326 Tryz.ntmps326 λ F hF=>by
 generalize hD:El (n-i0) q i0 n=D
 conv=>whnf
 refine Tv (α:={p:List Item × Nat // El (n-p.2) p.1 p.2 n=D∧p.1.length=q.length∧p.2<p.1.length}) (λ p=>[(0,.ifc 391 (.ptr 0 0)),(1,Aa i0),(2,Aa n),(7,Aa p.1.2)]) (λ p=>[(0,.box [.osl 1]),(1,.row 3 Bu p.1.1)]) (λ p=>n-p.1.2) ⟨(q,i0),hD,E,hi⟩ []
  ⟨⟨rfl,rfl,rfl,rfl,rfl,rfl,rfl,rfl,trivial⟩,⟨.inl rfl,rfl,.inl rfl,rfl,trivial⟩,rfl,rfl⟩ ?_
 rintro ⟨⟨r,i⟩,h1,h2,h3⟩
 simp only at h1 h2 h3
 dsimp only
 have h10:=h1
 rw[Aqi]at h1
 have hj1:(2:Int) * i+1=((2 * i+1:Nat):Int):=by omega
 have hj2:((2 * i+1:Nat):Int)+1=((2 * i+2:Nat):Int):=by omega
 refine oO ?_
 refine iW ?_
 refine iL ?_
 rw[hj1]
 conv=>whnf
 constructor<;>intro h
 ·have hge:¬ 2 * i+1<n:=qA h
  rw[zD hge]at h1
  rw[← h1]
  refine oT ?_
  exact done E (.cons .tmp .nil) [] [(0,.box [.osl 1]),(1,.row 3 Bu r)] (λ _ h=>h) E E ⟨Y,⟨.inl E,E,.inl E,E,Y⟩,E,E⟩
 have hlt:2 * i+1<n:=qB h
 rw[zE hlt]at h1
 refine oF ?_
 refine iL ?_
 rw[hj2]
 conv=>whnf
 constructor<;>intro h
 ·have h2n:2 * i+2<n:=qA h
  have hA:2 * i+2<r.length:=by omega
  have hB:2 * i+1<r.length:=by omega
  have hlc:=Lj r (2 * i+2) (2 * i+1) hA hB
  refine oO ?_
  refine Af (Ey [1] (Bs Γ.toTy Alx F417 E E E E E) hlc (.cons (.row E E) (.cons (.refl _) (.cons (.refl _) .nil))) E E) E E ?_
  refine oO ?_
  constructor<;>intro h
  ·have hc:Ek r i n=2 * i+2:=by rw[Ek,zE ⟨h2n,by rw[Bi hA,Bi hB];exact h⟩]
   have hJ:=hA
   refine oO ?_
   rw[hc,Bi hJ,Bi h3]at h1
   have hls:=Lj r (2 * i+2) i hJ h3
   refine Af (Ey [1] (Bs Γ.toTy Alx F417 E E E E E) hls (.cons (.row E E) (.cons (.refl _) (.cons (.refl _) .nil))) E E) E E ?_
   refine oO ?_
   constructor<;>intro h
   ·have hf:Cf r[2 * i+2] r[i]=false:=by simpa using h
    rw[hf]at h1
    have e:D=(r,i):=h1.symm
    rw[e]
    refine oO ?_
    exact done E (.cons .tmp .nil) [] [(0,.box [.osl 1]),(1,.row 3 Bu r)] (λ _ h=>h) E E ⟨Y,⟨.inl E,E,.inl E,E,Y⟩,E,E⟩
   have hf:Cf r[2 * i+2] r[i]=true:=by simpa using h
   rw[hf,zE rfl]at h1
   have hsw:=Li r i (2 * i+2) h3 hJ
   have e:(r.set i r[2 * i+2]).set (2 * i+2) r[i]=Et r i (2 * i+2):=by
    rw[Et,Bi h3,Bi hJ]
   rw[e]at hsw
   refine oO ?_
   refine Af (As [(0,1)] (Bs Γ.toTy Alw F420 E E E E E) hsw E ⟨E,Y⟩ E ⟨.inl E,Y⟩) E E ?_
   refine oO ?_
   exact Vl (α:={p:List Item × Nat // El (n-p.2) p.1 p.2 n=D∧p.1.length=q.length∧p.2<p.1.length}) (L:=λ p=>[(0,.ifc 391 (.ptr 0 0)),(1,Aa i0),(2,Aa n),(7,Aa p.1.2)]) (O:=λ p=>[(0,.box [.osl 1]),(1,.row 3 Bu p.1.1)]) (μ:=λ p=>n-p.1.2) (x:=⟨(r,i),h10,h2,h3⟩)
    ⟨(Et r i (2 * i+2),2 * i+2),h1,by rw[Bb];exact h2,by rw[Bb];exact hJ⟩ [] (by simp only;omega)
    ⟨⟨rfl,rfl,rfl,rfl,rfl,rfl,rfl,rfl,trivial⟩,⟨.inl rfl,rfl,.inl rfl,rfl,trivial⟩,rfl,rfl⟩
  ·have hc:Ek r i n=2 * i+1:=by rw[Ek,zD (λ hh=>by rw[Bi hA,Bi hB,h]at hh;exact yB hh.2 y_)]
   have hJ:=hB
   refine oO ?_
   rw[hc,Bi hJ,Bi h3]at h1
   have hls:=Lj r (2 * i+1) i hJ h3
   refine Af (Ey [1] (Bs Γ.toTy Alx F417 E E E E E) hls (.cons (.row E E) (.cons (.refl _) (.cons (.refl _) .nil))) E E) E E ?_
   refine oO ?_
   constructor<;>intro h
   ·have hf:Cf r[2 * i+1] r[i]=false:=by simpa using h
    rw[hf]at h1
    have e:D=(r,i):=h1.symm
    rw[e]
    refine oO ?_
    exact done E (.cons .tmp .nil) [] [(0,.box [.osl 1]),(1,.row 3 Bu r)] (λ _ h=>h) E E ⟨Y,⟨.inl E,E,.inl E,E,Y⟩,E,E⟩
   have hf:Cf r[2 * i+1] r[i]=true:=by simpa using h
   rw[hf,zE rfl]at h1
   have hsw:=Li r i (2 * i+1) h3 hJ
   have e:(r.set i r[2 * i+1]).set (2 * i+1) r[i]=Et r i (2 * i+1):=by
    rw[Et,Bi h3,Bi hJ]
   rw[e]at hsw
   refine oO ?_
   refine Af (As [(0,1)] (Bs Γ.toTy Alw F420 E E E E E) hsw E ⟨E,Y⟩ E ⟨.inl E,Y⟩) E E ?_
   refine oO ?_
   exact Vl (α:={p:List Item × Nat // El (n-p.2) p.1 p.2 n=D∧p.1.length=q.length∧p.2<p.1.length}) (L:=λ p=>[(0,.ifc 391 (.ptr 0 0)),(1,Aa i0),(2,Aa n),(7,Aa p.1.2)]) (O:=λ p=>[(0,.box [.osl 1]),(1,.row 3 Bu p.1.1)]) (μ:=λ p=>n-p.1.2) (x:=⟨(r,i),h10,h2,h3⟩)
    ⟨(Et r i (2 * i+1),2 * i+1),h1,by rw[Bb];exact h2,by rw[Bb];exact hJ⟩ [] (by simp only;omega)
    ⟨⟨rfl,rfl,rfl,rfl,rfl,rfl,rfl,rfl,trivial⟩,⟨.inl rfl,rfl,.inl rfl,rfl,trivial⟩,rfl,rfl⟩
 ·have h2n:¬ 2 * i+2<n:=qB h
  have hJ:2 * i+1<r.length:=by omega
  have hc:Ek r i n=2 * i+1:=by rw[Ek,zD (λ hh=>h2n hh.1)]
  refine oF ?_
  rw[hc,Bi hJ,Bi h3]at h1
  have hls:=Lj r (2 * i+1) i hJ h3
  refine Af (Ey [1] (Bs Γ.toTy Alx F417 E E E E E) hls (.cons (.row E E) (.cons (.refl _) (.cons (.refl _) .nil))) E E) E E ?_
  refine oO ?_
  constructor<;>intro h
  ·have hf:Cf r[2 * i+1] r[i]=false:=by simpa using h
   rw[hf]at h1
   have e:D=(r,i):=h1.symm
   rw[e]
   refine oO ?_
   exact done E (.cons .tmp .nil) [] [(0,.box [.osl 1]),(1,.row 3 Bu r)] (λ _ h=>h) E E ⟨Y,⟨.inl E,E,.inl E,E,Y⟩,E,E⟩
  have hf:Cf r[2 * i+1] r[i]=true:=by simpa using h
  rw[hf,zE rfl]at h1
  have hsw:=Li r i (2 * i+1) h3 hJ
  have e:(r.set i r[2 * i+1]).set (2 * i+1) r[i]=Et r i (2 * i+1):=by
   rw[Et,Bi h3,Bi hJ]
  rw[e]at hsw
  refine oO ?_
  refine Af (As [(0,1)] (Bs Γ.toTy Alw F420 E E E E E) hsw E ⟨E,Y⟩ E ⟨.inl E,Y⟩) E E ?_
  refine oO ?_
  exact Vl (α:={p:List Item × Nat // El (n-p.2) p.1 p.2 n=D∧p.1.length=q.length∧p.2<p.1.length}) (L:=λ p=>[(0,.ifc 391 (.ptr 0 0)),(1,Aa i0),(2,Aa n),(7,Aa p.1.2)]) (O:=λ p=>[(0,.box [.osl 1]),(1,.row 3 Bu p.1.1)]) (μ:=λ p=>n-p.1.2) (x:=⟨(r,i),h10,h2,h3⟩)
   ⟨(Et r i (2 * i+1),2 * i+1),h1,by rw[Bb];exact h2,by rw[Bb];exact hJ⟩ [] (by simp only;omega)
   ⟨⟨rfl,rfl,rfl,rfl,rfl,rfl,rfl,rfl,trivial⟩,⟨.inl rfl,rfl,.inl rfl,rfl,trivial⟩,rfl,rfl⟩
def Dp (q:List Item):List Item:=(El (q.length-1-0) (Et q 0 (q.length-1)) 0 (q.length-1)).1
theorem Ex (q:List Item):(Dp q).length=q.length:=by rw[Dp,Yf,Bb]
theorem Ep {q:List Item} (h:q≠[]):Dp q≠[]:=λ e=>h (zU (by rw[← Ex,e];rfl))
theorem Aya (q:List Item) (hq:q≠[]) (hl:q.length<1000000) :
  Sq 268 [.ifc 391 (.ptr 0 0)] [(0,.box [.osl 1]),(1,.row 3 Bu q)] (.ifc 396 (Bu ((Dp q).getLast (Ep hq)))) [(0,.box [.osl 2]),(1,.non),(2,.row 3 Bu (Dp q).dropLast)]:=cT F268 Tryz.ntmps268 λ F hF=>by
 have h0:0<q.length:=xO.2 hq
 have hlen:=Zj q
 have hsw:=Li q 0 (q.length-1) h0 q_
 have e:(q.set 0 q[q.length-1]).set (q.length-1) q[0]=Et q 0 (q.length-1):=by
  rw[Et,Bi (show q.length-1<q.length by omega),Bi h0]
 rw[e]at hsw
 have hdn:=downS (Et q 0 (q.length-1)) 0 (q.length-1) (by rw[Bb];omega) (by rw[Bb];exact h0) (by rw[Bb];exact hl)
 have hpop:=Atl (Dp q) (Ep hq) (by rw[Ex];exact hl)
 have hln:(q.length:Int)-1=((q.length-1:Nat):Int):=by omega
 conv=>whnf
 refine Af (Ey [1] (Bs Γ.toTy mLen F267 E E E E E) hlen (.cons (.row E E) .nil) E E) E E ?_
 refine oO ?_
 refine iL ?_
 rw[hln]
 conv=>whnf
 refine Af (As [(0,1)] (Bs Γ.toTy Alw F420 E E E E E) hsw E ⟨E,Y⟩ E ⟨.inl E,Y⟩) E E ?_
 refine oO ?_
 refine Af (Ad [] E F326 hdn E ⟨E,E,Y⟩ E ⟨.inl E,.inl E,Y⟩) E E ?_
 refine oO ?_
 refine Af (As (rd:=[]) [(2,14)] (Vj mPop F418 E E) hpop E ⟨E,E,Y⟩ E ⟨.inl E,.inl E,.inr E,Y⟩) E E ?_
 refine oO ?_
 exact done E (.cons .tmp .nil) [(2,14)] [(0,.box [.osl 2]),(1,.non),(2,.row 3 Bu (Dp q).dropLast)] (λ _ h=>h) E E ⟨Y,⟨.inl E,E,.inl E,E,.inl E,E,Y⟩,E,E⟩
end Go.Sy.YtiijbikecbjdaaaGreatDoor
namespace Go.Sy.YtiijbikecbjdaaaGreatDoor
open Go.Proofs
attribute [local irreducible] Go.Sy.G Go.Sy.DR
set_option maxRecDepth 20000
set_option maxHeartbeats 4000000
def Ej:Vec→List Vec→Vec
 | v,[]=>v
 | v,x::l=>Ej (if Ag0 x v then x else v) l
def zeroV:Vec:=⟨0,0,0,0,0⟩
def Qa:List Vec→Vec × Bool
 | []=>(zeroV,false)
 | v::l=>(Ej v (v::l),true)
theorem Ads:∀ (v:Vec) (l:List Vec),Ej v l=v∨Ej v l∈l
 | v,[]=>.inl rfl
 | v,x::l=>by
  rw[Ej]
  rcases Ads (if Ag0 x v then x else v) l with h | h
  ·rw[h]
   split
   ·exact .inr y_
   ·exact .inl E
  ·exact .inr (by simp[h])
theorem Al5 (v:Vec) (l:List Vec) (j:Nat) (h:j<l.length):Ej v (l.take (j+1))=(if Ag0 l[j] (Ej v (l.take j)) then l[j] else Ej v (l.take j)):=by
 have key:∀ (a b:List Vec) (v:Vec),Ej v (a++b)=Ej (Ej v a) b:=by
  intro a
  induction a with
  | nil=>intro b v;rfl
  | cons x a ih=>intro b v;rw[wF,Ej,Ej,ih]
 rw[zW h,key]
 rfl
theorem leastS (l:List Vec) (hl:Ak l):Sp 269 [.sl 5 Sd l] (.tup [Sd (Qa l).1,Ab (Qa l).2]):=cT F269 Tryz.ntmps269 λ F hF=>by
 unfold Ak at hl
 have hR:∀ h:0<l.length,Qa l=(Ej l[0] l,true):=λ h=>by
  cases l with
  | nil=>simp at h
  | cons v t=>rfl
 conv=>whnf
 constructor<;>intro h
 ·have:l=[]:=zU (by have:(l.length:Int)=0:=(by simpa using h);omega)
  subst this
  refine oO ?_
  exact done E (.cons (.cell E E E E) (.cons .tmp .nil)) [] [] (λ _ h=>h) E E ⟨Y,Y,E,E⟩
 have h0:0<l.length:=by
  have:¬ (l.length:Int)=0:=by simpa using h
  omega
 rw[hR h0]
 refine oO ?_
 refine⟨E,by decide,h0,?_⟩
 conv=>whnf
 have e0:l[(0:Int).toNat]'(h0)=l[0]:=rfl
 generalize hv:l[0]=v at *
 refine A9 l.length (λ j=>[(0,.sl 5 Sd l),(2,.ptr 2 0),(4,.ptr 4 0),(14,.sl 5 Sd l),(15,Aa l.length),(16,Aa j)]) (λ j=>[(2,.box [Aa 0,Aa 0,Aa 0,Aa 0,Aa 0]),(4,.box [Aa (Ej v (l.take j)).root,Aa (Ej v (l.take j)).cost,Aa (Ej v (l.take j)).bridge,Aa (Ej v (l.take j)).port,Aa (Ej v (l.take j)).own])]) []
  ⟨⟨rfl,rfl,rfl,rfl,rfl,rfl,rfl,rfl,rfl,rfl,rfl,rfl,trivial⟩,⟨.inl rfl,rfl,.inl (by subst hv;rfl),rfl,trivial⟩,rfl,rfl⟩ ?_
 intro j hj
 refine oO ?_
 constructor<;>intro h
 ·have hlt:j<l.length:=by simpa using h
  have hdrop:=Al5 v l j hlt
  generalize hx:l[j]=x at hdrop
  have hx':l[(j:Int).toNat]'q_=x:=hx
  generalize hmn:Ej v (l.take j)=m at hdrop
  refine oO ?_
  refine⟨E,by omega,by omega,?_⟩
  rw[hx']
  conv=>whnf
  refine c0 (lessS x m) F327 ?_
  refine oO ?_
  constructor<;>intro h2
  ·rw[h2,zE rfl]at hdrop
   refine oO ?_
   refine iW ?_
   exact A2 [] hlt ⟨⟨E,E,E,E,E,E,E,E,E,E,E,E,Y⟩,⟨.inl E,E,.inl (by rw[hdrop];rfl),E,Y⟩,E,E⟩
  ·rw[h2]at hdrop
   refine oO ?_
   refine iW ?_
   exact A2 [] hlt ⟨⟨E,E,E,E,E,E,E,E,E,E,E,E,Y⟩,⟨.inl E,E,.inl (by rw[hdrop];rfl),E,Y⟩,E,E⟩
 ·have hjl:¬ j<l.length:=by simpa using h
  rw[xC q_]
  refine oO ?_
  exact done E (.cons (.cell E E E E) (.cons .tmp .nil)) [] [] (λ _ h=>h) E E ⟨Y,Y,E,E⟩
theorem leastR_mem {l:List Vec} (h:(Qa l).2=true):(Qa l).1∈l:=by
 cases l with
 | nil=>cases h
 | cons v t =>
  rcases Ads v (v::t) with h | h
  ·show Ej v (v::t)∈v::t
   rw[h];simp
  ·exact h
theorem Aaf (n:Net):∀ x∈Ev n,0≤x∧x<n.devices.length:=λ x hx=>by
 rw[Ak5,M5]at hx
 obtain ⟨i,hi,rfl⟩:=yV.1 hx
 have hi:=xM.1 hi
 have h1:=List.countP_le_length (p:=λ k=>C9 n (k:Nat) i) (l:=List.range n.devices.length)
 rw[List.length_range]at h1
 have h2:(List.range n.devices.length).countP (λ k=>C9 n (k:Nat) i)≠n.devices.length:=λ e=>by
  have:=List.countP_eq_length.1 (e.trans List.length_range.symm) i (xM.2 hi)
  rw[Qr]at this
  cases this
 omega
theorem Mo (n:Net):(Ev n).length=n.devices.length:=by rw[Ak5,M5];simp
end Go.Sy.YtiijbikecbjdaaaGreatDoor
namespace Go.Sy.YtiijbikecbjdaaaGreatDoor
open Go.Proofs
attribute [local irreducible] Go.Sy.G Go.Sy.DR
set_option maxRecDepth 100000
set_option maxHeartbeats 4000000
def Uw (n:Net) (up:List Bool) (ranks:List Int) (x y:SV):List SV:=[.sl 5 Au n.devices,.sl 7 A3 n.ports,.sl 3 Bw n.links,.sl 6 Ap n.domains,.sl 4 Az n.statics,.sl 4 Be n.floods,.sl 5 Ca n.vrfs,.sl 5 B3 n.irbs,.sl 1 Ab up,.sl 1 Aa ranks,x,y]
def D7 (n:Net) (up:List Bool) (i:Nat):Int :=
 let p:=n.ports.getD i default
 if p.link<0 || !(up.getD p.link.toNat false) then -1 else (nth n.links p.link).a+(nth n.links p.link).b-i
theorem farS (n:Net) (up:List Bool) (ranks:List Int) (x y:SV) (_hx:(x.boxed && x.data && y.boxed && y.data && Nat.beq (cellsOf x).length 1 && Nat.beq (cellsOf y).length 1)=true) (i:Nat) (hr:Ac n=true) (hu:up.length=n.links.length) (hi:i<n.ports.length) :
  Sp 191 [.ref 12 (.agg (Uw n up ranks x y)) 0,Aa i] (Aa (D7 n up i)):=cT F191 Tryz.ntmps191 λ F hF=>by
 have hpl:=T4 hr hi
 have hf:=Hf hr
 have e1:n.ports[(i:Int).toNat]'q_=n.ports[i]:=rfl
 have hfar:D7 n up i=if n.ports[i].link<0 || !(up.getD n.ports[i].link.toNat false) then -1 else (nth n.links n.ports[i].link).a+(nth n.links n.ports[i].link).b-i:=by
  rw[D7,Bi hi]
 generalize hp:n.ports[i]=p at *
 have hle:=λ h=>Oa hr (i:=p.link.toNat) h
 conv=>whnf
 refine⟨E,by omega,by omega,?_⟩
 rw[e1]
 conv=>whnf
 (repeat' (first | (refine⟨λ h=>?_,λ h=>?_⟩<;>(repeat (first | simp only[zQ]at h | simp only[zY]at h | simp only[yX]at h | simp only[wT]at h))<;>((first|refine rg ?_|refine rd z_ ?_);(conv=>whnf))) | (refine Aq rfl (.cons .tmp .nil) ?_ rfl) | (refine⟨z_,?_⟩;((conv=>whnf);repeat((refine aT ?_);(refine oO ?_)))) | (refine⟨by (first | omega | ((have hq:=hle q_;unfold I64;omega))),by (first | omega | ((have hq:=hle q_;unfold I64;omega))),?_⟩;((conv=>whnf)))))
 all_goals (refine zG Aa ?_;rw[hfar])
 ·simp_all
 ·have h1:up.getD p.link.toNat false=false:=by rw[Bi q_];assumption
  rw[h1];simp
 ·have h1:up.getD p.link.toNat false=true:=by rw[Bi q_];assumption
  rw[h1,Aj q_]
  simp_all
def Sf (n:Net) (up:List Bool) (ranks roots costs:List Int):SV:=.ref 12 (.agg (Uw n up ranks (.sl 1 Aa roots) (.sl 1 Aa costs))) 0
def M1 (n:Net) (ranks costs:List Int) (i k:Nat):Bool :=
 let a:=(n.ports.getD i default).dev
 let b:=(n.ports.getD k default).dev
 decide (nth costs a<nth costs b) || (nth costs a == nth costs b && decide (nth ranks a<nth ranks b))
theorem Aoj (n:Net) (up:List Bool) (ranks roots costs:List Int) (i k:Nat) (hr:Ac n=true) (hrk:ranks.length=n.devices.length) (hc:costs.length=n.devices.length) (hi:i<n.ports.length) (hk:k<n.ports.length) :
  Sp 192 [Sf n up ranks roots costs,Aa i,Aa k] (Ab (M1 n ranks costs i k)):=cT F192 Tryz.ntmps192 λ F hF=>by
 have hd1:=Sx hr hi
 have hd2:=Sx hr hk
 have e1:n.ports[(i:Int).toNat]'q_=n.ports[i]:=rfl
 have e2:n.ports[(k:Int).toNat]'q_=n.ports[k]:=rfl
 have hres:M1 n ranks costs i k=(decide (nth costs n.ports[i].dev<nth costs n.ports[k].dev) || (nth costs n.ports[i].dev == nth costs n.ports[k].dev && decide (nth ranks n.ports[i].dev<nth ranks n.ports[k].dev))):=by
  rw[M1,Bi hi,Bi hk]
 rw[Aj q_,Aj q_,Aj q_,Aj q_]at hres
 conv=>whnf
 (repeat' (first | (refine⟨λ h=>?_,λ h=>?_⟩<;>(repeat (first | simp only[zQ]at h | simp only[zY]at h | simp only[yF]at h | simp only[zL]at h))<;>((refine rd z_ ?_);(conv=>whnf))) | (refine Aq rfl (.cons .tmp .nil) ?_ rfl) | (refine⟨z_,?_⟩;((conv=>whnf))) | (refine⟨by (first | omega | (simp only[yL];omega)),by (first | omega | (simp only[yL];omega)),?_⟩;((conv=>whnf)))))
 all_goals (refine zG Ab ?_;rw[hres];clear hF hres hr;simp only[yL]at *;grind)
theorem Aej {n:Net} {up:List Bool} (h:Ac n=true) {i:Nat} (hi:i<n.ports.length) (hf:0≤D7 n up i):D7 n up i<n.ports.length:=by
 have hp:=O2 h hi
 have hpl:=T4 h hi
 simp only[Ll,zH,yO,yF]at hp
 have hp:=hp.2
 unfold D7 at *
 rw[Bi hi]at *
 simp only at *
 split at hf
 ·omega
 ·rename_i hc
  rw[zD hc]
  simp only[yO,zQ,uU]at hc
  rcases hp with hp | hp
  ·omega
  ·have hl:n.ports[i].link.toNat<n.links.length:=by omega
   have he:=Oa h hl
   rw[Aj hl]at *
   omega
def Ae1 (n:Net) (up:List Bool) (ranks roots costs:List Int) (dev:Int) (i:Nat):Option Vec :=
 let p:=n.ports.getD i default
 let far:=D7 n up i
 let there:=(nth n.ports far).dev
 if p.dev == dev && decide (0≤far) then some ⟨nth roots there,nth costs there+p.cost,nth ranks there,far,i⟩ else none
def Ol (n:Net) (up:List Bool) (ranks roots costs:List Int) (dev:Int) (j:Nat):List Vec:=(List.range j).filterMap (Ae1 n up ranks roots costs dev)
theorem Aqs (n:Net) (up:List Bool) (ranks roots costs:List Int) (dev:Int) (j:Nat):Ol n up ranks roots costs dev (j+1)=Ol n up ranks roots costs dev j++(Ae1 n up ranks roots costs dev j).toList:=by
 rw[Ol,wV,List.filterMap_append]
 cases h:Ae1 n up ranks roots costs dev j<;>simp[Ol,h]
theorem Yp (n:Net) (up:List Bool) (ranks roots costs:List Int) (dev:Int) (j:Nat):(Ol n up ranks roots costs dev j).length≤j:=by
 have:=uQ (Ae1 n up ranks roots costs dev) (List.range j)
 simpa [Ol] using this
def Vk (n:Net) (up:List Bool) (ranks roots costs:List Int) (dev:Int):Int :=
 let r:=Qa (Ol n up ranks roots costs dev n.ports.length)
 if !r.2 || nth roots dev == nth ranks dev then -1 else r.1.own
theorem bestS (n:Net) (up:List Bool) (ranks roots costs:List Int) (dev:Int) (hr:Ac n=true) (hu:up.length=n.links.length) (hcost:Di n=true) (hrk:ranks.length=n.devices.length) (hro:roots.length=n.devices.length) (hc:costs.length=n.devices.length)
  (hb:∀ c∈costs,0≤c∧c<1000000000) (hd:0≤dev∧dev<n.devices.length) :
  Sp 193 [Sf n up ranks roots costs,Aa dev] (Aa (Vk n up ranks roots costs dev)):=cT F193 Tryz.ntmps193 λ F hF=>by
 have hf:=Hf hr
 conv=>whnf
 refine B9 5 1000 5 Sd E E ?_
 refine A9 n.ports.length (λ j=>[(0,Sf n up ranks roots costs),(1,Aa dev),(5,.osl 1000),(16,.sl 7 A3 n.ports),(17,Aa n.ports.length),(18,Aa j)]) (λ j=>[(1000,.row 5 Sd (Ol n up ranks roots costs dev j))]) []
  ⟨⟨rfl,rfl,rfl,rfl,rfl,rfl,rfl,rfl,rfl,rfl,rfl,rfl,trivial⟩,⟨.inl rfl,rfl,trivial⟩,rfl,rfl⟩ ?_
 intro j hj
 refine oO ?_
 constructor<;>intro h
 ·have hlt:j<n.ports.length:=by simpa using h
  have e1:n.ports[(j:Int).toNat]'q_=n.ports[j]:=rfl
  have hfar:=farS n up ranks (.sl 1 Aa roots) (.sl 1 Aa costs) rfl j hr hu hlt
  have hfl:=Aej (up:=up) hr hlt
  have hsucc:=Aqs n up ranks roots costs dev j
  have hbl:=Yp n up ranks roots costs dev j
  have hcand:Ae1 n up ranks roots costs dev j=if n.ports[j].dev == dev && decide (0≤D7 n up j) then some ⟨nth roots (nth n.ports (D7 n up j)).dev,nth costs (nth n.ports (D7 n up j)).dev+n.ports[j].cost,nth ranks (nth n.ports (D7 n up j)).dev,D7 n up j,j⟩ else none:=by
   rw[Ae1,Bi hlt]
  generalize D7 n up j=k at *
  have hpc:1≤n.ports[j].cost∧n.ports[j].cost≤65535:=by
   simp only[Di,yX,uM]at hcost
   have:=hcost _ (zJ hlt)
   simp only[H5,yO,zQ,uU]at this
   omega
  obtain ⟨p,hp⟩:∃ p,n.ports[j]=p:=⟨_,rfl⟩
  rw[hp]at e1 hcand hpc
  refine oO ?_
  refine⟨E,by omega,by omega,?_⟩
  rw[e1]
  conv=>whnf
  refine c0 hfar F191 ?_
  refine oO ?_
  constructor<;>intro h
  ·refine oO ?_
   constructor<;>intro h2
   ·have hk0:0≤k:=zK h2
    have hk1:=hfl hk0
    rw[zE (by simp only[zH,zQ];exact⟨h,hk0⟩),Aj (l:=n.ports) (i:=k) q_]at hcand
    have hpd:=Sx hr (i:=k.toNat) q_
    obtain ⟨q,hq⟩:∃ q,n.ports[k.toNat]'q_=q:=⟨_,rfl⟩
    rw[hq]at hcand hpd
    have hcb:=hb (costs[q.dev.toNat]'q_) (zJ _)
    rw[Aj (l:=roots) (i:=q.dev) q_,Aj (l:=costs) (i:=q.dev) q_,Aj (l:=ranks) (i:=q.dev) q_]at hcand
    refine oO ?_
    refine⟨E,hk0,by omega,?_⟩
    rw[hq]
    conv=>whnf
    refine⟨z_,?_⟩
    refine⟨by omega,by omega,?_⟩
    conv=>whnf
    refine⟨z_,?_⟩
    refine⟨by omega,by omega,?_⟩
    conv=>whnf
    refine iW ?_
    refine⟨z_,?_⟩
    refine⟨by omega,by omega,?_⟩
    conv=>whnf
    refine Br (Ae Γ.toTy 72 E E E E E (.row E) (.lit (l:=[(⟨roots[q.dev.toNat]'q_,costs[q.dev.toNat]'q_+p.cost,ranks[q.dev.toNat]'q_,k,j⟩:Vec)]) E E) y_ (by simp;omega) (by simp;omega)) z_ E ?_
    refine oD ?_
    refine kW ?_
    refine iW ?_
    refine A2 [(1000,72)] hlt ⟨⟨E,E,E,E,E,E,E,E,E,E,E,E,Y⟩,⟨.inl (zG (Ob.row 5 Sd) ?_),E,Y⟩,E,E⟩
    rw[hsucc,hcand]
    rfl
   ·have hk0:¬ 0≤k:=zT h2
    rw[zD (by simp only[zH,zQ];exact λ hh=>hk0 hh.2)]at hcand
    refine oO ?_
    refine iW ?_
    refine A2 [] hlt ⟨⟨E,E,E,E,E,E,E,E,E,E,E,E,Y⟩,⟨.inl (zG (Ob.row 5 Sd) ?_),E,Y⟩,E,E⟩
    rw[hsucc,hcand]
    simp
  ·rw[zD (by rw[h];simp)]at hcand
   refine oF ?_
   refine iW ?_
   refine A2 [] hlt ⟨⟨E,E,E,E,E,E,E,E,E,E,E,E,Y⟩,⟨.inl (zG (Ob.row 5 Sd) ?_),E,Y⟩,E,E⟩
   rw[hsucc,hcand]
   simp
 ·have hjl:j=n.ports.length:=by
   have:¬ j<n.ports.length:=by simpa using h
   omega
  subst hjl
  have hbl:=Yp n up ranks roots costs dev n.ports.length
  have hbi:Vk n up ranks roots costs dev=if !(Qa (Ol n up ranks roots costs dev n.ports.length)).2 || nth roots dev == nth ranks dev then -1 else (Qa (Ol n up ranks roots costs dev n.ports.length)).1.own:=rfl
  rw[Aj q_,Aj q_]at hbi
  have hls:=leastS (Ol n up ranks roots costs dev n.ports.length) (by unfold Ak;omega)
  generalize Qa (Ol n up ranks roots costs dev n.ports.length)=r at hls hbi
  obtain ⟨v,ok⟩:=r
  simp only at hls hbi
  rw[hbi]
  refine oO ?_
  refine Ag 1000 E ?_
  refine c0 hls F269 ?_
  refine oO ?_
  (repeat' (first | (refine⟨λ h=>?_,λ h=>?_⟩<;>(repeat (first | simp only[yF]at h | simp only[zL]at h | simp only[yX]at h | simp only[wT]at h))<;>((first|refine rg ?_|refine rd z_ ?_);(conv=>whnf))) | (refine Aq rfl (.cons .tmp .nil) ?_ rfl) | (refine⟨z_,?_⟩;((conv=>whnf);repeat((refine aT ?_);(refine oO ?_)))) | (refine⟨by (omega),by (omega),?_⟩;((conv=>whnf)))))
  all_goals (refine zG Aa ?_;clear hF hls hbi;grind)
theorem best_lt {n:Net} {up:List Bool} {ranks roots costs:List Int} {dev:Int} (h:0≤Vk n up ranks roots costs dev):Vk n up ranks roots costs dev<n.ports.length:=by
 have hmem:=@leastR_mem (Ol n up ranks roots costs dev n.ports.length)
 unfold Vk at *
 simp only at *
 split at h
 ·omega
 ·rename_i hc
  rw[zD hc]
  simp only[yO,yX,uU]at hc
  have h2:=hmem (by simpa using hc.1)
  obtain ⟨i,hi,he⟩:=vV.1 h2
  have hi:=xM.1 hi
  unfold Ae1 at he
  simp only at he
  split at he
  ·have e:=zG Vec.own (Option.some.inj he)
   simp only at e
   omega
  ·cases he
def Arg (n:Net) (up:List Bool) (ranks costs:List Int) (i:Nat):Int :=
 if D7 n up i<0 then 0 else if M1 n ranks costs i (D7 n up i).toNat then 2 else 3
def Jt (n:Net) (up:List Bool) (ranks costs:List Int) (j:Nat):List Int:=(List.range n.ports.length).map λ i=>if i<j then Arg n up ranks costs i else 0
theorem Uy (n:Net) (up:List Bool) (ranks costs:List Int) (j:Nat):(Jt n up ranks costs j).length=n.ports.length:=by simp[Jt]
theorem Aku (n:Net) (up:List Bool) (ranks costs:List Int):Jt n up ranks costs 0=List.replicate n.ports.length 0:=by
 rw[Jt]
 exact uW y_ y_
theorem Akv (n:Net) (up:List Bool) (ranks costs:List Int) (j:Nat) (hj:j<n.ports.length):Jt n up ranks costs (j+1)=(Jt n up ranks costs j).set j (Arg n up ranks costs j):=by
 refine uW (by simp[Jt]) (λ i h1 h2=>?_)
 rw[tM]
 simp only[Jt,List.getElem_map,List.getElem_range]
 rcases Nat.lt_trichotomy i j with h | h | h
 ·rw[zE q_,zD q_,zE h]
 ·subst h;rw[zE q_,zE rfl]
 ·rw[zD q_,zD q_,zD q_]
theorem Akw (n:Net) (up:List Bool) (ranks costs:List Int) (j:Nat) (h:Arg n up ranks costs j=0):Jt n up ranks costs (j+1)=Jt n up ranks costs j:=by
 simp only[Jt]
 refine tQ (λ i _=>?_)
 by_cases hij:i<j
 ·rw[zE q_,zE hij]
 ·by_cases he:i=j
  ·subst he;rw[zE q_,zD hij,h]
  ·rw[zD q_,zD hij]
def Mm (n:Net) (up:List Bool) (ranks roots costs:List Int):Nat→List Int
 | 0=>Jt n up ranks costs n.ports.length
 | d+1=>if 0≤Vk n up ranks roots costs d then (Mm n up ranks roots costs d).set (Vk n up ranks roots costs d).toNat 1 else Mm n up ranks roots costs d
theorem J1 (n:Net) (up:List Bool) (ranks roots costs:List Int):∀ d,(Mm n up ranks roots costs d).length=n.ports.length
 | 0=>Uy n up ranks costs _
 | d+1=>by
  rw[Mm]
  split
  ·rw[yW,J1]
  ·rw[J1]
theorem rolesS (n:Net) (up:List Bool) (ranks roots costs:List Int) (hr:Ac n=true) (hu:up.length=n.links.length) (hcost:Di n=true) (hrk:ranks.length=n.devices.length) (hro:roots.length=n.devices.length) (hc:costs.length=n.devices.length)
  (hb:∀ c∈costs,0≤c∧c<1000000000) :
  Sp 135 [Sf n up ranks roots costs] (.sl 1 Aa (Mm n up ranks roots costs n.devices.length)):=cT F135 Tryz.ntmps135 λ F hF=>by
 have hf:=Hf hr
 conv=>whnf
 refine Af (Bv Γ.toTy (d:=14) (n:=n.ports.length) Aa 0 E E E E E E E E q_ q_ E E E) E E ?_
 rw[← Aku n up ranks costs]
 refine oO ?_
 refine A9 n.ports.length (λ j=>[(0,Sf n up ranks roots costs),(3,.osl 14),(20,Aa n.ports.length),(21,Aa j)]) (λ j=>[(14,.row 1 Aa (Jt n up ranks costs j))]) []
  ⟨⟨rfl,rfl,rfl,rfl,rfl,rfl,rfl,rfl,trivial⟩,⟨.inl rfl,rfl,trivial⟩,rfl,rfl⟩ ?_
 intro j hj
 refine oO ?_
 constructor<;>intro h
 ·have hlt:j<n.ports.length:=by simpa using h
  have hfar:=farS n up ranks (.sl 1 Aa roots) (.sl 1 Aa costs) rfl j hr hu hlt
  have hfl:=Aej (up:=up) hr hlt
  have hlen:=Uy n up ranks costs j
  have hrole:Arg n up ranks costs j=if D7 n up j<0 then 0 else if M1 n ranks costs j (D7 n up j).toNat then 2 else 3:=rfl
  have hsucc:=Akv n up ranks costs j hlt
  have hsame:=Akw n up ranks costs j
  generalize D7 n up j=k at *
  refine oO ?_
  refine c0 hfar F191 ?_
  refine oO ?_
  constructor<;>intro h
  ·have hk:k<0:=zK h
   rw[zE hk]at hrole
   refine oO ?_
   refine iW ?_
   exact A2 [] hlt ⟨⟨E,E,E,E,E,E,E,E,Y⟩,⟨.inl (zG (Ob.row 1 Aa) (hsame hrole)),E,Y⟩,E,E⟩
  have hk:¬ k<0:=zT h
  rw[zD hk]at hrole
  obtain ⟨m,rfl⟩:∃ m:Nat,k=m:=⟨k.toNat,by omega⟩
  have hah:=Aoj n up ranks roots costs j m hr hrk hc hlt q_
  rw[yL]at hrole
  refine oO ?_
  refine c0 hah F192 ?_
  refine oO ?_
  constructor<;>intro h
  ·rw[h,zE rfl]at hrole
   rw[hrole]at hsucc
   refine oO ?_
   refine⟨by omega,by omega,?_⟩
   conv=>whnf
   refine⟨E,by omega,2,E,E,?_⟩
   conv=>whnf
   refine iW ?_
   exact A2 [] hlt ⟨⟨E,E,E,E,E,E,E,E,Y⟩,⟨.inl (zG (Ob.row 1 Aa) hsucc),E,Y⟩,E,E⟩
  ·rw[h]at hrole
   simp only[Bool.false_eq_true,if_false]at hrole
   rw[hrole]at hsucc
   refine oO ?_
   refine⟨by omega,by omega,?_⟩
   conv=>whnf
   refine⟨E,by omega,3,E,E,?_⟩
   conv=>whnf
   refine iW ?_
   exact A2 [] hlt ⟨⟨E,E,E,E,E,E,E,E,Y⟩,⟨.inl (zG (Ob.row 1 Aa) hsucc),E,Y⟩,E,E⟩
 have hjl:j=n.ports.length:=by
  have:¬ j<n.ports.length:=by simpa using h
  omega
 subst hjl
 refine oO ?_
 refine A9 n.devices.length (λ d=>[(0,Sf n up ranks roots costs),(3,.osl 14),(47,Aa n.devices.length),(48,Aa d)]) (λ d=>[(14,.row 1 Aa (Mm n up ranks roots costs d))]) []
  ⟨⟨rfl,rfl,rfl,rfl,rfl,rfl,rfl,rfl,trivial⟩,⟨.inl rfl,rfl,trivial⟩,rfl,rfl⟩ ?_
 clear hj h
 intro d hdle
 refine oO ?_
 constructor<;>intro h
 ·have hlt:d<n.devices.length:=by simpa using h
  have hbs:=bestS n up ranks roots costs d hr hu hcost hrk hro hc hb q_
  have hbl:=@best_lt n up ranks roots costs d
  have hlen:=J1 n up ranks roots costs d
  have hsucc:Mm n up ranks roots costs (d+1)=if 0≤Vk n up ranks roots costs d then (Mm n up ranks roots costs d).set (Vk n up ranks roots costs d).toNat 1 else Mm n up ranks roots costs d:=rfl
  generalize Vk n up ranks roots costs d=k at *
  refine oO ?_
  refine c0 hbs F193 ?_
  refine oO ?_
  constructor<;>intro h
  ·have hk:0≤k:=zK h
   rw[zE hk]at hsucc
   refine oO ?_
   refine⟨hk,by omega,?_⟩
   conv=>whnf
   refine⟨E,by omega,1,E,E,?_⟩
   conv=>whnf
   refine iW ?_
   exact A2 [] hlt ⟨⟨E,E,E,E,E,E,E,E,Y⟩,⟨.inl (zG (Ob.row 1 Aa) hsucc),E,Y⟩,E,E⟩
  ·have hk:¬ 0≤k:=zT h
   rw[zD hk]at hsucc
   refine oO ?_
   refine iW ?_
   exact A2 [] hlt ⟨⟨E,E,E,E,E,E,E,E,Y⟩,⟨.inl (zG (Ob.row 1 Aa) hsucc),E,Y⟩,E,E⟩
 have hdl:d=n.devices.length:=by
  have:¬ d<n.devices.length:=by simpa using h
  omega
 subst hdl
 refine oO ?_
 refine Ag 14 E ?_
 exact dN
def Agl (n:Net) (up:List Bool) (ranks:List Int) (roots costs:List Int):Obs:=[(0,.box (Uw n up ranks (.osl 1) (.osl 2))),(1,.row 1 Aa roots),(2,.row 1 Aa costs)]
theorem farR (n:Net) (up:List Bool) (ranks roots costs:List Int) (i:Nat) (hr:Ac n=true) (hu:up.length=n.links.length) (hi:i<n.ports.length) :
  Sq 191 [.ptr 0 0,Aa i] (Agl n up ranks roots costs) (Aa (D7 n up i)) (Agl n up ranks roots costs):=cT F191 Tryz.ntmps191 λ F hF=>by
 have hpl:=T4 hr hi
 have hf:=Hf hr
 have e1:n.ports[(i:Int).toNat]'q_=n.ports[i]:=rfl
 have hfar:D7 n up i=if n.ports[i].link<0 || !(up.getD n.ports[i].link.toNat false) then -1 else (nth n.links n.ports[i].link).a+(nth n.links n.ports[i].link).b-i:=by
  rw[D7,Bi hi]
 generalize hp:n.ports[i]=p at *
 have hle:=λ h=>Oa hr (i:=p.link.toNat) h
 conv=>whnf
 refine⟨E,by omega,by omega,?_⟩
 rw[e1]
 conv=>whnf
 (repeat' (first | (refine⟨λ h=>?_,λ h=>?_⟩<;>(repeat (first | simp only[zQ]at h | simp only[zY]at h | simp only[yX]at h | simp only[wT]at h))<;>((first|refine rg ?_|refine rd z_ ?_);(conv=>whnf))) | (refine⟨z_,?_⟩;((conv=>whnf);repeat((refine aT ?_);(refine oO ?_)))) | (refine⟨by (first | omega | ((have hq:=hle q_;unfold I64;omega))),by (first | omega | ((have hq:=hle q_;unfold I64;omega))),?_⟩;((conv=>whnf))) | refine done rfl (.cons .tmp .nil) [] (Agl n up ranks roots costs) (λ _ h=>h) ?_ rfl ⟨trivial,⟨.inl rfl,rfl,.inl rfl,rfl,.inl rfl,rfl,trivial⟩,rfl,rfl⟩))
 all_goals (refine zG Aa ?_;rw[hfar])
 ·simp_all
 ·have h1:up.getD p.link.toNat false=false:=by rw[Bi q_];assumption
  rw[h1];simp
 ·have h1:up.getD p.link.toNat false=true:=by rw[Bi q_];assumption
  rw[h1,Aj q_]
  simp_all
def Dx (n:Net) (up:List Bool) (x:Item) (q:List Item) (i:Nat):List Item :=
 if (n.ports.getD i default).dev=x.dev∧0≤D7 n up i then U2 q ⟨x.root,x.cost+(nth n.ports (D7 n up i)).cost,(nth n.ports (D7 n up i)).dev⟩ else q
def O4 (n:Net) (up:List Bool) (s:List Item × List Int × List Int):List Item × List Int × List Int :=
 let x:=(Dp s.1).getLast?.getD default
 let q:=(Dp s.1).dropLast
 if 0≤nth s.2.1 x.dev then (q,s.2) else ((List.range n.ports.length).foldl (Dx n up x) q,s.2.1.set x.dev.toNat x.root,s.2.2.set x.dev.toNat x.cost)
def H7 (n:Net) (up:List Bool):Nat→List Item × List Int × List Int→List Item × List Int × List Int
 | 0,s=>s
 | f+1,s=>if s.1=[] then s else H7 n up f (O4 n up s)
end Go.Sy.YtiijbikecbjdaaaGreatDoor
namespace Go.Sy.YtiijbikecbjdaaaGreatDoor
theorem V0 (q:List Item) (i j:Nat) (hi:i<q.length) (hj:j<q.length):(Et q i j).Perm q:=by
 rw[Et,Bi hi,Bi hj]
 exact List.set_set_perm hi hj
theorem Aka:∀ (f:Nat) (q:List Item) (j:Nat),j<q.length→(upF f q j).Perm q
 | 0,_,_,_=>.refl _
 | f+1,q,j,hj=>by
  rw[upF]
  split
  ·exact .refl _
  ·split
   ·exact(Aka f _ _ (by rw[Bb];omega)).trans (V0 q _ _ q_ hj)
   ·exact .refl _
theorem Aeq:∀ (f:Nat) (q:List Item) (i n:Nat),i<q.length→n≤q.length→(El f q i n).1.Perm q
 | 0,_,_,_,_,_=>.refl _
 | f+1,q,i,n,hi,hn=>by
  rw[El]
  split
  ·rename_i h
   have hc:=Ok q i n h
   split
   ·exact(Aeq f _ _ n (by rw[Bb];omega) (by rw[Bb];exact hn)).trans (V0 q _ _ hi q_)
   ·exact .refl _
  ·exact .refl _
theorem O6 (q:List Item) (x:Item):(U2 q x).Perm (x::q) :=
 (Aka _ _ _ y_).trans (List.perm_append_comm (l₁:=q) (l₂:=[x]))
theorem K3 (q:List Item) (x:Item):(U2 q x).length=q.length+1:=by rw[U2,Ach];simp
theorem T5 (q:List Item) (hq:q≠[]):(Dp q).Perm q:=by
 have h0:0<q.length:=xO.2 hq
 exact(Aeq _ _ _ _ (by rw[Bb];exact h0) (by rw[Bb];omega)).trans (V0 q _ _ h0 q_)
def L5 (q:List Item) (n:Nat):Prop:=∀ c,0<c→c<n→c<q.length→Cf (q.getD c default) (q.getD ((c-1) / 2) default)=false
theorem Qd {x y z:Item} (h1:Cf y x=false) (h2:Cf z y=false):Cf z x=false:=by
 unfold Cf at *
 grind
theorem Ap1 {q:List Item} {n:Nat} (h:L5 q n) (hn:n≤q.length):∀ c,c<n→Cf (q.getD c default) (q.getD 0 default)=false:=by
 intro c
 induction c using Nat.strongRecOn with
 | ind c ih =>
  intro hc
  rcases vU c with h0 | h0
  ·subst h0;unfold Cf;grind
  ·have h1:=h c h0 hc q_
   have h2:=ih ((c-1) / 2) q_ q_
   exact Qd h2 h1
theorem E7 (q:List Item) (i j c:Nat) (hi:i<q.length) (hj:j<q.length):(Et q i j).getD c default=if c=j then q.getD i default else if c=i then q.getD j default else q.getD c default:=by
 rw[Et]
 simp only[xR,List.getElem?_set,yW]
 by_cases h1:c=j
 ·subst h1;simp[hj]
 ·rw[zD (Ne.symm h1),zD h1]
  by_cases h2:c=i
  ·subst h2;simp[hi]
  ·rw[zD (Ne.symm h2),zD h2]
theorem Qe {x y:Item} (h:Cf x y=true):Cf y x=false:=by
 unfold Cf at *
 grind
structure UpInv (q:List Item) (j n:Nat):Prop where
 heap:∀ c,0<c→c<n→c≠j→Cf (q.getD c default) (q.getD ((c-1) / 2) default)=false
 over:∀ c,0<c→c<n→(c-1) / 2=j→0<j→Cf (q.getD c default) (q.getD ((j-1) / 2) default)=false
theorem Akb (n:Nat):∀ (f:Nat) (q:List Item) (j:Nat),j≤f→j<n→n≤q.length→UpInv q j n→L5 (upF f q j) n
 | 0,q,j,hf,hj,hn,hI=>by
  have:j=0:=by omega
  subst this
  exact λ c h0 hc _=>hI.heap c h0 hc q_
 | f+1,q,j,hf,hj,hn,hI=>by
  rw[upF]
  split
  ·rename_i h0
   subst h0
   exact λ c h0 hc _=>hI.heap c h0 hc q_
  ·rename_i h0
   split
   ·rename_i hlt
    have hp:(j-1) / 2<j:=by omega
    refine Akb n f _ _ q_ q_ (by rw[Bb];exact hn) ⟨λ c hc0 hcn hcp=>?_,λ c hc0 hcn hpar hp0=>?_⟩
    ·rw[E7 _ _ _ _ q_ q_,E7 _ _ _ _ q_ q_]
     by_cases hcj:c=j
     ·subst hcj
      rw[zE rfl,zD q_,zE rfl]
      exact Qe hlt
     ·rw[zD hcj,zD hcp]
      by_cases hpj:(c-1) / 2=j
      ·rw[zE hpj]
       exact hI.over c hc0 hcn hpj q_
      ·rw[zD hpj]
       by_cases hpp:(c-1) / 2=(j-1) / 2
       ·rw[zE hpp]
        have:=hI.heap c hc0 hcn hcj
        rw[hpp]at this
        exact Qd (Qe hlt) this
       ·rw[zD hpp]
        exact hI.heap c hc0 hcn hcj
    ·rw[E7 _ _ _ _ q_ q_,E7 _ _ _ _ q_ q_]
     have hpI:=hI.heap ((j-1) / 2) hp0 q_ q_
     rw[zD (show ((j-1) / 2-1) / 2≠j by omega),zD (show ((j-1) / 2-1) / 2≠(j-1) / 2 by omega)]
     by_cases hcj:c=j
     ·rw[zE hcj];exact hpI
     ·rw[zD hcj,zD q_]
      have:=hI.heap c hc0 hcn hcj
      rw[hpar]at this
      exact Qd hpI this
   ·rename_i hlt
    intro c hc0 hcn _
    by_cases hcj:c=j
    ·subst hcj;simpa using hlt
    ·exact hI.heap c hc0 hcn hcj
theorem Oe {q r:List Item} {c:Nat} (h:c<q.length):(q++r).getD c default=q.getD c default:=by
 simp[xR,xW h]
theorem Adc (q:List Item) (x:Item) (h:L5 q q.length):L5 (U2 q x) (U2 q x).length:=by
 rw[K3]
 refine Akb (q.length+1) _ _ _ (yC _) q_ y_ ⟨λ c hc0 hcn hcj=>?_,λ c hc0 hcn hpar hp0=>by omega⟩
 rw[Oe q_,Oe q_]
 exact h c hc0 q_ q_
structure DownInv (q:List Item) (i n:Nat):Prop where
 heap:∀ c,0<c→c<n→(c-1) / 2≠i→Cf (q.getD c default) (q.getD ((c-1) / 2) default)=false
 over:∀ c,0<c→c<n→(c-1) / 2=i→0<i→Cf (q.getD c default) (q.getD ((i-1) / 2) default)=false
theorem Au0 (q:List Item) (i n c:Nat) (_h:2 * i+1<n) (hc0:0<c) (hc:c<n) (hp:(c-1) / 2=i):Cf (q.getD c default) (q.getD (Ek q i n) default)=false:=by
 have hcc:c=2 * i+1∨c=2 * i+2:=by omega
 unfold Ek
 split
 ·rename_i hh
  rcases hcc with rfl | rfl
  ·exact Qe hh.2
  ·unfold Cf;grind
 ·rename_i hh
  rcases hcc with rfl | rfl
  ·unfold Cf;grind
  ·cases hlt:Cf (q.getD (2 * i+2) default) (q.getD (2 * i+1) default) with
   | false=>rfl
   | true=>exact yB ⟨hc,hlt⟩ hh
theorem Aer (n:Nat):∀ (f:Nat) (q:List Item) (i:Nat),n≤f+i→i<q.length→n≤q.length→DownInv q i n→L5 (El f q i n).1 n
 | 0,q,i,hf,hi,hn,hI=>λ c hc0 hc _=>hI.heap c hc0 hc q_
 | f+1,q,i,hf,hi,hn,hI=>by
  rw[El]
  split
  ·rename_i h
   have hcl:=Ok q i n h
   have hpar:(Ek q i n-1) / 2=i:=by unfold Ek;split<;>omega
   have hle:=λ c=>Au0 q i n c h
   generalize Ek q i n=k at *
   split
   ·rename_i hlt
    refine Aer n f _ _ q_ (by rw[Bb];omega) (by rw[Bb];exact hn) ⟨λ c hc0 hcn hck=>?_,λ c hc0 hcn hcp hk0=>?_⟩
    ·rw[E7 _ _ _ _ hi q_,E7 _ _ _ _ hi q_,zD hck]
     by_cases hc1:c=k
     ·subst hc1
      rw[zE rfl,zE hpar]
      exact Qe hlt
     ·rw[zD hc1]
      by_cases hc2:c=i
      ·subst hc2
       rw[zE rfl,zD q_]
       exact hI.over k q_ hcl.1 hpar hc0
      ·rw[zD hc2]
       by_cases hc3:(c-1) / 2=i
       ·rw[zE hc3];exact hle c hc0 hcn hc3
       ·rw[zD hc3];exact hI.heap c hc0 hcn hc3
    ·rw[E7 _ _ _ _ hi q_,E7 _ _ _ _ hi q_]
     rw[zD q_,zD q_,hpar,zD q_,zE rfl]
     have:=hI.heap c hc0 hcn q_
     rwa [hcp]at this
   ·rename_i hlt
    intro c hc0 hcn _
    by_cases hc3:(c-1) / 2=i
    ·rw[hc3]
     exact Qd (by simpa using hlt) (hle c hc0 hcn hc3)
    ·exact hI.heap c hc0 hcn hc3
  ·exact λ c hc0 hc _=>hI.heap c hc0 hc q_
theorem Aep (n:Nat):∀ (f:Nat) (q:List Item) (i c:Nat),i<n→n≤q.length→n≤c→(El f q i n).1.getD c default=q.getD c default
 | 0,_,_,_,_,_,_=>rfl
 | f+1,q,i,c,hi,hn,hc=>by
  rw[El]
  split
  ·rename_i h
   have hcl:=Ok q i n h
   split
   ·rw[Aep n f _ _ c q_ (by rw[Bb];exact hn) hc,E7 _ _ _ _ q_ q_,zD q_,zD q_]
   ·rfl
  ·rfl
theorem Ala (q:List Item) (hq:q≠[]):(Dp q).getLast (Ep hq)=q.getD 0 default:=by
 have h0:0<q.length:=xO.2 hq
 rw[List.getLast_eq_getElem,← Bi (show (Dp q).length-1<(Dp q).length by rw[Ex];omega),Ex]
 by_cases h1:q.length=1
 ·have:Dp q=q:=by
   obtain ⟨x,rfl⟩:=List.length_eq_one_iff.1 h1
   rfl
  rw[this,h1]
 ·rw[Dp,Aep _ _ _ _ _ q_ (by rw[Bb];omega) (yC _),E7 _ _ _ _ h0 q_,zE rfl]
theorem Atn (q:List Item) (hq:q≠[]):(Dp q).dropLast++[q.getD 0 default]=Dp q:=by
 rw[← Ala q hq];exact uE (Ep hq)
theorem Awx (q:List Item) (hq:q≠[]):(q.getD 0 default::(Dp q).dropLast).Perm q :=
 ((List.perm_append_comm (l₁:=[q.getD 0 default]) (l₂:=(Dp q).dropLast)).trans (by rw[Atn q hq])).trans (T5 q hq)
theorem Awy (q:List Item) (hq:q≠[]) (h:L5 q q.length):L5 (Dp q).dropLast (Dp q).dropLast.length:=by
 have h0:0<q.length:=xO.2 hq
 have hd:(Dp q).dropLast.length=q.length-1:=by rw[uN,Ex]
 have hh:L5 (Dp q) (q.length-1):=by
  rw[Dp]
  refine Aer (q.length-1) _ _ _ q_ (by rw[Bb];exact h0) (by rw[Bb];omega) ⟨λ c hc0 hcn hp=>?_,λ c hc0 hcn hp h=>by omega⟩
  rw[E7 _ _ _ _ h0 q_,E7 _ _ _ _ h0 q_,zD q_,zD q_,zD q_,zD hp]
  exact h c hc0 q_ q_
 intro c hc0 hcn _
 rw[hd]at hcn
 have hl:=Ex q
 have e:∀ k,k<q.length-1→(Dp q).dropLast.getD k default=(Dp q).getD k default:=λ k hk=>by
  rw[Bi (show k<(Dp q).dropLast.length by omega),Bi (show k<(Dp q).length by omega),List.getElem_dropLast]
 rw[e c hcn,e _ q_]
 exact hh c hc0 hcn q_
theorem Ato (q:List Item) (h:L5 q q.length):∀ x∈q,Cf x (q.getD 0 default)=false:=λ x hx=>by
 obtain ⟨c,hc,rfl⟩:=vA hx
 have:=Ap1 h (yC _) c hc
 rwa [Bi hc]at this
def Ez (ranks:List Int) (j:Nat):List Item:=(List.range j).foldl (λ q (i:Nat)=>U2 q ⟨ranks.getD i 0,0,i⟩) []
theorem J8 (ranks:List Int) (j:Nat):Ez ranks (j+1)=U2 (Ez ranks j) ⟨ranks.getD j 0,0,j⟩:=by
 rw[Ez,wV,xF];rfl
theorem Ml (ranks:List Int):∀ j,(Ez ranks j).length=j
 | 0=>rfl
 | j+1=>by rw[J8,K3,Ml ranks j]
def Xn (roots:List Int):Nat:=roots.countP (λ r=>decide (r<0))
def reachM (s:List Item × List Int × List Int):Nat:=41 * Xn s.2.1+s.1.length
structure ReachInv (n:Net) (s:List Item × List Int × List Int):Prop where
 rootsL:s.2.1.length=n.devices.length
 costsL:s.2.2.length=n.devices.length
 items:∀ x∈s.1,0≤x.dev∧x.dev<n.devices.length∧0≤x.root∧0≤x.cost∧x.cost+65535 * Xn s.2.1≤65535 * n.devices.length
 few:s.1.length+40 * Xn s.2.1≤1000
theorem Axk (roots:List Int):Xn roots≤roots.length:=List.countP_le_length
theorem At2 {roots:List Int} {i:Nat} {v:Int} (h:i<roots.length) (h0:roots[i]<0) (hv:0≤v):Xn (roots.set i v)+1=Xn roots:=by
 have h1:0<roots.countP (λ r=>decide (r<0)):=List.countP_pos_iff.2 ⟨roots[i],zJ h,by simpa using h0⟩
 have hv':¬ v<0:=by omega
 rw[Xn,Xn,List.countP_set h]
 simp only[h0,hv',decide_true,decide_false,if_true,Bool.false_eq_true,if_false]
 omega
theorem Aij (n:Net) (up:List Bool) (x:Item) (hr:Ac n=true) (hcost:Di n=true) {m:Nat} (hx:0≤x.root∧0≤x.cost∧x.cost+65535 * (m+1)≤65535 * n.devices.length) (q:List Item)
  (hq:∀ y∈q,0≤y.dev∧y.dev<n.devices.length∧0≤y.root∧0≤y.cost∧y.cost+65535 * m≤65535 * n.devices.length) (i:Nat) (hi:i<n.ports.length) :
  (∀ y∈Dx n up x q i,0≤y.dev∧y.dev<n.devices.length∧0≤y.root∧0≤y.cost∧y.cost+65535 * m≤65535 * n.devices.length)∧(Dx n up x q i).length≤q.length+1:=by
 rw[Dx]
 split
 ·rename_i h
  have hlt:=Aej hr hi h.2
  have hk:(D7 n up i).toNat<n.ports.length:=by omega
  have hd:=Sx hr hk
  have hpc:1≤n.ports[(D7 n up i).toNat].cost∧n.ports[(D7 n up i).toNat].cost≤65535:=by
   simp only[Di,yX,uM]at hcost
   have:=hcost _ (zJ hk)
   simp only[H5,yO,zQ,uU]at this
   omega
  have e:nth n.ports (D7 n up i)=n.ports[(D7 n up i).toNat]:=Aj (l:=n.ports) (i:=D7 n up i) q_
  rw[e]
  refine⟨λ y hy=>?_,by rw[K3];omega⟩
  rcases yI.1 ((O6 q _).mem_iff.1 hy) with rfl | hy
  ·simp only
   omega
  ·exact hq y hy
 ·exact⟨hq,by omega⟩
theorem Ac9 (n:Net) (up:List Bool) (x:Item) (hr:Ac n=true) (hcost:Di n=true) {m:Nat} (hx:0≤x.root∧0≤x.cost∧x.cost+65535 * (m+1)≤65535 * n.devices.length) (q:List Item)
  (hq:∀ y∈q,0≤y.dev∧y.dev<n.devices.length∧0≤y.root∧0≤y.cost∧y.cost+65535 * m≤65535 * n.devices.length):∀ i,i≤n.ports.length →
  (∀ y∈(List.range i).foldl (Dx n up x) q,0≤y.dev∧y.dev<n.devices.length∧0≤y.root∧0≤y.cost∧y.cost+65535 * m≤65535 * n.devices.length)∧((List.range i).foldl (Dx n up x) q).length≤q.length+i
 | 0,_=>⟨hq,by simp⟩
 | i+1,hi=>by
  obtain ⟨h1,h2⟩:=Ac9 n up x hr hcost hx q hq i q_
  rw[wV,xF]
  obtain ⟨h3,h4⟩:=Aij n up x hr hcost hx _ h1 i q_
  exact⟨h3,by simp only[uD,uX];omega⟩
theorem Adt {q:List Item} (hq:q≠[]):(Dp q).getLast?.getD default=(Dp q).getLast (Ep hq):=by
 rw[List.getLast?_eq_some_getLast (Ep hq)];rfl
theorem Lh (n:Net) (up:List Bool) (hr:Ac n=true) (hcost:Di n=true) (s:List Item × List Int × List Int) (hI:ReachInv n s) (hne:s.1≠[]):ReachInv n (O4 n up s)∧reachM (O4 n up s)<reachM s:=by
 have hf:=Hf hr
 have hx:=hI.items _ ((T5 s.1 hne).mem_iff.1 (List.getLast_mem (Ep hne)))
 have hd:∀ y∈(Dp s.1).dropLast,y∈s.1:=λ y hy=>(T5 s.1 hne).mem_iff.1 ((List.dropLast_sublist _).subset hy)
 have h0:0<s.1.length:=xO.2 hne
 have hdl:(Dp s.1).dropLast.length+1=s.1.length:=by rw[uN,Ex];omega
 have hfew:=hI.few
 rw[O4,Adt hne]
 generalize (Dp s.1).getLast (Ep hne)=x at *
 split
 ·exact⟨⟨hI.rootsL,hI.costsL,λ y hy=>hI.items y (hd y hy),by simp only;omega⟩,by unfold reachM;simp only;omega⟩
 ·rename_i hneg
  have hk:x.dev.toNat<s.2.1.length:=by rw[hI.rootsL];omega
  rw[Aj (l:=s.2.1) (i:=x.dev) (by rw[hI.rootsL];omega)]at hneg
  have hm:=At2 hk q_ hx.2.2.1
  obtain ⟨h1,h2⟩:=Ac9 n up x hr hcost (m:=Xn (s.2.1.set x.dev.toNat x.root)) ⟨hx.2.2.1,hx.2.2.2.1,by have:=hx.2.2.2.2;omega⟩ (Dp s.1).dropLast (λ y hy=>by have:=hI.items y (hd y hy);omega) n.ports.length (yC _)
  exact⟨⟨by simp only[yW];exact hI.rootsL,by simp only[yW];exact hI.costsL,h1,by simp only;omega⟩,by unfold reachM;simp only;omega⟩
theorem Aae (n:Net) (up:List Bool) (hr:Ac n=true) (hcost:Di n=true):∀ (f g:Nat) (s:List Item × List Int × List Int),ReachInv n s→reachM s≤f→reachM s≤g→H7 n up f s=H7 n up g s
 | 0,0,_,_,_,_=>rfl
 | 0,g+1,s,_,h,_=>by
  have:s.1=[]:=zU (by unfold reachM at h;omega)
  rw[H7,H7,zE this]
 | f+1,0,s,_,_,h=>by
  have:s.1=[]:=zU (by unfold reachM at h;omega)
  rw[H7,H7,zE this]
 | f+1,g+1,s,hI,h1,h2=>by
  rw[H7,H7]
  split
  ·rfl
  ·rename_i hne
   obtain ⟨h3,h4⟩:=Lh n up hr hcost s hI hne
   exact Aae n up hr hcost f g _ h3 q_ q_
def Kt (n:Net) (up:List Bool) (s:List Item × List Int × List Int):List Item × List Int × List Int:=H7 n up (reachM s) s
theorem Ao0 (n:Net) (up:List Bool) (s:List Item × List Int × List Int) (h:s.1=[]):Kt n up s=s:=by
 rw[Kt]
 cases reachM s with
 | zero=>rfl
 | succ m=>rw[H7,zE h]
theorem Ak3 (n:Net) (up:List Bool) (hr:Ac n=true) (hcost:Di n=true) (s:List Item × List Int × List Int) (hI:ReachInv n s) (hne:s.1≠[]):Kt n up s=Kt n up (O4 n up s):=by
 obtain ⟨h3,h4⟩:=Lh n up hr hcost s hI hne
 rw[Kt,Kt]
 obtain ⟨m,hm⟩:∃ m,reachM s=m+1:=⟨reachM s-1,by omega⟩
 rw[hm,H7,zD hne]
 exact Aae n up hr hcost _ _ _ h3 q_ (yC _)
theorem Z8 (ranks:List Int) (m:Nat) (hrr:∀ r∈ranks,0≤r):∀ j,j≤ranks.length→∀ y∈Ez ranks j,0≤y.dev∧y.dev<m+ranks.length∧0≤y.root∧y.cost=0
 | 0,_,y,hy=>by simp[Ez]at hy
 | j+1,hj,y,hy=>by
  rw[J8]at hy
  rcases yI.1 ((O6 _ _).mem_iff.1 hy) with rfl | hy
  ·have h1:=hrr (ranks[j]'q_) (zJ _)
   have h2:(0:Int)≤(j:Int)∧(j:Int)<m+ranks.length:=by omega
   exact⟨h2.1,h2.2,by rw[Bi (show j<ranks.length by omega)];exact h1,E⟩
  ·exact Z8 ranks m hrr j q_ y hy
theorem Agi (n:Net) (ranks roots costs:List Int) (hr:Ac n=true) (hrk:ranks.length=n.devices.length) (hro:roots.length=n.devices.length) (hc:costs.length=n.devices.length) (hrr:∀ r∈ranks,0≤r):ReachInv n (Ez ranks ranks.length,roots,costs):=by
 have hf:=Hf hr
 have hm:=Axk roots
 refine⟨hro,hc,λ y hy=>?_,by simp only[Ml];omega⟩
 have:=Z8 ranks 0 hrr _ (yC _) y hy
 simp only
 omega
def Le2 (r c r' c':Int):Prop:=r<r'∨(r=r'∧c≤c')
theorem Auc {x y:Item} (h:Cf y x=false):Le2 x.root x.cost y.root y.cost:=by
 simp only[Cf,wR,zY,yU,zL]at h
 unfold Le2
 omega
theorem Aub {a b c d e f:Int} (h1:Le2 a b c d) (h2:Le2 c d e f):Le2 a b e f:=by
 unfold Le2 at *
 omega
theorem Al7 {a b c d m:Int} (h1:Le2 a b c d) (hm:0≤m):Le2 a b c (d+m):=by
 unfold Le2 at *
 omega
def Agc (n:Net) (up:List Bool) (i j:Nat):Prop:=i<n.ports.length∧D7 n up i=j
theorem Td {n:Net} {up:List Bool} (hr:Ac n=true) {i j:Nat} (h:Agc n up i j):j<n.ports.length:=by
 have:=Aej (up:=up) hr h.1 (by rw[h.2];omega)
 rw[h.2]at this
 omega
theorem Ahc {n:Net} {up:List Bool} (hr:Ac n=true) {i j:Nat} (h:Agc n up i j) :
  ∃ k:Nat,k<n.links.length∧(nth n.ports i).link=k∧(nth n.ports j).link=k∧up.getD k false=true∧(((nth n.links k).a=i∧(nth n.links k).b=j)∨((nth n.links k).a=j∧(nth n.links k).b=i))∧Hn n i≠Hn n j:=by
 have hj:=Td hr h
 obtain ⟨hi,hf⟩:=h
 have hp:=O2 hr hi
 have hpl:=T4 hr hi
 simp only[Ll,zH,yO,yF]at hp
 have hp:=hp.2
 have e:nth n.ports i=n.ports[i]:=Aj (l:=n.ports) (i:=(i:Int)) (by simpa using hi)
 unfold D7 at hf
 rw[Bi hi]at hf
 simp only at hf
 split at hf
 ·omega
 ·rename_i hc
  simp only[yO,zQ,uU,yX,Bool.not_eq_false]at hc
  rcases hp with hp | hp
  ·omega
  ·have hl:n.ports[i].link.toNat<n.links.length:=by omega
   have hlk:=Ac4 hr hl
   have he:=Oa hr hl
   have ek:((n.ports[i].link.toNat:Nat):Int)=n.ports[i].link:=by omega
   refine⟨n.ports[i].link.toNat,hl,by rw[e];omega,?_⟩
   simp only[Xv,zH,yF,yQ]at hlk
   obtain ⟨⟨⟨_,hne⟩,h1⟩,h2⟩:=hlk
   rw[ek]
   rw[Aj (l:=n.links) (i:=n.ports[i].link) q_]at hf hp ⊢
   generalize n.links[n.ports[i].link.toNat]=l at *
   rcases hp.2 with ha | hb
   ·have hb:l.b=j:=by omega
    rw[ha,hb]at hne
    rw[hb]at h2
    exact⟨by omega,by simpa using hc.2,.inl ⟨ha,hb⟩,hne⟩
   ·have ha:l.a=j:=by omega
    rw[ha,hb]at hne
    rw[ha]at h1
    exact⟨by omega,by simpa using hc.2,.inr ⟨ha,hb⟩,λ h=>hne h.symm⟩
theorem Amg {n:Net} {up:List Bool} (hr:Ac n=true) {i j:Nat} (h:Agc n up i j):Agc n up j i:=by
 have hj:=Td hr h
 obtain ⟨k,hk,_,h2,h3,h4,_⟩:=Ahc hr h
 refine⟨hj,?_⟩
 unfold D7
 have e:n.ports.getD j default=nth n.ports j:=rfl
 rw[e]
 simp only[h2,yL,h3]
 rw[zD y_]
 omega
theorem T6 {n:Net} (hr:Ac n=true) {i:Nat} (hi:i<n.ports.length):0≤Hn n i∧Hn n i<n.devices.length:=by
 rw[Hn,Aj (l:=n.ports) (i:=(i:Int)) (by simpa using hi)]
 exact Sx hr hi
def Der (n:Net) (up:List Bool) (K R C:Int→Int) (r c d:Int):Prop :=
 (r=K d∧c=0)∨∃ i j:Nat,Agc n up i j∧Hn n i=d∧0≤R (Hn n j)∧r=R (Hn n j)∧c=C (Hn n j)+Xi n i
structure Dij (n:Net) (up:List Bool) (K:Int→Int) (q:List Item) (R C:Int→Int):Prop where
 heap:L5 q q.length
 items:∀ x∈q,Der n up K R C x.root x.cost x.dev
 done:∀ d:Int,0≤d→d<n.devices.length→0≤R d→Der n up K R C (R d) (C d) d
 own:∀ d:Int,0≤d→d<n.devices.length→R d<0→⟨K d,0,d⟩∈q
 push:∀ i j:Nat,Agc n up i j→R (Hn n i)<0→0≤R (Hn n j)→⟨R (Hn n j),C (Hn n j)+Xi n i,Hn n i⟩∈q
 low:∀ d:Int,0≤d→d<n.devices.length→0≤R d→∀ x∈q,Le2 (R d) (C d) x.root x.cost
 self:∀ d:Int,0≤d→d<n.devices.length→0≤R d→Le2 (R d) (C d) (K d) 0
 tri:∀ i j:Nat,Agc n up i j→0≤R (Hn n i)→0≤R (Hn n j)→Le2 (R (Hn n i)) (C (Hn n i)) (R (Hn n j)) (C (Hn n j)+Xi n i)
theorem Ac7 (n:Net) (up:List Bool) (x:Item) (q:List Item) (y:Item):∀ m,y∈(List.range m).foldl (Dx n up x) q↔y∈q∨∃ i,i<m∧Hn n i=x.dev∧0≤D7 n up i∧y=⟨x.root,x.cost+(nth n.ports (D7 n up i)).cost,(nth n.ports (D7 n up i)).dev⟩
 | 0=>by simp
 | m+1=>by
  rw[wV,xF]
  simp only[uD,uX]
  rw[Dx]
  have ih:=Ac7 n up x q y m
  have e:(n.ports.getD m default).dev=Hn n m:=rfl
  rw[e]
  split
  ·rename_i h
   rw[(O6 _ _).mem_iff,yI,ih]
   constructor
   ·rintro (h1 | h1 | ⟨i,h1,h2⟩)
    ·exact .inr ⟨m,by omega,h.1,h.2,h1⟩
    ·exact .inl h1
    ·exact .inr ⟨i,by omega,h2⟩
   ·rintro (h1 | ⟨i,h1,h2,h3,h4⟩)
    ·exact .inr (.inl h1)
    ·by_cases hm:i=m
     ·subst hm;exact .inl h4
     ·exact .inr (.inr ⟨i,by omega,h2,h3,h4⟩)
  ·rename_i h
   rw[ih]
   constructor
   ·rintro (h1 | ⟨i,h1,h2⟩)
    ·exact .inl h1
    ·exact .inr ⟨i,by omega,h2⟩
   ·rintro (h1 | ⟨i,h1,h2,h3,h4⟩)
    ·exact .inl h1
    ·by_cases hm:i=m
     ·subst hm;exact yB ⟨h2,h3⟩ h
     ·exact .inr ⟨i,by omega,h2,h3,h4⟩
theorem Aad (n:Net) (up:List Bool) (x:Item) (q:List Item) (h:L5 q q.length):∀ m,L5 ((List.range m).foldl (Dx n up x) q) ((List.range m).foldl (Dx n up x) q).length
 | 0=>h
 | m+1=>by
  rw[wV,xF]
  simp only[uD,uX]
  have ih:=Aad n up x q h m
  rw[Dx]
  split
  ·exact Adc _ _ ih
  ·exact ih
theorem Aet {n:Net} {up:List Bool} {K R C R' C':Int→Int} {r c d:Int} (h:Der n up K R C r c d) (hs:∀ e,0≤R e→R' e=R e∧C' e=C e):Der n up K R' C' r c d:=by
 rcases h with h | ⟨i,j,h1,h2,h3,h4,h5⟩
 ·exact .inl h
 ·obtain ⟨e1,e2⟩:=hs _ h3
  exact .inr ⟨i,j,h1,h2,by rw[e1];exact h3,by rw[e1];exact h4,by rw[e2];exact h5⟩
theorem Ayx {n:Net} {up:List Bool} {K R C:Int→Int} {q q':List Item} {x:Item} (h:Dij n up K q R C) (hp:(x::q').Perm q) (hh:L5 q' q'.length) (hx:0≤R x.dev):Dij n up K q' R C:=by
 have hm:∀ y,y∈q↔y=x∨y∈q':=λ y=>by rw[← hp.mem_iff,yI]
 refine⟨hh,λ y hy=>h.items y ((hm y).2 (.inr hy)),h.done,λ d h0 h1 h2=>?_,λ i j hij h1 h2=>?_,λ d h0 h1 h2 y hy=>h.low d h0 h1 h2 y ((hm y).2 (.inr hy)),h.self,h.tri⟩
 ·rcases (hm _).1 (h.own d h0 h1 h2) with e | e
  ·rw[← e]at hx;simp only at hx;omega
  ·exact e
 ·rcases (hm _).1 (h.push i j hij h1 h2) with e | e
  ·rw[← e]at hx;simp only at hx;omega
  ·exact e
theorem Ayw {n:Net} {up:List Bool} {K R C R' C':Int→Int} {q q':List Item} {x:Item} (hr:Ac n=true) (hcost:Di n=true) (h:Dij n up K q R C) (hp:(x::q').Perm q) (hh:L5 q' q'.length)
  (hmin:∀ y∈q,Cf y x=false) (hx:R x.dev<0) (hx0:0≤x.root) (_hxd:0≤x.dev∧x.dev<n.devices.length)
  (hR:∀ e,R' e=if e=x.dev then x.root else R e) (hC:∀ e,C' e=if e=x.dev then x.cost else C e) :
  Dij n up K ((List.range n.ports.length).foldl (Dx n up x) q') R' C':=by
 have hm:∀ y,y∈q↔y=x∨y∈q':=λ y=>by rw[← hp.mem_iff,yI]
 have hn:=λ y=>Ac7 n up x q' y n.ports.length
 have hs:∀ e,0≤R e→R' e=R e∧C' e=C e:=λ e he=>by
  have:e≠x.dev:=λ h=>by rw[h]at he;omega
  rw[hR,hC,zD this,zD this]
  exact⟨E,E⟩
 have hRd:R' x.dev=x.root:=by rw[hR,zE rfl]
 have hCd:C' x.dev=x.cost:=by rw[hC,zE rfl]
 have hxq:x∈q:=(hm x).2 (.inl rfl)
 have hle:∀ y∈q,Le2 x.root x.cost y.root y.cost:=λ y hy=>Auc (hmin y hy)
 have hnew:∀ y,y∈(List.range n.ports.length).foldl (Dx n up x) q'↔y∈q'∨∃ i j:Nat,Agc n up i j∧Hn n i=x.dev∧y=⟨x.root,x.cost+Xi n j,Hn n j⟩:=λ y=>by
  rw[hn y]
  constructor
  ·rintro (h1 | ⟨i,h1,h2,h3,h4⟩)
   ·exact .inl h1
   ·obtain ⟨j,hj⟩:∃ j:Nat,D7 n up i=j:=⟨(D7 n up i).toNat,by omega⟩
    rw[hj]at h4
    exact .inr ⟨i,j,⟨h1,hj⟩,h2,h4⟩
  ·rintro (h1 | ⟨i,j,h1,h2,h3⟩)
   ·exact .inl h1
   ·refine .inr ⟨i,h1.1,h2,by rw[h1.2];omega,?_⟩
    rw[h1.2]
    exact h3
 refine⟨Aad n up x q' hh _,λ y hy=>?_,λ d h0 h1 h2=>?_,λ d h0 h1 h2=>?_,λ i j hij h1 h2=>?_,λ d h0 h1 h2 y hy=>?_,λ d h0 h1 h2=>?_,λ i j hij h1 h2=>?_⟩
 ·rcases (hnew y).1 hy with hy | ⟨i,j,h1,h2,rfl⟩
  ·exact Aet (h.items y ((hm y).2 (.inr hy))) hs
  ·exact .inr ⟨j,i,Amg hr h1,E,by rw[h2,hRd];exact hx0,by rw[h2,hRd],by rw[h2,hCd]⟩
 ·by_cases hd:d=x.dev
  ·subst hd
   rw[hRd,hCd]
   exact Aet (h.items x hxq) hs
  ·rw[hR,zD hd]at h2
   obtain ⟨e1,e2⟩:=hs d h2
   rw[e1,e2]
   exact Aet (h.done d h0 h1 h2) hs
 ·have hd:d≠x.dev:=λ e=>by rw[e,hRd]at h2;omega
  rw[hR,zD hd]at h2
  refine(hnew _).2 (.inl ?_)
  rcases (hm _).1 (h.own d h0 h1 h2) with e | e
  ·exact yB (zG Item.dev e) hd
  ·exact e
 ·have hd:Hn n i≠x.dev:=λ e=>by rw[e,hRd]at h1;omega
  rw[hR,zD hd]at h1
  by_cases hj:Hn n j=x.dev
  ·rw[hj,hRd,hCd]
   exact(hnew _).2 (.inr ⟨j,i,Amg hr hij,hj,E⟩)
  ·rw[hR,zD hj]at h2
   obtain ⟨e1,e2⟩:=hs _ h2
   rw[e1,e2]
   refine(hnew _).2 (.inl ?_)
   rcases (hm _).1 (h.push i j hij h1 h2) with e | e
   ·exact yB (zG Item.dev e) hd
   ·exact e
 ·have hdx:Le2 (R' d) (C' d) x.root x.cost:=by
   by_cases hd:d=x.dev
   ·subst hd;rw[hRd,hCd];exact .inr ⟨rfl,wE _⟩
   ·rw[hR,zD hd]at h2
    obtain ⟨e1,e2⟩:=hs d h2
    rw[e1,e2]
    exact h.low d h0 h1 h2 x hxq
  rcases (hnew y).1 hy with hy | ⟨i,j,h3,_,rfl⟩
  ·exact Aub hdx (hle y ((hm y).2 (.inr hy)))
  ·exact Al7 hdx (by have:=Alf hcost (Td hr h3);omega)
 ·by_cases hd:d=x.dev
  ·subst hd
   rw[hRd,hCd]
   exact hle _ (h.own _ h0 h1 hx)
  ·rw[hR,zD hd]at h2
   obtain ⟨e1,e2⟩:=hs d h2
   rw[e1,e2]
   exact h.self d h0 h1 h2
 ·have hj:=Td hr hij
  have hpc:=Alf hcost hij.1
  have hne:=(Ahc hr hij).choose_spec.2.2.2.2.2
  by_cases hd:Hn n i=x.dev
  ·rw[hd,hRd,hCd]
   have hjd:Hn n j≠x.dev:=λ e=>hne (by rw[hd,e])
   rw[hR,zD hjd]at h2
   obtain ⟨e1,e2⟩:=hs _ h2
   rw[e1,e2]
   exact hle _ (h.push i j hij (by rw[hd];exact hx) h2)
  ·rw[hR,zD hd]at h1
   obtain ⟨e1,e2⟩:=hs _ h1
   rw[e1,e2]
   by_cases hjd:Hn n j=x.dev
   ·rw[hjd,hRd,hCd]
    have hdl:=T6 hr hij.1
    exact Al7 (h.low _ hdl.1 hdl.2 h1 x hxq) q_
   ·rw[hR,zD hjd]at h2
    obtain ⟨e3,e4⟩:=hs _ h2
    rw[e3,e4]
    exact h.tri i j hij h1 h2
def atI (l:List Int) (e:Int):Int:=if e<0 then -1 else nth l e
theorem L3 {l:List Int} {e:Int} (h:0≤e):atI l e=nth l e:=by rw[atI,zD q_]
theorem Ar9 {l:List Int} {d v:Int} (h0:0≤d) (h1:d<l.length) (e:Int):atI (l.set d.toNat v) e=if e=d then v else atI l e:=by
 by_cases he:e<0
 ·rw[atI,zE he,zD q_,atI,zE he]
 ·rw[atI,zD he,atI,zD he,nth,nth,List.getElem?_set]
  by_cases hd:e=d
  ·subst hd
   rw[zE rfl,zE rfl,zE q_]
   rfl
  ·rw[zD q_,zD hd]
structure DijS (n:Net) (up:List Bool) (ranks:List Int) (s:List Item × List Int × List Int):Prop where
 inv:ReachInv n s
 dij:Dij n up (atI ranks) s.1 (atI s.2.1) (atI s.2.2)
 bound:∀ c∈s.2.2,0≤c∧c≤1000000
theorem Ao1 (n:Net) (up:List Bool) (ranks:List Int) (hr:Ac n=true) (hcost:Di n=true) (s:List Item × List Int × List Int) (hI:DijS n up ranks s) (hne:s.1≠[]):DijS n up ranks (O4 n up s):=by
 have hf:=Hf hr
 have h1:=(Lh n up hr hcost s hI.inv hne).1
 have hrest:=Awx s.1 hne
 have hheap:=Awy s.1 hne hI.dij.heap
 have hleast:=Ato s.1 hI.dij.heap
 have hx:=hI.inv.items _ (hrest.mem_iff.1 (List.mem_cons_self ..))
 have hrl:=hI.inv.rootsL
 have hcl:=hI.inv.costsL
 have hd:=hI.dij
 have hb:=hI.bound
 rw[O4,Adt hne,Ala s.1 hne]at *
 generalize s.1.getD 0 default=x at *
 try simp only at *
 have ea:nth s.2.1 x.dev=atI s.2.1 x.dev:=(L3 hx.1).symm
 rw[ea];rw[ea]at h1
 split
 ·rename_i hc
  rw[zE hc]at h1
  exact⟨h1,Ayx hd hrest hheap hc,hb⟩
 ·rename_i hc
  rw[zD hc]at h1
  refine⟨h1,Ayw hr hcost hd hrest hheap hleast q_ hx.2.2.1 ⟨hx.1,hx.2.1⟩ (Ar9 hx.1 q_) (Ar9 hx.1 q_),λ c hc=>?_⟩
  rcases uJ hc with h | h
  ·exact hb c h
  ·omega
theorem Ada (n:Net) (up:List Bool) (ranks:List Int) (hr:Ac n=true) (hcost:Di n=true):∀ (f:Nat) (s:List Item × List Int × List Int),DijS n up ranks s→reachM s≤f→DijS n up ranks (H7 n up f s)∧(H7 n up f s).1=[]
 | 0,s,h,hf=>⟨h,zU (by unfold reachM at hf;rw[H7];omega)⟩
 | f+1,s,h,hf=>by
  rw[H7]
  split
  ·rename_i he;exact⟨h,he⟩
  ·rename_i hne
   exact Ada n up ranks hr hcost f _ (Ao1 n up ranks hr hcost s h hne) (by have:=(Lh n up hr hcost s h.inv hne).2;omega)
structure Solved (n:Net) (up:List Bool) (ranks roots costs:List Int):Prop where
 rootsL:roots.length=n.devices.length
 costsL:costs.length=n.devices.length
 bound:∀ c∈costs,0≤c∧c≤1000000
 root:∀ d:Int,0≤d→d<n.devices.length→0≤nth roots d
 self:∀ d:Int,0≤d→d<n.devices.length→Le2 (nth roots d) (nth costs d) (nth ranks d) 0
 tri:∀ i j:Nat,Agc n up i j→Le2 (nth roots (Hn n i)) (nth costs (Hn n i)) (nth roots (Hn n j)) (nth costs (Hn n j)+Xi n i)
 der:∀ d:Int,0≤d→d<n.devices.length→(nth roots d=nth ranks d∧nth costs d=0)∨∃ i j:Nat,Agc n up i j∧Hn n i=d∧nth roots d=nth roots (Hn n j)∧nth costs d=nth costs (Hn n j)+Xi n i
theorem As1 (n:Net) (up:List Bool) (ranks:List Int) (hr:Ac n=true) (s:List Item × List Int × List Int) (h:DijS n up ranks s) (he:s.1=[]):Solved n up ranks s.2.1 s.2.2:=by
 have hd:=h.dij
 rw[he]at hd
 have h0:∀ d:Int,0≤d→d<n.devices.length→0≤atI s.2.1 d:=λ d h1 h2=>by
  by_cases hc:0≤atI s.2.1 d
  ·exact hc
  ·have:=hd.own d h1 h2 q_
   simp at this
 refine⟨h.inv.rootsL,h.inv.costsL,h.bound,λ d h1 h2=>?_,λ d h1 h2=>?_,λ i j hij=>?_,λ d h1 h2=>?_⟩
 ·have:=h0 d h1 h2
  rwa [L3 h1]at this
 ·have:=hd.self d h1 h2 (h0 d h1 h2)
  simpa only [L3 h1] using this
 ·have hi:=T6 hr hij.1
  have hj:=T6 hr (Td hr hij)
  have:=hd.tri i j hij (h0 _ hi.1 hi.2) (h0 _ hj.1 hj.2)
  simpa only [L3 hi.1,L3 hj.1] using this
 ·rcases hd.done d h1 h2 (h0 d h1 h2) with h3 | ⟨i,j,h3,h4,_,h5,h6⟩
  ·simp only[L3 h1]at h3
   exact .inl h3
  ·have hj:=T6 hr (Td hr h3)
   simp only[L3 h1,L3 hj.1]at h5 h6
   exact .inr ⟨i,j,h3,h4,h5,h6⟩
theorem Zd (ranks:List Int) (y:Item):∀ j,y∈Ez ranks j↔∃ i,i<j∧y=⟨ranks.getD i 0,0,i⟩
 | 0=>by simp[Ez]
 | j+1=>by
  rw[J8,(O6 _ _).mem_iff,yI,Zd ranks y j]
  constructor
  ·rintro (h | ⟨i,h1,h2⟩)
   ·exact⟨j,by omega,h⟩
   ·exact⟨i,by omega,h2⟩
  ·rintro ⟨i,h1,h2⟩
   by_cases h:i=j
   ·subst h;exact .inl h2
   ·exact .inr ⟨i,by omega,h2⟩
theorem Acq (ranks:List Int):∀ j,L5 (Ez ranks j) (Ez ranks j).length
 | 0=>λ c _ h2 _=>by simp[Ez]at h2
 | j+1=>by
  rw[J8]
  exact Adc _ _ (Acq ranks j)
theorem Afv {v:Int} {m:Nat} {d:Int} (h1:d<m) (h0:0≤d):nth (List.replicate m v) d=v:=by
 rw[Aj (by simp;omega)];simp
theorem Asz (n:Net) (up:List Bool) (ranks:List Int) (hr:Ac n=true) (hrk:ranks.length=n.devices.length) (hrr:∀ r∈ranks,0≤r) :
  DijS n up ranks (Ez ranks ranks.length,List.replicate n.devices.length (-1),List.replicate n.devices.length 0):=by
 have hneg:∀ d:Int,0≤d→d<n.devices.length→atI (List.replicate n.devices.length (-1)) d=-1:=λ d h0 h1=>by rw[L3 h0,Afv h1 h0]
 refine⟨Agi n ranks _ _ hr hrk y_ y_ hrr,⟨Acq ranks _,λ x hx=>?_,λ d h0 h1 h2=>?_,λ d h0 h1 h2=>?_,λ i j hij h1 h2=>?_,λ d h0 h1 h2=>?_,λ d h0 h1 h2=>?_,λ i j hij h1 h2=>?_⟩,λ c hc=>?_⟩
 ·obtain ⟨i,h1,rfl⟩:=(Zd ranks x _).1 hx
  refine .inl ⟨?_,E⟩
  simp only
  rw[L3 q_,Aj (by simpa using h1),Bi h1]
  rfl
 ·rw[hneg d h0 h1]at h2;omega
 ·refine(Zd ranks _ _).2 ⟨d.toNat,by omega,?_⟩
  rw[L3 h0,Aj q_,Bi q_,xN h0]
 ·have hj:=T6 hr (Td hr hij)
  rw[hneg _ hj.1 hj.2]at h2;omega
 ·rw[hneg d h0 h1]at h2;omega
 ·rw[hneg d h0 h1]at h2;omega
 ·have hj:=T6 hr (Td hr hij)
  rw[hneg _ hj.1 hj.2]at h2;omega
 ·have:=List.eq_of_mem_replicate hc
  omega
def Sw (n:Net) (up:List Bool) (ranks:List Int):List Item × List Int × List Int:=Kt n up (Ez ranks ranks.length,List.replicate n.devices.length (-1),List.replicate n.devices.length 0)
theorem Afl (n:Net) (up:List Bool) (ranks:List Int) (hr:Ac n=true) (hcost:Di n=true) (hrk:ranks.length=n.devices.length) (hrr:∀ r∈ranks,0≤r):Solved n up ranks (Sw n up ranks).2.1 (Sw n up ranks).2.2:=by
 obtain ⟨h1,h2⟩:=Ada n up ranks hr hcost _ _ (Asz n up ranks hr hrk hrr) (yC _)
 exact As1 n up ranks hr _ h1 h2
end Go.Sy.YtiijbikecbjdaaaGreatDoor
namespace Go.Sy.YtiijbikecbjdaaaGreatDoor
section
variable {n:Net} {up:List Bool} {ranks roots costs:List Int}
def rolesL (n:Net) (up:List Bool) (ranks roots costs:List Int):List Int:=Mm n up ranks roots costs n.devices.length
def Ayk (roles:List Int) (l:Link):Bool:=inB [nth roles l.a,nth roles l.b] 1 && inB [nth roles l.a,nth roles l.b] 2
def fwdL (n:Net) (roles:List Int):List Bool:=n.links.map (Ayk roles)
end
end Go.Sy.YtiijbikecbjdaaaGreatDoor
