/-
  K27 K28 K29 K30 K31 K32 K33 K34 Sy24 T1 T2 T3 T4 V6 V7 V8 T5 T6 T7 T8 T9 T10 T11: parts of a proof, joined by program.
-/
import Derived.Test.YtljngfegfclkpaaGreatYA9
import Derived.Test.YtljngfegfclkpaaGreatYA5
import Derived.Test.YtljngfegfclkpaaGreatYA8
import Derived.Test.YtljngfegfclkpaaGreatYA4
set_option linter.all false
set_option linter.unusedVariables false
set_option linter.unusedSimpArgs false
set_option linter.deprecated false
namespace Go.Sy.YtljngfegfclkpaaGreat
open Go.Proofs
attribute [local irreducible] Go.Sy.G Go.Sy.DR
set_option maxRecDepth 100000
set_option maxHeartbeats 4000000
theorem Aaw (a b:Nat) (ha:a<4294967296) (hb:b<4294967296):bits .or .u32 (a:Int) (b:Int)=((a ||| b:Nat):Int):=by
 have hx:a ||| b<2 ^ 32:=Nat.or_lt_two_pow q_ q_
 have h1:(BitVec.ofInt 32 (a:Int)).toNat=a:=by
  rw[BitVec.ofInt_natCast,BitVec.toNat_ofNat];exact yW q_
 have h2:(BitVec.ofInt 32 (b:Int)).toNat=b:=by
  rw[BitVec.ofInt_natCast,BitVec.toNat_ofNat];exact yW q_
 show IntKind.u32.wrap ((BitVec.ofInt 32 (a:Int) ||| BitVec.ofInt 32 (b:Int)).toNat:Int)=_
 rw[BitVec.toNat_or,h1,h2,IntKind.wrap_u32]
 omega
theorem Aru (x:UInt8) (k:UInt8):((x.toNat:Int) != (k.toNat:Int))=decide (x≠k):=by
 rw[xO]
 simp only[yV,zG,ne_eq,← UInt8.toNat_inj]
 omega
theorem W0 (b:List UInt8) (k:Nat) (h:k+2≤b.length) (hb:b.length<100000):Sp 279 [.sl 1 Al b,Aa k] (Aa (numAt b k 2)):=cT F279 Tryz.ntmps279 λ F hF=>by
 have i0:((k:Nat):Int).toNat<b.length:=by simpa using (by omega:k<b.length)
 have i1:((k:Int)+1).toNat<b.length:=by omega
 have e0:b[((k:Nat):Int).toNat]'i0=b[k]'q_:=rfl
 have e1:b[((k:Int)+1).toNat]'i1=b[k+1]'q_:=rfl
 have hp:=H1 (b[k]'q_) (b[k+1]'q_)
 have hn:=Vh h
 rw[← hn]at hp
 conv=>whnf
 refine⟨E,by omega,i0,?_⟩
 rw[e0]
 conv=>whnf
 refine⟨by decide,?_⟩
 conv=>whnf
 refine iW ?_
 refine⟨E,by omega,i1,?_⟩
 rw[e1]
 conv=>whnf
 refine⟨z_,?_⟩
 rw[hp]
 conv=>whnf
 exact dN
theorem Avs (x y:Nat) (hx:x<65536) (hy:y<65536):bits .or .u32 (IntKind.u32.wrap ((IntKind.u32.wrap (x:Int)) * 2 ^ min (Int.toNat 16) IntKind.u32.bits)) (IntKind.u32.wrap (y:Int))=((x * 65536+y:Nat):Int):=by
 have e1:IntKind.u32.wrap (x:Int)=(x:Int):=by rw[IntKind.wrap_u32];omega
 have e2:IntKind.u32.wrap (y:Int)=(y:Int):=by rw[IntKind.wrap_u32];omega
 rw[e1,e2]
 have e3:IntKind.u32.wrap ((x:Int) * 2 ^ min (Int.toNat 16) IntKind.u32.bits)=((x * 65536:Nat):Int):=by
  show IntKind.u32.wrap ((x:Int) * 65536)=_
  rw[IntKind.wrap_u32]
  omega
 rw[e3,Aaw _ _ q_ q_]
 congr 1
 have h:=xI (i:=16) (b:=y) q_ x
 rw[vH x 65536]
 exact h.symm
theorem Arg (b:List UInt8) (k:Nat) (h:k+4≤b.length) (hb:b.length<100000):Sp 281 [.sl 1 Al b,Aa k] (A8 (numAt b k 4)):=cT F281 Tryz.ntmps281 λ F hF=>by
 have q1:=W0 b k q_ hb
 have q2:=W0 b (k+2) q_ hb
 rw[show ((k+2:Nat):Int)=(k:Int)+2 by omega]at q2
 have hf:=Avs (numAt b k 2) (numAt b (k+2) 2) (by have:=M9 b k 2;omega) (by have:=M9 b (k+2) 2;omega)
 rw[← Aoj h]at hf
 conv=>whnf
 refine c0 q1 F279 ?_
 refine oO ?_
 refine⟨by decide,?_⟩
 conv=>whnf
 refine iW ?_
 refine c0 q2 F279 ?_
 refine oO ?_
 rw[hf]
 exact dN
theorem Ase (l:List UInt8) (hl:l.length<100000) (h2:l.length % 2=0):Sp 280 [.sl 1 Al l] (Ac (decide (E8 (L8 l (l.length / 2))=65535))):=cT F280 Tryz.ntmps280 λ F hF=>by
 have ha:=Aqk l hl h2
 conv=>whnf
 refine c0 ha F117 ?_
 refine oO ?_
 refine Ap E (.cons .tmp .nil) (zD Ac ?_) E
 rw[xO]
 simp only[yA,zG]
 omega
abbrev zP:List SV:=[Aa 0,Aa 0,Aa 0,Aa 0,A8 0,A8 0,.sl 1 Al []]
theorem Arf (b:List UInt8) (hb:b.length<100000):Sp 224 [.sl 1 Al b] (.tup [Wn (ipTakeT b).1,Aa (ipTakeT b).2]):=cT F224 Tryz.ntmps224 λ F hF=>by
 have hres:=ipTakeT.eq_1 b
 generalize ipTakeT b=res at *
 conv=>whnf
 constructor<;>intro h
 ·rw[zC (qA h)]at hres
  subst hres
  refine oO ?_
  refine Am 2 zP E vL ?_
  exact dN
 have h20:20≤b.length:=qB h
 rw[zA q_]at hres
 clear h
 have i0:(0:Int).toNat<b.length:=by show 0<_;omega
 have i1:(1:Int).toNat<b.length:=by show 1<_;omega
 have i8:(8:Int).toNat<b.length:=by show 8<_;omega
 have i9:(9:Int).toNat<b.length:=by show 9<_;omega
 have e0:b[(0:Int).toNat]'i0=bAt b 0:=(Aiw q_).symm
 have q2:=W0 b 2 q_ hb
 have q4:=W0 b 4 q_ hb
 have q6:=W0 b 6 q_ hb
 have q12:=Arg b 12 q_ hb
 have q16:=Arg b 16 q_ hb
 have hl20:(b.take 20).length=20:=by rw[zU];omega
 have hdiv:(b.take 20).length / 2=10:=by rw[hl20]
 have qs:=Ase (b.take 20) q_ (by rw[hl20])
 rw[hdiv]at qs
 refine oO ?_
 refine⟨E,by decide,i0,?_⟩
 rw[e0]
 conv=>whnf
 constructor<;>intro h
 ·rw[zC (.inl (by rw[show ((69:Int))=((69:UInt8).toNat:Int) from rfl,Aru]at h;exact zK h))]at hres
  subst hres
  refine oT ?_
  refine Am 2 zP E vL ?_
  exact dN
 have h69:¬ bAt b 0≠69:=by rw[show ((69:Int))=((69:UInt8).toNat:Int) from rfl,Aru]at h;exact zN h
 clear h
 refine oO ?_
 refine c0 q2 F279 ?_
 refine oO ?_
 constructor<;>intro h
 ·rw[zC (.inr (qA h))]at hres
  subst hres
  refine oO ?_
  refine Am 2 zP E vL ?_
  exact dN
 have hs20:20≤numAt b 2 2:=qB h
 rw[zA (λ h=>h.elim h69 q_)]at hres
 clear h
 refine oO ?_
 refine c0 q2 F279 ?_
 refine oO ?_
 constructor<;>intro h
 ·rw[zC (qA h)]at hres
  subst hres
  refine oO ?_
  refine Am 2 zP E vL ?_
  exact dN
 have hsl:numAt b 2 2≤b.length:=qB h
 rw[zA q_]at hres
 clear h
 refine oO ?_
 refine c0 q6 F279 ?_
 refine oO ?_
 constructor<;>intro h
 ·rw[zC (by have:(numAt b 6 2:Int)≠0:=(by simpa using h);omega)]at hres
  subst hres
  refine oO ?_
  refine Am 2 zP E vL ?_
  exact dN
 rw[zA (by have:(numAt b 6 2:Int)=0:=(by simpa using h);omega)]at hres
 clear h
 refine oO ?_
 refine Ag (Dk (lo:=0) (hi:=20) Γ.toTy E E E E (.inl ⟨E,E⟩) (.inr ⟨_,_,E,E⟩) q_ h20) E E ?_
 refine oO ?_
 refine c0 qs F280 ?_
 by_cases hsum:E8 (L8 (b.take 20) 10)=65535
 rotate_left
 ·rw[zC hsum]at hres
  subst hres
  rw[zJ hsum]
  refine oT ?_
  refine Am 2 zP E vL ?_
  exact dN
 rw[zA (λ h=>h hsum)]at hres
 subst hres
 rw[zL hsum]
 have qc:=Qg ((b.take (numAt b 2 2)).drop 20) (by rw[yN,zU];omega)
 have w1:IntKind.i64.wrap ((b[(1:Int).toNat]'i1).toNat:Int)=((bAt b 1).toNat:Int):=by
  rw[Aiw (show 1<b.length by omega)]
  have:=(b[1]'q_).toNat_lt
  show IntKind.i64.wrap ((b[1]'q_).toNat:Int)=_
  rw[IntKind.wrap_i64];omega
 have w8:IntKind.i64.wrap ((b[(8:Int).toNat]'i8).toNat:Int)=((bAt b 8).toNat:Int):=by
  rw[Aiw (show 8<b.length by omega)]
  have:=(b[8]'q_).toNat_lt
  show IntKind.i64.wrap ((b[8]'q_).toNat:Int)=_
  rw[IntKind.wrap_i64];omega
 have w9:IntKind.i64.wrap ((b[(9:Int).toNat]'i9).toNat:Int)=((bAt b 9).toNat:Int):=by
  rw[Aiw (show 9<b.length by omega)]
  have:=(b[9]'q_).toNat_lt
  show IntKind.i64.wrap ((b[9]'q_).toNat:Int)=_
  rw[IntKind.wrap_i64];omega
 refine oF ?_
 refine⟨E,by decide,i1,?_⟩
 conv=>whnf
 refine cD q4 F279 ?_
 refine oD ?_
 refine⟨E,by decide,i8,?_⟩
 conv=>whnf
 refine⟨E,by decide,i9,?_⟩
 conv=>whnf
 refine cD q12 F281 ?_
 refine oD ?_
 refine cD q16 F281 ?_
 refine oD ?_
 refine cD q2 F279 ?_
 refine oD ?_
 refine Bs (Dk (lo:=20) (hi:=numAt b 2 2) Γ.toTy E E E E (.inr ⟨_,_,E,E⟩) (.inr ⟨_,_,E,E⟩) hs20 hsl) z_ E ?_
 refine oD ?_
 refine cD qc F217 ?_
 refine oD ?_
 refine kW ?_
 refine Ap E (.cons (.cell E E E E) (.cons .tmp .nil)) ?_ E
 show SV.tup [.agg [Aa (bAt b 1).toNat,_,Aa (bAt b 8).toNat,Aa (bAt b 9).toNat,_,_,_],_]=SV.tup [.agg [Aa (IntKind.i64.wrap ((b[(1:Int).toNat]'i1).toNat:Int)),_,Aa (IntKind.i64.wrap ((b[(8:Int).toNat]'i8).toNat:Int)),Aa (IntKind.i64.wrap ((b[(9:Int).toNat]'i9).toNat:Int)),_,_,_],_]
 rw[w1,w8,w9]
 rfl
theorem Awx (t:Nat) (h:t≤255):bits .or .i64 17664 (t:Int)=((17664+t:Nat):Int):=by
 have h1:=D8 17664 t j_ q_
 rw[show ((17664:Nat):Int)=17664 from rfl]at h1
 rw[h1]
 congr 1
 have h2:=xI (i:=8) (b:=t) q_ 69
 rw[show 2 ^ 8 * 69=17664 from rfl]at h2
 rw[← h2]
theorem Az4 (x y:Nat) (hx:x≤255) (hy:y≤255):bits .or .i64 (IntKind.i64.wrap ((x:Int) * 2 ^ min (Int.toNat 8) IntKind.i64.bits)) (y:Int)=((x * 256+y:Nat):Int):=by
 have h3:IntKind.i64.wrap ((x:Int) * 2 ^ min (Int.toNat 8) IntKind.i64.bits)=((x * 256:Nat):Int):=by
  show IntKind.i64.wrap ((x:Int) * 256)=_
  rw[IntKind.wrap_i64]
  omega
 rw[h3,D8 _ _ q_ q_]
 congr 1
 have h:=xI (i:=8) (b:=y) q_ x
 rw[vH x 256]
 exact h.symm
theorem Alk (x:Nat) (h:x<4294967296):IntKind.i64.wrap ((x:Int).fdiv (2 ^ (min (Int.toNat 16) IntKind.u32.bits)))=((x / 65536:Nat):Int):=by
 show IntKind.i64.wrap ((x:Int).fdiv 65536)=_
 rw[xY _ j_,IntKind.wrap_i64]
 omega
theorem Aq8 (x:Nat) (h:x<4294967296):IntKind.i64.wrap (x:Int)=(x:Int):=by rw[IntKind.wrap_i64];omega
theorem Ah0 (p:PacketM) (hp:PacketOK p) (hb:p.body.length<100000):Sp 27 [Wn p] (.tup [.sl 1 Al (ipPutT p).1,Aa (ipPutT p).2]):=cT F27 Tryz.ntmps27 λ F hF=>by
 have hres:=ipPutT.eq_1 p
 generalize ipPutT p=res at *
 have h1:=hp.tos
 have h2:=hp.id
 have h3:=hp.ttl
 have h4:=hp.proto
 have h5:=hp.src
 have h6:=hp.dst
 conv=>whnf
 refine Eg ⟨⟨_,_,F70⟩,Ag5 p.tos 255 q_⟩ E E E E E E ?_
 refine oF ?_
 refine Eg ⟨⟨_,_,F70⟩,Ag5 p.ttl 255 q_⟩ E E E E E E ?_
 refine oF ?_
 refine Eg ⟨⟨_,_,F70⟩,Ag5 p.proto 255 q_⟩ E E E E E E ?_
 refine oF ?_
 refine Eg ⟨⟨_,_,F70⟩,Ag5 p.id 65535 q_⟩ E E E E E E ?_
 refine oF ?_
 constructor<;>intro h
 ·rw[zC (qA h)]at hres
  subst hres
  refine oO ?_
  refine Ao 2 1 Al E ?_
  exact dN
 have hl:p.body.length≤1480:=qB h
 rw[zA q_]at hres
 subst hres
 clear h
 have hsz:E7 p=((Er p 0).set 10 (UInt8.ofNat (Hr p / 256))).set 11 (UInt8.ofNat (Hr p))++p.body:=by rw[Ao4,E7]
 rw[hsz]
 have hil:=Ic p 0
 have hs:=sumOfS (Er p 0) (by rw[hil];decide) (by rw[hil])
 have hput:=Axt [17664+p.tos,20+p.body.length,p.id,0,p.ttl * 256+p.proto,0,p.src / 65536,p.src,p.dst / 65536,p.dst] y_
 rw[show Lq [17664+p.tos,20+p.body.length,p.id,0,p.ttl * 256+p.proto,0,p.src / 65536,p.src,p.dst / 65536,p.dst]=Er p 0 from rfl]at hput
 have hss:Afa (Er p 0)=Hr p:=rfl
 rw[hss]at hs
 have hsl:Hr p≤65535:=Nat.sub_le _ _
 generalize Hr p=s at *
 have htb:=Hw s
 have o1:=Awx p.tos h1
 have o2:=Az4 p.ttl p.proto h3 h4
 have g1:=Alk p.src h5
 have g2:=Aq8 p.src h5
 have g3:=Alk p.dst h6
 have g4:=Aq8 p.dst h6
 generalize Er p 0=b at *
 refine oO ?_
 refine iW ?_
 refine⟨by decide,?_⟩
 conv=>whnf
 refine⟨by decide,?_⟩
 conv=>whnf
 refine⟨by decide,?_⟩
 conv=>whnf
 refine Amu 68 (e:=Aw6) (l:=[17664+p.tos,20+p.body.length,p.id,0,p.ttl * 256+p.proto,0,p.src / 65536,p.src,p.dst / 65536,p.dst]) E ?_ ?_
 ·show _=[SV.val (.int .i64 (bits .or .i64 17664 (p.tos:Int))),SV.val _,SV.val _,SV.val _,SV.val (.int .i64 (bits .or .i64 (IntKind.i64.wrap ((p.ttl:Int) * 2 ^ min (Int.toNat 8) IntKind.i64.bits)) (p.proto:Int))),SV.val _,
   SV.val (.int .i64 (IntKind.i64.wrap ((p.src:Int).fdiv (2 ^ (min (Int.toNat 16) IntKind.u32.bits))))),SV.val (.int .i64 (IntKind.i64.wrap (p.src:Int))),SV.val (.int .i64 (IntKind.i64.wrap ((p.dst:Int).fdiv (2 ^ (min (Int.toNat 16) IntKind.u32.bits))))),SV.val (.int .i64 (IntKind.i64.wrap (p.dst:Int)))]
  rw[o1,o2,g1,g2,g3,g4]
  rfl
 refine Ai 68 E ?_
 refine Ag (Ad [(0,69)] E F71 hput E Y E ⟨.inr E,Y⟩) E E ?_
 refine oO ?_
 refine Art [69] hs F72 E (.cons (.row E E) .nil) E E E ?_
 refine oO ?_
 have hb1:=(List.cons.inj htb).1
 have hb2:=(List.cons.inj (List.cons.inj htb).2).1
 refine⟨by omega,?_⟩
 conv=>whnf
 refine⟨by decide,by rw[hil];decide,?_⟩
 conv=>whnf
 refine⟨E,by rw[hil];decide,UInt8.ofNat (s / 256),zD (λ z=>[z]) hb1,E,?_⟩
 conv=>whnf
 refine⟨by decide,by simp[hil],?_⟩
 conv=>whnf
 refine⟨E,by simp[hil],UInt8.ofNat s,zD (λ z=>[z]) hb2,E,?_⟩
 conv=>whnf
 refine Ag (Ah Γ.toTy 84 E E E E E (.row E) .sl j_ (by simp[hil];omega) (by simp[hil];omega)) E E ?_
 refine Ai 84 E ?_
 refine oO ?_
 exact dN
def hop1 (p:PacketM):PacketM × Int:=if p.ttl≤1 then (noP,13) else (Ah4 p,0)
theorem ipHopS (p:PacketM) (hb:p.body.length<100000) (ht:p.ttl≤255):Sp 225 [Wn p] (.tup [Wn (hop1 p).1,Aa (hop1 p).2]):=cT F225 Tryz.ntmps225 λ F hF=>by
 have hres:=hop1.eq_1 p
 generalize hop1 p=res at *
 have qc:=Qg p.body q_
 conv=>whnf
 constructor<;>intro h
 ·rw[zC (qA h)]at hres
  subst hres
  refine oO ?_
  refine Am 2 zP E vL ?_
  exact dN
 have h2:¬ p.ttl≤1:=qB h
 rw[zA h2]at hres
 subst hres
 have e:((p.ttl-1:Nat):Int)=(p.ttl:Int)-1:=by omega
 refine oO ?_
 refine iW ?_
 refine c0 qc F217 ?_
 refine oO ?_
 refine Ap E (.cons (.cell E E E E) (.cons .tmp .nil)) ?_ E
 show SV.tup [.agg [_,_,Aa ((p.ttl-1:Nat):Int),_,_,_,_],_]=SV.tup [.agg [_,_,Aa ((p.ttl:Int)-1),_,_,_,_],_]
 rw[e]
 rfl
def udpU (b:List UInt8):Nat→List SV
 | 0=>[Aa 0,Aa 0,Aa 0,Aa 0]
 | 1=>[Aa (numAt b 0 2),Aa 0,Aa 0,Aa 0]
 | 2=>[Aa (numAt b 0 2),Aa (numAt b 2 2),Aa 0,Aa 0]
 | 3=>[Aa (numAt b 0 2),Aa (numAt b 2 2),Aa (numAt b 4 2),Aa 0]
 | _=>[Aa (numAt b 0 2),Aa (numAt b 2 2),Aa (numAt b 4 2),Aa (numAt b 6 2)]
theorem Avq (b:List UInt8) (hb:b.length<100000):Sp 318 [.sl 1 Al b] (.tup [Aa (udpTakeT b).1,Aa (udpTakeT b).2.1,.sl 1 Al (udpTakeT b).2.2.1,Aa (udpTakeT b).2.2.2]):=cT F318 Tryz.ntmps318 λ F hF=>by
 have hres:=udpTakeT.eq_1 b
 generalize udpTakeT b=res at *
 conv=>whnf
 constructor<;>intro h
 ·rw[zC (qA h)]at hres
  subst hres
  refine oO ?_
  refine Ao 4 1 Al E ?_
  exact dN
 have h8:8≤b.length:=qB h
 rw[zA q_]at hres
 clear h
 have hp0:=H1 (b[0]'q_) (b[1]'q_)
 rw[← Vh (show 0+2≤b.length by omega)]at hp0
 have hp1:=H1 (b[2]'q_) (b[3]'q_)
 rw[← Vh (show 2+2≤b.length by omega)]at hp1
 have hp2:=H1 (b[4]'q_) (b[5]'q_)
 rw[← Vh (show 4+2≤b.length by omega)]at hp2
 have hp3:=H1 (b[6]'q_) (b[7]'q_)
 rw[← Vh (show 6+2≤b.length by omega)]at hp3
 refine oO ?_
 refine A5 4 (λ j=>[(0,.sl 1 Al b),(6,.ptr 6 0),(11,Aa j)]) (λ j=>[(6,.box (udpU b j))]) [] ⟨⟨E,E,E,E,E,E,Y⟩,⟨.inl E,E,Y⟩,E,E⟩ ?_
 intro j hj
 have hcase:j=0∨j=1∨j=2∨j=3∨j=4:=by omega
 rcases hcase with rfl | rfl | rfl | rfl | rfl
 ·refine oT ?_
  refine iW ?_
  refine⟨E,by omega,by omega,?_⟩
  conv=>whnf
  refine⟨by decide,?_⟩
  conv=>whnf
  refine iW ?_
  refine iW ?_
  refine⟨E,by omega,by omega,?_⟩
  conv=>whnf
  refine⟨by decide,by decide,?_⟩
  conv=>whnf
  refine kW ?_
  refine iW ?_
  exact Ax [] j_ ⟨⟨E,E,E,E,E,E,Y⟩,⟨.inl (zD (λ z:Int=>Ob.box [Aa z,Aa 0,Aa 0,Aa 0]) hp0.symm),E,Y⟩,E,E⟩
 ·refine oT ?_
  refine iW ?_
  refine⟨E,by omega,by omega,?_⟩
  conv=>whnf
  refine⟨by decide,?_⟩
  conv=>whnf
  refine iW ?_
  refine iW ?_
  refine⟨E,by omega,by omega,?_⟩
  conv=>whnf
  refine⟨by decide,by decide,?_⟩
  conv=>whnf
  refine kW ?_
  refine iW ?_
  exact Ax [] j_ ⟨⟨E,E,E,E,E,E,Y⟩,⟨.inl (zD (λ z:Int=>Ob.box [Aa (numAt b 0 2),Aa z,Aa 0,Aa 0]) hp1.symm),E,Y⟩,E,E⟩
 ·refine oT ?_
  refine iW ?_
  refine⟨E,by omega,by omega,?_⟩
  conv=>whnf
  refine⟨by decide,?_⟩
  conv=>whnf
  refine iW ?_
  refine iW ?_
  refine⟨E,by omega,by omega,?_⟩
  conv=>whnf
  refine⟨by decide,by decide,?_⟩
  conv=>whnf
  refine kW ?_
  refine iW ?_
  exact Ax [] j_ ⟨⟨E,E,E,E,E,E,Y⟩,⟨.inl (zD (λ z:Int=>Ob.box [Aa (numAt b 0 2),Aa (numAt b 2 2),Aa z,Aa 0]) hp2.symm),E,Y⟩,E,E⟩
 ·refine oT ?_
  refine iW ?_
  refine⟨E,by omega,by omega,?_⟩
  conv=>whnf
  refine⟨by decide,?_⟩
  conv=>whnf
  refine iW ?_
  refine iW ?_
  refine⟨E,by omega,by omega,?_⟩
  conv=>whnf
  refine⟨by decide,by decide,?_⟩
  conv=>whnf
  refine kW ?_
  refine iW ?_
  exact Ax [] j_ ⟨⟨E,E,E,E,E,E,Y⟩,⟨.inl (zD (λ z:Int=>Ob.box [Aa (numAt b 0 2),Aa (numAt b 2 2),Aa (numAt b 4 2),Aa z]) hp3.symm),E,Y⟩,E,E⟩
 clear hp0 hp1 hp2 hp3
 refine oF ?_
 refine⟨by decide,by decide,?_⟩
 conv=>whnf
 constructor<;>intro h
 ·rw[zC (qA h)]at hres
  subst hres
  refine oO ?_
  refine Ao 4 1 Al E ?_
  exact dN
 have hs8:8≤numAt b 4 2:=qB h
 rw[zA q_]at hres
 clear h
 refine oO ?_
 refine⟨by decide,by decide,?_⟩
 conv=>whnf
 constructor<;>intro h
 ·rw[zC (qA h)]at hres
  subst hres
  refine oO ?_
  refine Ao 4 1 Al E ?_
  exact dN
 have hsl:numAt b 4 2≤b.length:=qB h
 rw[zA q_]at hres
 clear h
 refine oO ?_
 refine⟨by decide,by decide,?_⟩
 conv=>whnf
 constructor<;>intro h
 ·rw[zC (by have:(numAt b 6 2:Int)≠0:=(by simpa using h);omega)]at hres
  subst hres
  refine oO ?_
  refine Ao 4 1 Al E ?_
  exact dN
 rw[zA (by have:(numAt b 6 2:Int)=0:=(by simpa using h);omega)]at hres
 subst hres
 clear h
 have qc:=Qg ((b.take (numAt b 4 2)).drop 8) (by rw[yN,zU];omega)
 refine oO ?_
 refine⟨by decide,by decide,?_⟩
 conv=>whnf
 refine⟨by decide,by decide,?_⟩
 conv=>whnf
 refine⟨by decide,by decide,?_⟩
 conv=>whnf
 refine Bs (Dk (lo:=8) (hi:=numAt b 4 2) Γ.toTy E E E E (.inr ⟨_,_,E,E⟩) (.inr ⟨_,_,E,E⟩) hs8 hsl) z_ E ?_
 refine oD ?_
 refine cD qc F217 ?_
 refine oD ?_
 refine kW ?_
 exact dN
theorem Azl (src dst:Nat) (body:List UInt8) (h1:src≤65535) (h2:dst≤65535) (h3:body.length≤1472):Sp 290 [Aa src,Aa dst,.sl 1 Al body] (.tup [.sl 1 Al (Aan src dst body),Aa 0]):=cT F290 Tryz.ntmps290 λ F hF=>by
 ((conv=>whnf);refine aF ?_;refine rg ?_;conv=>whnf)
 (refine⟨λ h=>False.elim (by simp at h;omega),λ _=>?_⟩;refine rg ?_;(conv=>whnf);refine aF ?_;refine rg ?_;(conv=>whnf);refine⟨λ h=>False.elim (by simp at h;omega),λ _=>?_⟩;refine rg ?_;(conv=>whnf);refine⟨λ h=>False.elim (by simp at h;omega),λ _=>?_⟩;refine rg ?_;conv=>whnf)
 refine iW ?_
 refine Co 8 1000 1 Al E E ?_
 refine Ag (Z3 Γ.toTy E E E E E E) E E ?_
 refine oO ?_
 have key:∀ (x:Nat) (pre:List Nat),pre.length≤4→C4 (pre++[x])=C4 pre++[UInt8.ofNat (x / 256),UInt8.ofNat x]:=λ x pre _=>J6 pre x
 have hwl:∀ l:List Nat,(C4 l).length=2 * l.length:=Ml
 obtain ⟨ws,hws⟩:∃ ws:List Nat,ws=[src,dst,8+body.length,0]:=⟨_,rfl⟩
 refine A5 4 (λ j=>[(2,.sl 1 Al body),(8,.osl 1000),(35,.agg [Aa src,Aa dst,Aa (8+body.length:Nat),Aa 0]),(36,Aa j)]) (λ j=>[(1000,.row 1 Al (C4 (ws.take j)))]) [] ⟨⟨E,E,E,E,E,E,E,E,Y⟩,⟨.inl (zD (Ob.row 1 Al) (by simp[C4])),E,Y⟩,E,E⟩ ?_
 intro j hj
 have hcase:j=0∨j=1∨j=2∨j=3∨j=4:=by omega
 rcases hcase with rfl | rfl | rfl | rfl | rfl
 ·have hs:C4 (ws.take 1)=C4 (ws.take 0)++[UInt8.ofNat (src / 256),UInt8.ofNat src]:=by subst hws;exact J6 [] src
  have hl:=hwl (ws.take 0)
  have hl2:(ws.take 0).length≤4:=by rw[zU];omega
  have htb:=Hw src
  refine oT ?_
  refine Ag (Cm (k:=.int .i64) Γ.toTy E E E Tryz.underlying3 E E j_ j_ E) E E ?_
  refine oO ?_
  refine⟨by decide,?_⟩
  conv=>whnf
  refine Ag (Ah Γ.toTy 46 E E E E E (.row E) (.lit (e:=Al) (l:=[UInt8.ofNat (src / 256),UInt8.ofNat src]) E htb) y_ (by rw[hl];simp only[yJ,xA];omega) (by rw[hl];simp only[yJ,xA];omega)) E E ?_
  refine oO ?_
  refine iW ?_
  exact Ax [(1000,46)] j_ ⟨⟨E,E,E,E,E,E,E,E,Y⟩,⟨.inl (zD (Ob.row 1 Al) hs),E,Y⟩,E,E⟩
 ·have hs:C4 (ws.take 2)=C4 (ws.take 1)++[UInt8.ofNat (dst / 256),UInt8.ofNat dst]:=by subst hws;exact J6 [src] dst
  have hl:=hwl (ws.take 1)
  have hl2:(ws.take 1).length≤4:=by rw[zU];omega
  have htb:=Hw dst
  refine oT ?_
  refine Ag (Cm (k:=.int .i64) Γ.toTy E E E Tryz.underlying3 E E j_ j_ E) E E ?_
  refine oO ?_
  refine⟨by decide,?_⟩
  conv=>whnf
  refine Ag (Ah Γ.toTy 46 E E E E E (.row E) (.lit (e:=Al) (l:=[UInt8.ofNat (dst / 256),UInt8.ofNat dst]) E htb) y_ (by rw[hl];simp only[yJ,xA];omega) (by rw[hl];simp only[yJ,xA];omega)) E E ?_
  refine oO ?_
  refine iW ?_
  exact Ax [(1000,46)] j_ ⟨⟨E,E,E,E,E,E,E,E,Y⟩,⟨.inl (zD (Ob.row 1 Al) hs),E,Y⟩,E,E⟩
 ·have hs:C4 (ws.take 3)=C4 (ws.take 2)++[UInt8.ofNat ((8+body.length) / 256),UInt8.ofNat (8+body.length)]:=by subst hws;exact J6 [src,dst] (8+body.length)
  have hl:=hwl (ws.take 2)
  have hl2:(ws.take 2).length≤4:=by rw[zU];omega
  have htb:=Hw (8+body.length)
  refine oT ?_
  refine Ag (Cm (k:=.int .i64) Γ.toTy E E E Tryz.underlying3 E E j_ j_ E) E E ?_
  refine oO ?_
  refine⟨by decide,?_⟩
  conv=>whnf
  refine Ag (Ah Γ.toTy 46 E E E E E (.row E) (.lit (e:=Al) (l:=[UInt8.ofNat ((8+body.length) / 256),UInt8.ofNat (8+body.length)]) E htb) y_ (by rw[hl];simp only[yJ,xA];omega) (by rw[hl];simp only[yJ,xA];omega)) E E ?_
  refine oO ?_
  refine iW ?_
  exact Ax [(1000,46)] j_ ⟨⟨E,E,E,E,E,E,E,E,Y⟩,⟨.inl (zD (Ob.row 1 Al) hs),E,Y⟩,E,E⟩
 ·have hs:C4 (ws.take 4)=C4 (ws.take 3)++[UInt8.ofNat (0 / 256),UInt8.ofNat 0]:=by subst hws;exact J6 [src,dst,8+body.length] 0
  have hl:=hwl (ws.take 3)
  have hl2:(ws.take 3).length≤4:=by rw[zU];omega
  have htb:=Hw 0
  refine oT ?_
  refine Ag (Cm (k:=.int .i64) Γ.toTy E E E Tryz.underlying3 E E j_ j_ E) E E ?_
  refine oO ?_
  refine⟨by decide,?_⟩
  conv=>whnf
  refine Ag (Ah Γ.toTy 46 E E E E E (.row E) (.lit (e:=Al) (l:=[UInt8.ofNat (0 / 256),UInt8.ofNat 0]) E htb) y_ (by rw[hl];simp only[yJ,xA];omega) (by rw[hl];simp only[yJ,xA];omega)) E E ?_
  refine oO ?_
  refine iW ?_
  exact Ax [(1000,46)] j_ ⟨⟨E,E,E,E,E,E,E,E,Y⟩,⟨.inl (zD (Ob.row 1 Al) hs),E,Y⟩,E,E⟩
 have hl:=hwl (ws.take 4)
 have e:ws.take 4=[src,dst,8+body.length,0]:=by rw[hws];rfl
 rw[e]at hl ⊢
 have hl3:(C4 [src,dst,8+body.length,0]).length=8:=hl
 refine oF ?_
 refine Ag (Ah Γ.toTy 50 E E E E E (.row E) .sl y_ (by rw[hl3];simp;omega) (by rw[hl3];omega)) E E ?_
 refine Ai 50 E ?_
 refine oO ?_
 exact dN
theorem Avr (a b:Nat) (ha:a<18446744073709551616) (hb:b<18446744073709551616):Sp 291 [Bb a,Bb b] (Aa (udpPort a b:Nat)):=cT F291 Tryz.ntmps291 λ F hF=>by
 have hx:=bits_xor_u64_nat a b ha hb
 have hmd:((a ^^^ b:Nat):Int).tmod 16384=(((a ^^^ b) % 16384:Nat):Int):=by rw[Int.tmod_eq_emod_of_nonneg q_];omega
 have hl:=uY (a ^^^ b) (show 0<16384 by decide)
 have hw:IntKind.i64.wrap (((a ^^^ b) % 16384:Nat):Int)=(((a ^^^ b) % 16384:Nat):Int):=by rw[IntKind.wrap_i64];omega
 conv=>whnf
 refine⟨by decide,?_⟩
 rw[hx,hmd]
 conv=>whnf
 rw[hw]
 refine iW ?_
 refine Ap E (.cons .tmp .nil) ?_ E
 refine zD (λ z:Int=>SV.val (.int .i64 z)) ?_
 rw[udpPort]
 omega
theorem Arh (v:Int) (h:Q0 v=true):Sp 289 [Aa v] (.tup [.sl 1 Al [],Aa 17]):=cT F289 Tryz.ntmps289 λ F hF=>by
 simp only[Q0,yD,zG]at h
 conv=>whnf
 constructor<;>intro h1
 ·refine oT ?_
  refine Ao 2 1 Al E ?_
  exact dN
 refine oO ?_
 refine⟨λ h2=>?_,λ h2=>zW (zN h2) (by have:=zN h1;omega)⟩
 refine oO ?_
 refine Ao 2 1 Al E ?_
 exact dN
theorem Avj {v:Int} (h:Q0 v=false):1≤v∧v≤16777215:=by
 simp only[Q0,xU,zV]at h
 omega
theorem Auf (k:Nat):(Jj k).map Al=[SV.val (.int .u8 8),SV.val (.int .u8 0),SV.val (.int .u8 0),SV.val (.int .u8 0),SV.val (.int .u8 (IntKind.u8.wrap ((k:Int).fdiv (2 ^ (min (Int.toNat 16) IntKind.i64.bits))))),
  SV.val (.int .u8 (IntKind.u8.wrap ((k:Int).fdiv (2 ^ (min (Int.toNat 8) IntKind.i64.bits))))),SV.val (.int .u8 (IntKind.u8.wrap (k:Int))),SV.val (.int .u8 0)]:=by
 have h1:IntKind.u8.wrap ((k:Int).fdiv (2 ^ (min (Int.toNat 16) IntKind.i64.bits)))=((UInt8.ofNat (k / 65536)).toNat:Int):=by
  show IntKind.u8.wrap ((k:Int).fdiv 65536)=_
  rw[xY _ j_,IntKind.wrap_u8]
  simp
 have h2:IntKind.u8.wrap ((k:Int).fdiv (2 ^ (min (Int.toNat 8) IntKind.i64.bits)))=((UInt8.ofNat (k / 256)).toNat:Int):=by
  show IntKind.u8.wrap ((k:Int).fdiv 256)=_
  rw[xY _ j_,IntKind.wrap_u8]
  simp
 have h3:=u8_of k
 rw[h1,h2,h3]
 rfl
theorem Ax4 (k:Nat) (h:1≤k∧k≤16777215):Sq 289 [Aa k] [] (.tup [.osl 0,Aa 0]) [(0,.row 1 Al (Jj k))]:=cT F289 Tryz.ntmps289 λ F hF=>by
 have hl:=Auf k
 conv=>whnf
 refine⟨λ h1=>zW (zK h1) q_,λ _=>?_⟩
 refine oO ?_
 refine⟨λ h1=>zW (zK h1) q_,λ _=>?_⟩
 refine oO ?_
 refine⟨by decide,?_⟩
 conv=>whnf
 refine⟨by decide,?_⟩
 conv=>whnf
 refine Ku 18 Al (Jj k) E hl ?_
 exact done E (.cons .tmp (.cons .tmp .nil)) [(0,18)] [(0,.row 1 Al (Jj k))] (λ _ h=>h) E E ⟨Y,⟨.inl E,E,Y⟩,E,E⟩
theorem Au3 (a b:List UInt8):((⟨a.toArray⟩:ByteArray) == (⟨b.toArray⟩:ByteArray))=decide (a=b):=by
 have key:=Go.MapKept.bytes_beq (⟨a.toArray⟩:ByteArray) ⟨b.toArray⟩
 by_cases h:a=b
 ·subst h
  rw[zL rfl]
  exact key.2 E
 ·rw[zJ h]
  cases hb:((⟨a.toArray⟩:ByteArray) == (⟨b.toArray⟩:ByteArray)) with
  | false=>rfl
  | true =>
   have:=zD (λ z:ByteArray=>z.data.toList) (key.1 hb)
   exact zW (by simpa using this) h
theorem Avu (x y z:UInt8):bits .or .i64 (bits .or .i64 (IntKind.i64.wrap ((IntKind.i64.wrap (x.toNat:Int)) * 2 ^ min (Int.toNat 16) IntKind.i64.bits)) (IntKind.i64.wrap ((IntKind.i64.wrap (y.toNat:Int)) * 2 ^ min (Int.toNat 8) IntKind.i64.bits))) (IntKind.i64.wrap (z.toNat:Int))
  = (((x.toNat * 256+y.toNat) * 256+z.toNat:Nat):Int):=by
 have h1:=x.toNat_lt
 have h2:=y.toNat_lt
 have h3:=z.toNat_lt
 have e1:IntKind.i64.wrap (x.toNat:Int)=(x.toNat:Int):=by rw[IntKind.wrap_i64];omega
 have e2:IntKind.i64.wrap (y.toNat:Int)=(y.toNat:Int):=by rw[IntKind.wrap_i64];omega
 have e3:IntKind.i64.wrap (z.toNat:Int)=(z.toNat:Int):=by rw[IntKind.wrap_i64];omega
 rw[e1,e2,e3]
 have f1:IntKind.i64.wrap ((x.toNat:Int) * 2 ^ min (Int.toNat 16) IntKind.i64.bits)=((x.toNat * 65536:Nat):Int):=by
  show IntKind.i64.wrap ((x.toNat:Int) * 65536)=_
  rw[IntKind.wrap_i64]
  omega
 have f2:IntKind.i64.wrap ((y.toNat:Int) * 2 ^ min (Int.toNat 8) IntKind.i64.bits)=((y.toNat * 256:Nat):Int):=by
  show IntKind.i64.wrap ((y.toNat:Int) * 256)=_
  rw[IntKind.wrap_i64]
  omega
 rw[f1,f2,D8 _ _ q_ q_]
 have g1:x.toNat * 65536 ||| y.toNat * 256=x.toNat * 65536+y.toNat * 256:=by
  have h:=xI (i:=16) (b:=y.toNat * 256) q_ x.toNat
  rw[vH x.toNat 65536]
  exact h.symm
 rw[g1,D8 _ _ q_ q_]
 refine zD (λ n:Nat=>(n:Int)) ?_
 have h:256 * (x.toNat * 256+y.toNat)+z.toNat=256 * (x.toNat * 256+y.toNat) ||| z.toNat:=xI (i:=8) (b:=z.toNat) q_ (x.toNat * 256+y.toNat)
 have e:x.toNat * 65536+y.toNat * 256=256 * (x.toNat * 256+y.toNat):=by omega
 rw[e,← h]
 omega
theorem vniS (b:List UInt8) (hb:b.length<100000):Sp 319 [.sl 1 Al b] (.tup [Aa (vniT b).1,.sl 1 Al (vniT b).2.1,Aa (vniT b).2.2]):=cT F319 Tryz.ntmps319 λ F hF=>by
 have hres:=vniT.eq_1 b
 generalize vniT b=res at *
 conv=>whnf
 constructor<;>intro h
 ·rw[zC (qA h)]at hres
  subst hres
  refine oO ?_
  refine Ao 3 1 Al E ?_
  exact dN
 have h8:8≤b.length:=qB h
 rw[zA q_]at hres
 clear h
 have i4:(4:Int).toNat<b.length:=by show 4<_;omega
 have i5:(5:Int).toNat<b.length:=by show 5<_;omega
 have i6:(6:Int).toNat<b.length:=by show 6<_;omega
 have hv:bits .or .i64 (bits .or .i64 (IntKind.i64.wrap ((IntKind.i64.wrap ((b[(4:Int).toNat]'i4).toNat:Int)) * 2 ^ min (Int.toNat 16) IntKind.i64.bits)) (IntKind.i64.wrap ((IntKind.i64.wrap ((b[(5:Int).toNat]'i5).toNat:Int)) * 2 ^ min (Int.toNat 8) IntKind.i64.bits))) (IntKind.i64.wrap ((b[(6:Int).toNat]'i6).toNat:Int))
   = (numAt b 4 3:Int):=by
  rw[Avu,numAt3 (show 4+3≤b.length by omega)]
  rfl
 have hvl:=M9 b 4 3
 refine oO ?_
 refine⟨E,by decide,i4,?_⟩
 conv=>whnf
 refine⟨by decide,?_⟩
 conv=>whnf
 refine⟨E,by decide,i5,?_⟩
 conv=>whnf
 refine⟨by decide,?_⟩
 conv=>whnf
 refine⟨E,by decide,i6,?_⟩
 conv=>whnf
 refine⟨z_,?_⟩
 rw[hv]
 generalize hvv:numAt b 4 3=v at *
 conv=>whnf
 by_cases h0:v=0
 ·rw[zC (.inl h0)]at hres
  subst hres
  have q:=Arh v (by rw[h0];decide)
  refine c0 q F289 ?_
  (refine rg ?_;(conv=>whnf);refine aT ?_;refine oD ?_)
  refine⟨z_,?_⟩
  ((conv=>whnf);refine aT ?_;refine rg ?_;conv=>whnf)
  refine Ao 3 1 Al E ?_
  exact dN
 have q:=Ax4 v q_
 refine Ag (Ad [(0,55)] E F289 q E Y E ⟨.inr E,Y⟩) E E ?_
 refine Ai 55 E ?_
 (refine rg ?_;(conv=>whnf);refine aF ?_;refine oD ?_)
 refine Bs (W5 Γ.toTy (bs:=Jj v) E E E E E E E .sl) z_ E ?_
 refine oD ?_
 refine Bs (Dk (lo:=0) (hi:=8) Γ.toTy E E E E (.inl ⟨E,E⟩) (.inr ⟨_,_,E,E⟩) q_ h8) z_ E ?_
 refine oD ?_
 refine Bs (W5 Γ.toTy (bs:=b.take 8) E E E E E E E .sl) z_ E ?_
 refine oD ?_
 refine kW ?_
 have hbe:=Au3 (Jj v) (b.take 8)
 rw[hbe]
 by_cases he:b.take 8=Jj v
 rotate_left
 ·rw[zC (.inr he)]at hres
  subst hres
  rw[zJ (λ e=>he e.symm)]
  refine⟨λ _=>?_,λ h=>zW h j_⟩
  refine oO ?_
  refine Ao 3 1 Al E ?_
  exact dN
 rw[zA (λ h=>h.elim h0 (λ h2=>h2 he))]at hres
 subst hres
 rw[zL he.symm]
 have etk:(b.take b.length).drop 8=b.drop 8:=by rw[yG]
 refine⟨λ h=>zW h j_,λ _=>?_⟩
 refine oO ?_
 refine Ag (Dk (lo:=8) (hi:=b.length) Γ.toTy E E E E (.inr ⟨_,_,E,E⟩) (.inl ⟨E,E⟩) h8 (zZ _)) E E ?_
 refine oO ?_
 refine Ag (Ah Γ.toTy 45 E E E E E .nil .sl y_ (by simp;omega) (by simp;omega)) E E ?_
 refine Ai 45 E ?_
 refine oO ?_
 refine Ap E (.cons .tmp (.cons .tmp (.cons .tmp .nil))) ?_ E
 show SV.tup [_,.sl 1 Al (b.drop 8),_]=SV.tup [_,.sl 1 Al ([]++(b.take b.length).drop 8),_]
 rw[etk]
 rfl
theorem Ald (a c v:Nat) (f:FrameM) (h:f.body.length≤1450):ipPutT (Jp a c v f)=(E7 (Jp a c v f),0):=by
 rw[ipPutT,zA (by rw[K1];omega)]
theorem Am3 (a b:Nat):udpPort a b≤65535:=by
 have:=uY (a ^^^ b) (show 0<16384 by decide)
 unfold udpPort
 omega
theorem Aww (a c v:Nat) (f:FrameM) (ha:a<4294967296) (hc:c<4294967296) (h:f.body.length≤1450):FrameOK ⟨hostN c,hostN a,2048,E7 (Jp a c v f)⟩ :=
 ⟨Sx c hc,Sx a ha,by show (2048:Nat)≤65535;decide,by show (E7 (Jp a c v f)).length≤1504;rw[Hs,K1];omega⟩
theorem Azh (a c:Nat) (v:Int) (f:FrameM) (ha:a<4294967296) (hc:c<4294967296) (hf:FrameOK f) :
  Sp 231 [A8 a,A8 c,Aa v,Cw f] (.tup [.sl 1 Al (wrapT a c v f).1,Aa (wrapT a c v f).2]):=cT F231 Tryz.ntmps231 λ F hF=>by
 have hres:=wrapT.eq_1 a c v f
 generalize wrapT a c v f=res at *
 have q0:=Tm f
 have hd:=hf.dst
 have hs:=hf.src
 have hb:=hf.body
 have hpl:=Dm f
 conv=>whnf
 refine Az 7 4 (Cw f) E E E ?_
 by_cases ht:f.typ=33024
 ·rw[zC ht]at hres
  subst hres
  rw[zL ht]at q0
  refine oO ?_
  refine c0 q0 F102 ?_
  refine oT ?_
  refine Ao 8 1 Al E ?_
  exact dN
 rw[zA ht]at hres
 rw[zJ ht]at q0
 refine oO ?_
 refine c0 q0 F102 ?_
 refine oF ?_
 refine Ag (Ad [(0,55)] E F29 (Ld f hf) E Y E ⟨.inr E,Y⟩) E E ?_
 refine Ai 55 E ?_
 refine oF ?_
 cases hv:Q0 v
 rotate_left
 ·rw[zC hv]at hres
  subst hres
  refine c0 (Arh v hv) F289 ?_
  refine oT ?_
  refine Ao 8 1 Al E ?_
  exact dN
 rw[zA (by rw[hv];decide)]at hres
 have hvg:=Avj hv
 obtain ⟨k,rfl⟩:=yZ (show 0≤v by omega)
 rw[zR]at hres
 refine Ag (Ad [(0,56)] E F289 (Ax4 k q_) E Y E ⟨.inr E,Y⟩) E E ?_
 refine oF ?_
 constructor<;>intro h
 ·rw[zC (qA h)]at hres
  subst hres
  refine oO ?_
  refine Ao 8 1 Al E ?_
  exact dN
 have hl:f.body.length≤1450:=qB h
 rw[zA q_]at hres
 subst hres
 clear h
 have qp:=Avr f.dst f.src q_ q_
 have hpo:=Am3 f.dst f.src
 have qu:=Azl (udpPort f.dst f.src) 4789 (Jj k++Jw f) hpo j_ (by rw[zI,E1,hpl];omega)
 have hwb:(Jp a c k f).body=Aan (udpPort f.dst f.src) 4789 (Jj k++Jw f):=rfl
 have qi:=Ah0 (Jp a c k f) (Avf a c k f ha hc) (by rw[K1];omega)
 rw[Ald a c k f hl]at qi
 have qe:=Ld _ (Aww a c k f ha hc hl)
 refine oO ?_
 refine c0 qp F291 ?_
 refine oO ?_
 refine Ag (Ah Γ.toTy 46 E E E E E (.row E) .sl j_ (by rw[E1,hpl];simp;omega) (by rw[E1,hpl];omega)) E E ?_
 refine Ai 46 E ?_
 refine oO ?_
 refine c0 qu F290 ?_
 refine oO ?_
 refine c0 qi F27 ?_
 refine oO ?_
 refine c0 (Af1 c hc) F28 ?_
 refine oO ?_
 refine c0 (Af1 a ha) F28 ?_
 refine oO ?_
 refine Ag (Ad [(0,57)] E F29 qe E Y E ⟨.inr E,Y⟩) E E ?_
 refine Ai 57 E ?_
 refine oO ?_
 exact dN
def D5 (p:PacketM) (v e:Int):List SV:=[Aa p.tos,Aa p.id,Aa p.ttl,Aa p.proto,A8 p.src,A8 p.dst,.sl 1 Al p.body,Aa v,Aa e]
def Dj (is:Bool) (re e:Int):Int:=if is=true∧re=0 then e else re
theorem Xj (p:PacketM) (v re:Int) (is:Bool) (e:Int):Sq 317 [.ptr 0 0,Ac is,Aa e] [(0,.box (D5 p v re))] (.tup []) [(0,.box (D5 p v (Dj is re e)))]:=cT F317 Tryz.ntmps317 λ F hF=>by
 cases is
 ·have h:Dj false re e=re:=by simp[Dj]
  rw[h]
  ((conv=>whnf);refine aF ?_;refine rg ?_;(conv=>whnf);refine aF ?_;refine rg ?_;conv=>whnf)
  exact A4 E .nil [] [(0,.box (D5 p v re))] (λ _ h=>h) E E ⟨Y,⟨.inl E,E,Y⟩,E,E⟩
 ·((conv=>whnf);refine aT ?_;refine rg ?_;conv=>whnf)
  constructor<;>intro h
  ·have h2:Dj true re e=e:=by show (if true=true∧re=0 then e else re)=e;rw[zC ⟨rfl,by simpa using h⟩]
   rw[h2]
   refine oO ?_
   exact A4 E .nil [] [(0,.box (D5 p v e))] (λ _ h=>h) E E ⟨Y,⟨.inl E,E,Y⟩,E,E⟩
  ·have h2:Dj true re e=re:=by
    show (if true=true∧re=0 then e else re)=re
    rw[zA (λ h3=>by
     have h4:¬ re=0:=by simpa using h
     exact h4 h3.2)]
   rw[h2]
   refine oO ?_
   exact A4 E .nil [] [(0,.box (D5 p v re))] (λ _ h=>h) E E ⟨Y,⟨.inl E,E,Y⟩,E,E⟩
theorem Azy (b:List UInt8) (hb:b.length<100000):Sq 292 [.ptr 0 0,.sl 1 Al b] [(0,.box (D5 noP 0 0))] (.tup []) [(0,.box (D5 (outerT b).1 0 (outerT b).2))]:=cT F292 Tryz.ntmps292 λ F hF=>by
 have hres:=outerT.eq_1 b
 generalize outerT b=res at *
 have q1:=Qb b hb
 have hbad:=@Asb b
 have hok:=@Abe b
 generalize takeF b=tk at *
 obtain ⟨f,e⟩:=tk
 dsimp only at hres q1 hbad hok
 conv=>whnf
 refine c0 q1 F42 ?_
 refine oO ?_
 refine Ag (Ad [(0,0)] E F317 (Xj noP 0 0 true e) E ⟨E,Y⟩ E ⟨.inl E,Y⟩) E E ?_
 rw[show Dj true 0 e=e by simp[Dj]]
 refine oO ?_
 refine Ag (Ad [(0,0)] E F317 (Xj noP 0 e ((f.typ:Int) != 2048) 11) E ⟨E,Y⟩ E ⟨.inl E,Y⟩) E E ?_
 by_cases he:e=0
 rotate_left
 ·rw[zC he]at hres
  subst hres
  rw[show Dj ((f.typ:Int) != 2048) e 11=e by simp[Dj,he]]
  refine oO ?_
  refine⟨λ h=>zW (show e=0 by simpa using h) he,λ _=>?_⟩
  refine oO ?_
  exact A4 E .nil [] [(0,.box (D5 noP 0 e))] (λ _ h=>h) E E ⟨Y,⟨.inl E,E,Y⟩,E,E⟩
 subst he
 rw[zA y_]at hres
 by_cases ht:f.typ=2048
 rotate_left
 ·rw[zC ht]at hres
  subst hres
  have hb2:((f.typ:Int) != 2048)=true:=by simp;omega
  rw[hb2,show Dj true 0 11=11 by simp[Dj]]
  refine oF ?_
  exact A4 E .nil [] [(0,.box (D5 noP 0 11))] (λ _ h=>h) E E ⟨Y,⟨.inl E,E,Y⟩,E,E⟩
 rw[zA (λ h=>h ht)]at hres
 have hb2:((f.typ:Int) != 2048)=false:=by simp;omega
 rw[hb2,show Dj false 0 11=0 by simp[Dj]]
 have hfb:=(hok rfl).body
 have q2:=Arf f.body q_
 have hib:=@A1q f.body
 generalize ipTakeT f.body=ip at *
 obtain ⟨p,e2⟩:=ip
 dsimp only at hres q2 hib
 refine oT ?_
 refine c0 q2 F224 ?_
 refine oO ?_
 refine Ag (Ad [(0,0)] E F317 (Xj p 0 0 true e2) E ⟨E,Y⟩ E ⟨.inl E,Y⟩) E E ?_
 rw[show Dj true 0 e2=e2 by simp[Dj]]
 refine oO ?_
 refine Ag (Ad [(0,0)] E F317 (Xj p 0 e2 ((p.proto:Int) != 17) 11) E ⟨E,Y⟩ E ⟨.inl E,Y⟩) E E ?_
 have hfin:res=(p,Dj ((p.proto:Int) != 17) e2 11):=by
  by_cases h2:e2=0
  ·subst h2
   rw[zA y_]at hres
   rw[hres]
   simp only[Dj]
   by_cases h3:p.proto=17
   ·rw[zA (by simp[h3]),zA (by simp[h3])]
   ·rw[zC h3,zC (by simp;omega)]
  ·rw[zC h2]at hres
   rw[hres,hib h2,show Dj ((noP.proto:Int) != 17) e2 11=e2 by simp[Dj,h2]]
 rw[hfin]
 refine oO ?_
 exact A4 E .nil [] [(0,.box (D5 p 0 (Dj ((p.proto:Int) != 17) e2 11)))] (λ _ h=>h) E E ⟨Y,⟨.inl E,E,Y⟩,E,E⟩
def frameT (p:PacketM) (e:Int):FrameM × Int × Int :=
 if e≠0 then (noF,0,e) else if (udpTakeT p.body).2.2.2≠0 then (noF,0,(udpTakeT p.body).2.2.2) else if (udpTakeT p.body).2.1≠4789 then (noF,0,11)
 else if (vniT (udpTakeT p.body).2.2.1).2.2≠0 then (noF,(vniT (udpTakeT p.body).2.2.1).1,(vniT (udpTakeT p.body).2.2.1).2.2)
 else ((takeF (vniT (udpTakeT p.body).2.2.1).2.1).1,(vniT (udpTakeT p.body).2.2.1).1,
  if (takeF (vniT (udpTakeT p.body).2.2.1).2.1).2≠0 then (takeF (vniT (udpTakeT p.body).2.2.1).2.1).2 else if (takeF (vniT (udpTakeT p.body).2.2.1).2.1).1.typ=33024 then 15 else 0)
theorem frameS (p:PacketM) (e:Int) (hb:p.body.length<100000):Sq 293 [.ptr 0 0] [(0,.box (D5 p 0 e))] (Cw (frameT p e).1) [(0,.box (D5 p (frameT p e).2.1 (frameT p e).2.2))]:=cT F293 Tryz.ntmps293 λ F hF=>by
 have hres:=frameT.eq_1 p e
 generalize frameT p e=res at *
 have q1:=Avq p.body hb
 have hul:=@Azc p.body
 generalize udpTakeT p.body=u at *
 obtain ⟨u1,u2,u3,u4⟩:=u
 dsimp only at hres q1 hul
 have q2:=vniS u3 q_
 have hvl:=@vniT_body u3
 generalize vniT u3=w at *
 obtain ⟨w1,w2,w3⟩:=w
 dsimp only at hres q2 hvl
 have q3:=Qb w2 q_
 have hbad:=@Asb w2
 generalize takeF w2=t at *
 obtain ⟨f,t2⟩:=t
 dsimp only at hres q3 hbad
 conv=>whnf
 constructor<;>intro h
 ·rw[zC (by simpa using h)]at hres
  subst hres
  refine oO ?_
  refine Am 2 zF E vL ?_
  exact done E (.cons (.cell E E E E) .nil) [] [(0,.box (D5 p 0 e))] (λ _ h=>h) E E ⟨Y,⟨.inl E,E,Y⟩,E,E⟩
 have he:e=0:=by simpa using h
 clear h
 subst he
 rw[zA y_]at hres
 refine oO ?_
 refine c0 q1 F318 ?_
 refine oO ?_
 refine Ag (Ad [(0,0)] E F317 (Xj p 0 0 true u4) E ⟨E,Y⟩ E ⟨.inl E,Y⟩) E E ?_
 rw[show Dj true 0 u4=u4 by simp[Dj]]
 refine oO ?_
 refine Ag (Ad [(0,0)] E F317 (Xj p 0 u4 (u2 != 4789) 11) E ⟨E,Y⟩ E ⟨.inl E,Y⟩) E E ?_
 by_cases h4:u4=0
 rotate_left
 ·rw[zC h4]at hres
  subst hres
  rw[show Dj (u2 != 4789) u4 11=u4 by simp[Dj,h4]]
  refine oO ?_
  refine⟨λ h=>zW (show u4=0 by simpa using h) h4,λ _=>?_⟩
  refine oO ?_
  refine⟨λ _=>?_,λ h=>zW (show u4=0 by simpa using h) h4⟩
  refine oO ?_
  refine Am 2 zF E vL ?_
  exact done E (.cons (.cell E E E E) .nil) [] [(0,.box (D5 p 0 u4))] (λ _ h=>h) E E ⟨Y,⟨.inl E,E,Y⟩,E,E⟩
 subst h4
 rw[zA y_]at hres
 by_cases h2:u2=4789
 rotate_left
 ·rw[zC h2]at hres
  subst hres
  rw[show Dj (u2 != 4789) 0 11=11 by simp[Dj,h2]]
  (refine oF ?_;refine bT ?_)
  refine Am 2 zF E vL ?_
  exact done E (.cons (.cell E E E E) .nil) [] [(0,.box (D5 p 0 11))] (λ _ h=>h) E E ⟨Y,⟨.inl E,E,Y⟩,E,E⟩
 rw[zA (λ h=>h h2)]at hres
 rw[show Dj (u2 != 4789) 0 11=0 by simp[Dj,h2]]
 refine oT ?_
 refine c0 q2 F319 ?_
 refine oO ?_
 refine Ag (Ad [(0,0)] E F317 (Xj p w1 0 true w3) E ⟨E,Y⟩ E ⟨.inl E,Y⟩) E E ?_
 rw[show Dj true 0 w3=w3 by simp[Dj]]
 refine oO ?_
 constructor<;>intro h
 ·rw[zC (by simpa using h)]at hres
  subst hres
  refine oO ?_
  refine Am 2 zF E vL ?_
  exact done E (.cons (.cell E E E E) .nil) [] [(0,.box (D5 p w1 w3))] (λ _ h=>h) E E ⟨Y,⟨.inl E,E,Y⟩,E,E⟩
 have h3:w3=0:=by simpa using h
 clear h
 subst h3
 rw[zA y_]at hres
 refine oO ?_
 refine c0 q3 F42 ?_
 refine oO ?_
 refine Ag (Ad [(0,0)] E F317 (Xj p w1 0 true t2) E ⟨E,Y⟩ E ⟨.inl E,Y⟩) E E ?_
 rw[show Dj true 0 t2=t2 by simp[Dj]]
 refine oO ?_
 refine c0 (Tm f) F102 ?_
 refine oO ?_
 refine Ag (Ad [(0,0)] E F317 (Xj p w1 t2 (decide (f.typ=33024)) 15) E ⟨E,Y⟩ E ⟨.inl E,Y⟩) E E ?_
 have hfin:Dj (decide (f.typ=33024)) t2 15=if t2≠0 then t2 else if f.typ=33024 then 15 else 0:=by
  by_cases k1:t2=0
  ·subst k1
   rw[zA y_]
   by_cases k2:f.typ=33024<;>simp[Dj,k2]
  ·rw[zC k1]
   simp[Dj,k1]
 rw[← hfin]at hres
 subst hres
 refine oO ?_
 exact done E (.cons (.cell E E E E) .nil) [] [(0,.box (D5 p w1 (Dj (decide (f.typ=33024)) t2 15)))] (λ _ h=>h) E E ⟨Y,⟨.inl E,E,Y⟩,E,E⟩
theorem Agv (b:List UInt8):B8 b=if (frameT (outerT b).1 (outerT b).2).2.2≠0 then (0,0,0,noF,(frameT (outerT b).1 (outerT b).2).2.2)
  else ((outerT b).1.src,(outerT b).1.dst,(frameT (outerT b).1 (outerT b).2).2.1,(frameT (outerT b).1 (outerT b).2).1,0):=by
 unfold B8
 generalize outerT b=o
 obtain ⟨p,e⟩:=o
 dsimp only
 by_cases he:e=0
 rotate_left
 ·rw[zC he]
  have h1:frameT p e=(noF,0,e):=by rw[frameT,zC he]
  rw[h1,zC he]
 subst he
 rw[zA y_]
 unfold Kq frameT
 rw[zA (show ¬ (0:Int)≠0 by simp)]
 generalize udpTakeT p.body=u
 obtain ⟨u1,u2,u3,u4⟩:=u
 dsimp only
 by_cases h4:u4=0
 rotate_left
 ·rw[zC h4,zC h4,zC h4]
  dsimp only
  rw[zC h4]
 subst h4
 simp only[ne_eq,not_true_eq_false,if_false]
 by_cases h2:u2=4789
 rotate_left
 ·simp[h2]
 simp only[h2,not_true_eq_false,if_false]
 generalize vniT u3=w
 obtain ⟨w1,w2,w3⟩:=w
 dsimp only
 by_cases h3:w3=0
 rotate_left
 ·simp[h3]
 simp only[h3,not_true_eq_false,if_false]
 generalize takeF w2=t
 obtain ⟨f,t2⟩:=t
 dsimp only
 by_cases k1:t2=0
 ·by_cases k2:f.typ=33024<;>simp[k1,k2]
 ·simp[k1]
theorem Ar3 (b:List UInt8) (hb:b.length<100000) :
  Sp 235 [.sl 1 Al b] (.tup [A8 (B8 b).1,A8 (B8 b).2.1,Aa (B8 b).2.2.1,Cw (B8 b).2.2.2.1,Aa (B8 b).2.2.2.2]):=cT F235 Tryz.ntmps235 λ F hF=>by
 have hres:=Agv b
 generalize B8 b=res at *
 have q1:=Azy b hb
 have hol:=(Yt b).2
 generalize outerT b=o at *
 obtain ⟨p,e⟩:=o
 dsimp only at hres q1 hol
 have q2:=frameS p e q_
 generalize frameT p e=fr at *
 obtain ⟨f,v,e2⟩:=fr
 dsimp only at hres q2
 conv=>whnf
 refine Am 9 (D5 noP 0 0) E vL ?_
 refine oO ?_
 refine Ag (Ad [(0,9)] E F292 q1 E ⟨E,Y⟩ E ⟨.inl E,Y⟩) E E ?_
 refine oO ?_
 refine Ag (Ad [(0,9)] E F293 q2 E ⟨E,Y⟩ E ⟨.inl E,Y⟩) E E ?_
 refine oO ?_
 constructor<;>intro h
 ·rw[zC (by simpa using h)]at hres
  subst hres
  refine oO ?_
  refine kW ?_
  refine Am 5 zF E vL ?_
  exact dN
 rw[zA (by simpa using h)]at hres
 subst hres
 refine oO ?_
 refine kW ?_
 exact dN
end Go.Sy.YtljngfegfclkpaaGreat
namespace Go.Sy
structure Meth (P:Program) (t:TypeId) (name:String) (f:FuncId) (pr:Bool) (e:TypeId):Prop where
 row:∃ i m,P.info? t=some i∧i.methods.find? (·.name == name)=some m∧m.path=#[]∧m.func=some (f,pr)
 under:P.underlying t=some (.pointer e)
theorem Abo {P:Program} {t:TypeId} {name:String} {f:FuncId} {e:TypeId} (hm:Meth P t name f true e) (w:World) (v:Value):(Go.method (P.types.size+Made.depth) t v name).run P w=.ok (f,v) w:=by
 obtain ⟨⟨i,m,h1,h2,h3,h4⟩,hu⟩:=hm
 show (Go.method (P.types.size+99+1) t v name).run P w=_
 rw[Go.method]
 simp only[Sem.run_bind,run_typeInfo w h1,Result.andThen_ok,h2,h3,Go.follow,Sem.run_pure,h4,Go.receiverAt,run_underlying hu,Go.Place.get]
theorem Abn {P:Program} {t:TypeId} {name:String} {f:FuncId} {e:TypeId} (hm:Meth P t name f false e) (w:World) (a:Addr) {v:Value} (hv:(loadVar e a).run P w=.ok v w):(Go.method (P.types.size+Made.depth) t (.pointer (some a)) name).run P w=.ok (f,v) w:=by
 obtain ⟨⟨i,m,h1,h2,h3,h4⟩,hu⟩:=hm
 show (Go.method (P.types.size+99+1) t (.pointer (some a)) name).run P w=_
 rw[Go.method]
 have he:(#[]:Array FieldStep).isEmpty=true:=rfl
 simp only[Sem.run_bind,run_typeInfo w h1,Result.andThen_ok,h2,h3,Go.follow,Sem.run_pure,h4,Go.receiverAt,run_underlying hu,Go.Place.get,he,if_true]
 have hs : ∀ n : String, (Builtin.ssaWrapNilChk_ #[t] t #[.pointer (some a), strVal "", strVal n]).run P w = .ok (.pointer (some a)) w := λ n => rfl
 simp only[hs,Result.andThen_ok,asAddr,Sem.run_pure,hv]
theorem U0 {P:Program} {o:Oper} {s:SS} {rd:List Nat} {f:FuncId} {fn:Func} {c:Code} {t e:TypeId} {name:String} {x:Operand} {xs:List Operand} {ts:Array TypeId} {y:SV} (hm:Meth P t name f true e) (hf:Fun P f fn c) (h:o.op=.call ⟨.invoke x name,xs.toArray,ts⟩) (hx:ev s x=.ifc t y) :
  Qm P o s rd f (y::xs.map (ev s)) :=
 λ κ a w hr _=>by
  have h1:=hr x (by simp[h,Op.operands,Call.operands])
  rw[hx]at h1
  simp only[Rd]at h1
  obtain ⟨u,e1,e2⟩:=h1
  refine⟨u::xs.map a.eval,?_,?_⟩
  ·have hcall:=K2 hf (u::xs.map a.eval).toArray w
   have hmeth:=Abo hm w u
   simp only[execOp,h,resolve,invoke,e1,Sem.run_bind,Sem.run_pure,Result.andThen_ok]at hcall ⊢
   simp only[callMethod]
   rw[← hcall]
   have htk:(xs.map a.eval).take xs.length=xs.map a.eval:=yX y_
   simp[hmeth,Sem.run_bind,htk]
  ·simp only[RdL]
   exact⟨_,_,E,e2,Mk xs (λ y hy=>hr y (by simp[h,Op.operands,Call.operands,hy]))⟩
theorem Bm {P:Program} (Γ:Ty P) {o:Oper} {s:SS} {f:FuncId} {fn:Func} {c:Code} {t e:TypeId} {ti:TI} {name:String} {x:Operand} {xs:List Operand} {ts:Array TypeId} {k off:Nat} {l:List SV} {z:SV} (hm:Meth P t name f false e) (hf:Fun P f fn c) (h:o.op=.call ⟨.invoke x name,xs.toArray,ts⟩)
  (hx:ev s x=.ifc t (.ptr k off)) (hk:s.h k=.box l) (ht:Γ.get e=some ti) (hz:Lu ti l off=some z):Qm P o s [k] f (z::xs.map (ev s)) :=
 λ κ a w hr ho=>by
  have h1:=hr x (by simp[h,Op.operands,Call.operands])
  rw[hx]at h1
  simp only[Rd]at h1
  obtain ⟨u,e1,e2⟩:=h1
  have hob:=ho k y_
  rw[hk]at hob
  obtain ⟨b,f1,f2⟩:=hob.cellsAt
  rw[f1]at e2
  simp only at e2
  subst e2
  obtain ⟨v,g1,g2⟩:=Li (P:=P) Γ ht f2 hz
  rw[xQ]at g1
  refine⟨v::xs.map a.eval,?_,?_⟩
  ·have hcall:=K2 hf (v::xs.map a.eval).toArray w
   have hmeth:=Abn hm w ⟨b,off,none⟩ g1
   simp only[execOp,h,resolve,invoke,e1,Sem.run_bind,Sem.run_pure,Result.andThen_ok]at hcall ⊢
   simp only[callMethod]
   rw[← hcall]
   have htk:(xs.map a.eval).take xs.length=xs.map a.eval:=yX y_
   simp[hmeth,Sem.run_bind,htk]
  ·simp only[RdL]
   exact⟨_,_,E,g2,Mk xs (λ y hy=>hr y (by simp[h,Op.operands,Call.operands,hy]))⟩
theorem Z4 {P:Program} (Γ:Ty P) {o:Oper} {s:SS} {x:Operand} {xt t:TypeId} {ti:TI} {y:SV} {ok:Bool} (h:o.op=.typeAssert x xt t ok) (hx:ev s x=.ifc t y) (ht:Γ.get t=some ti) (hk:ti.k matches .bool | .int _ | .string | .slice .. | .struct _ | .ptr | .func) :
  Good P o s ⟨if ok then .tup [y,Ac true] else y,[],[]⟩ :=
 Good.pure λ κ a w _ hr _=>by
  have h1:=hr x (by simp[h,Op.operands])
  rw[hx]at h1
  simp only[Rd]at h1
  obtain ⟨u,e1,e2⟩:=h1
  obtain ⟨d,info,z,k1,k2,_⟩:=Γ.ok t ti ht
  have hni:∀ ms,d≠.interface ms:=by
   obtain ⟨k,n,zz⟩:=ti
   intro ms hd
   subst hd
   cases k<;>simp_all[TK.ok]
  have hrun:(Instr.typeAssert (.iface t u) xt t ok).run P w=.ok (if ok then .tuple #[u,.bool true] else u) w:=by
   cases d<;>first
    | exact zW rfl (hni _)
    | (cases ok<;>simp[Instr.typeAssert,run_underlying k1])
  refine⟨if ok then .tuple #[u,.bool true] else u,by simp[execOp,h,e1,hrun],?_⟩
  cases ok
  ·exact e2
  ·simp only[if_true,Rd,RdL]
   exact⟨[u,.bool true],E,_,_,E,e2,_,_,E,by simp[Ac,Rd],E⟩
def A1o (P:Program) (t:TypeId) (name:String) (f:FuncId) (pr:Bool):Bool :=
 match P.info? t with
 | some i=>(match i.methods.find? (·.name == name) with
  | some m=>m.path.isEmpty && (match m.func with | some (g,b)=>Nat.beq g f && (b == pr) | none=>false)
  | none=>false)
 | none=>false
theorem Meth.of {P:Program} {t:TypeId} {name:String} {f:FuncId} {pr:Bool} {e:TypeId} (h:A1o P t name f pr=true) (hu:P.underlying t=some (.pointer e)):Meth P t name f pr e:=by
 refine⟨?_,hu⟩
 unfold A1o at h
 split at h
 ·rename_i i hi
  split at h
  ·rename_i m hm
   simp only[zB]at h
   obtain ⟨h1,h2⟩:=h
   split at h2
   ·rename_i g b hf
    simp only[zB,yA]at h2
    obtain ⟨h3,rfl⟩:=h2
    have h3:=yC h3
    subst h3
    exact⟨i,m,hi,hm,by simpa using h1,hf⟩
   ·cases h2
  ·cases h
 ·cases h
end Go.Sy
namespace Go.Sy.YtljngfegfclkpaaGreat
open Go.Proofs
attribute [local irreducible] Go.Sy.G Go.Sy.DR
set_option maxRecDepth 20000
set_option maxHeartbeats 4000000
structure Item where
 (root cost dev:Int)
instance:Inhabited Item:=⟨⟨0,0,0⟩⟩
def Bo (x:Item):SV:=.agg [Aa x.root,Aa x.cost,Aa x.dev]
def B9 (x y:Item):Bool:=decide (x.root<y.root) || (x.root == y.root && decide (x.cost<y.cost))
theorem Yp (q:List Item):Sp 214 [.sl 3 Bo q] (Aa q.length):=cT F214 Tryz.ntmps214 λ F hF=>by
 conv=>whnf
 exact dN
theorem Ln (q:List Item) (i j:Nat) (hi:i<q.length) (hj:j<q.length):Sp 344 [.sl 3 Bo q,Aa i,Aa j] (Ac (B9 q[i] q[j])):=cT F344 Tryz.ntmps344 λ F hF=>by
 have e1:q[(i:Int).toNat]'q_=q[i]:=rfl
 have e2:q[(j:Int).toNat]'q_=q[j]:=rfl
 conv=>whnf
 (repeat' (first | (refine⟨λ h=>?_,λ h=>?_⟩<;>(repeat (first | simp only[zG]at h | simp only[zV]at h | simp only[yA]at h | simp only[zO]at h))<;>((refine rd z_ ?_);(conv=>whnf))) | (refine Ap rfl (.cons .tmp .nil) ?_ rfl) | (refine⟨z_,?_⟩;((conv=>whnf))) | (refine⟨by (omega),by (omega),?_⟩;((conv=>whnf)))))
 all_goals (refine zD Ac ?_;clear hF;grind [B9])
theorem Lm (q:List Item) (i j:Nat) (hi:i<q.length) (hj:j<q.length):Sq 347 [.osl 0,Aa i,Aa j] [(0,.row 3 Bo q)] (.tup []) [(0,.row 3 Bo ((q.set i q[j]).set j q[i]))]:=cT F347 Tryz.ntmps347 λ F hF=>by
 have e1:q[(i:Int).toNat]'q_=q[i]:=rfl
 have e2:q[(j:Int).toNat]'q_=q[j]:=rfl
 conv=>whnf
 refine⟨by omega,by omega,?_⟩
 conv=>whnf
 refine⟨E,by omega,?_⟩
 rw[e2]
 conv=>whnf
 refine⟨by omega,by omega,?_⟩
 conv=>whnf
 refine⟨E,by omega,?_⟩
 rw[e1]
 conv=>whnf
 refine⟨by omega,by omega,?_⟩
 conv=>whnf
 refine⟨E,by omega,q[j],E,E,?_⟩
 conv=>whnf
 refine⟨by omega,by simp;omega,?_⟩
 conv=>whnf
 refine⟨E,by simp;omega,q[i],E,E,?_⟩
 conv=>whnf
 refine kW ?_
 exact A4 E .nil [] [(0,.row 3 Bo ((q.set i q[j]).set j q[i]))] (λ _ h=>h) E E ⟨Y,⟨.inl E,E,Y⟩,E,E⟩
theorem An4 (q:List Item) (x:Item) (hq:q.length<1000000):Sq 346 [.ptr 0 0,.ifc 332 (Bo x)] [(0,.box [.osl 1]),(1,.row 3 Bo q)] (.tup []) [(0,.box [.osl 2]),(1,.non),(2,.row 3 Bo (q++[x]))]:=cT F346 Tryz.ntmps346 λ F hF=>by
 conv=>whnf
 refine Ag (Z4 Γ.toTy E E E E) E E ?_
 refine oT ?_
 refine Bs (Ah Γ.toTy 18 E E E E E (.row E) (.lit (l:=[x]) E E) y_ (by simp;omega) (by simp;omega)) z_ E ?_
 refine oD ?_
 refine kW ?_
 exact A4 E .nil [(2,18)] [(0,.box [.osl 2]),(1,.non),(2,.row 3 Bo (q++[x]))] (λ _ h=>h) E E ⟨Y,⟨.inl E,E,.inl E,E,.inl E,E,Y⟩,E,E⟩
theorem As8 (q:List Item) (hq:q≠[]) (hl:q.length<1000000):Sq 345 [.ptr 0 0] [(0,.box [.osl 1]),(1,.row 3 Bo q)] (.ifc 332 (Bo (q.getLast hq))) [(0,.box [.osl 2]),(1,.non),(2,.row 3 Bo q.dropLast)]:=cT F345 Tryz.ntmps345 λ F hF=>by
 have h0:0<q.length:=xF.2 hq
 have e1:q[((q.length:Int)-1).toNat]'q_=q.getLast hq:=by
  rw[List.getLast_eq_getElem]
  congr 1
  omega
 conv=>whnf
 refine iW ?_
 refine⟨by omega,by omega,?_⟩
 conv=>whnf
 refine⟨E,by omega,?_⟩
 rw[e1]
 conv=>whnf
 refine kW ?_
 refine iW ?_
 refine Bs (Acx Γ.toTy (d:=23) (hi:=q.length-1) E E E E E j_ E (.inl ⟨E,E⟩) (.inr ⟨_,_,E,zD (λ z=>SV.val (.int .i64 z)) q_⟩) q_) z_ E ?_
 rw[← List.dropLast_eq_take]
 refine oD ?_
 refine kW ?_
 exact done E (.cons .tmp .nil) [(2,23)] [(0,.box [.osl 2]),(1,.non),(2,.row 3 Bo q.dropLast)] (λ _ h=>h) E E ⟨Y,⟨.inl E,E,.inl E,E,.inl E,E,Y⟩,E,E⟩
end Go.Sy.YtljngfegfclkpaaGreat
namespace Go.Sy.YtljngfegfclkpaaGreat
open Go.Proofs
attribute [local irreducible] Go.Sy.G Go.Sy.DR
set_option maxRecDepth 100000
set_option maxHeartbeats 4000000
theorem mLen : Meth Tryz.prog 327 "Len" 214 false 329 := .of (by kernel_rfl) Tryz.underlying327
theorem Akt : Meth Tryz.prog 327 "Less" 344 false 329 := .of (by kernel_rfl) Tryz.underlying327
theorem Aks : Meth Tryz.prog 327 "Swap" 347 false 329 := .of (by kernel_rfl) Tryz.underlying327
theorem mPush : Meth Tryz.prog 327 "Push" 346 true 329 := .of (by kernel_rfl) Tryz.underlying327
theorem mPop : Meth Tryz.prog 327 "Pop" 345 true 329 := .of (by kernel_rfl) Tryz.underlying327
def Ep (q:List Item) (i j:Nat):List Item:=(q.set i (q.getD j default)).set j (q.getD i default)
theorem A0 (q:List Item) (i j:Nat):(Ep q i j).length=q.length:=by simp[Ep]
def upF:Nat→List Item→Nat→List Item
 | 0,q,_=>q
 | n+1,q,j=>if j=0 then q else if B9 (q.getD j default) (q.getD ((j-1) / 2) default) then upF n (Ep q ((j-1) / 2) j) ((j-1) / 2) else q
theorem Ajc:∀ (n m:Nat) (q:List Item) (j:Nat),j≤n→j≤m→upF n q j=upF m q j
 | 0,m,q,j,h,_=>by
  have:j=0:=by omega
  subst this
  cases m<;>simp[upF]
 | n+1,0,q,j,_,h=>by
  have:j=0:=by omega
  subst this
  simp[upF]
 | n+1,m+1,q,j,h1,h2=>by
  rw[upF,upF]
  split
  ·rfl
  ·split
   ·exact Ajc n m _ _ q_ q_
   ·rfl
theorem Avo (r:List Item):∀ (i:Nat),i≠0→upF i r i=if B9 (r.getD i default) (r.getD ((i-1) / 2) default) then upF ((i-1) / 2) (Ep r ((i-1) / 2) i) ((i-1) / 2) else r
 | 0,h=>zW rfl h
 | m+1,_=>by
  rw[upF,zA q_]
  split
  ·exact Ajc _ _ _ _ q_ q_
  ·rfl
theorem upS (q:List Item) (j:Nat) (hj:j<q.length) (hl:q.length<1000000) :
  Sq 270 [.ifc 327 (.ptr 0 0),Aa j] [(0,.box [.osl 1]),(1,.row 3 Bo q)] (.tup []) [(0,.box [.osl 1]),(1,.row 3 Bo (upF j q j))]:=cT F270 Tryz.ntmps270 λ F hF=>by
 conv=>whnf
 refine Tk (α:={p:List Item × Nat // upF p.2 p.1 p.2=upF j q j∧p.1.length=q.length∧p.2<p.1.length}) (λ p=>[(0,.ifc 327 (.ptr 0 0)),(1,Aa p.1.2)]) (λ p=>[(0,.box [.osl 1]),(1,.row 3 Bo p.1.1)]) (λ p=>p.1.2) ⟨(q,j),E,E,hj⟩ []
  ⟨⟨rfl,rfl,rfl,rfl,trivial⟩,⟨.inl rfl,rfl,.inl rfl,rfl,trivial⟩,rfl,rfl⟩ ?_
 rintro ⟨⟨r,i⟩,h1,h2,h3⟩
 simp only at h1 h2 h3
 dsimp only
 have hw:IntKind.i64.wrap (((i:Int)-1).tdiv 2)=(((i-1) / 2:Nat):Int):=by
  rcases vN i with h0 | h0
  ·subst h0;rfl
  ·have:((i:Int)-1)=((i-1:Nat):Int):=by omega
   rw[this,Int.tdiv_eq_ediv_of_nonneg q_,IntKind.wrap_i64]
   omega
 refine oO ?_
 refine iW ?_
 refine⟨by decide,?_⟩
 rw[hw]
 conv=>whnf
 constructor<;>intro h
 ·have h0:i=0:=by
   have:(((i-1) / 2:Nat):Int)=i:=by simpa using h
   omega
  subst h0
  have e:upF j q j=r:=by rw[← h1];rfl
  rw[e]
  refine oT ?_
  exact A4 E .nil [] [(0,.box [.osl 1]),(1,.row 3 Bo r)] (λ _ h=>h) E E ⟨Y,⟨.inl E,E,.inl E,E,Y⟩,E,E⟩
 have h0:i≠0:=by
  intro h0
  subst h0
  exact zW h j_
 have hp:(i-1) / 2<r.length:=by omega
 have hless:=Ln r i ((i-1) / 2) h3 hp
 refine oO ?_
 refine Ag (Eu [1] (Bm Γ.toTy Akt F344 E E E E E) hless (.cons (.row E E) (.cons (.refl _) (.cons (.refl _) .nil))) E E) E E ?_
 refine oO ?_
 have hu:upF i r i=if B9 r[i] r[(i-1) / 2] then upF ((i-1) / 2) (Ep r ((i-1) / 2) i) ((i-1) / 2) else r:=by
  rw[Avo r i h0,Bc h3,Bc hp]
 constructor<;>intro h
 ·have hlt:B9 r[i] r[(i-1) / 2]=false:=by simpa using h
  have e:upF j q j=r:=by rw[← h1,hu,hlt];rfl
  rw[e]
  refine oO ?_
  exact A4 E .nil [] [(0,.box [.osl 1]),(1,.row 3 Bo r)] (λ _ h=>h) E E ⟨Y,⟨.inl E,E,.inl E,E,Y⟩,E,E⟩
 have hlt:B9 r[i] r[(i-1) / 2]=true:=by simpa using h
 rw[hlt,zC rfl]at hu
 have hsw:=Lm r ((i-1) / 2) i hp h3
 have e:(r.set ((i-1) / 2) r[i]).set i r[(i-1) / 2]=Ep r ((i-1) / 2) i:=by
  rw[Ep,Bc h3,Bc hp]
 rw[e]at hsw
 refine oO ?_
 refine Ag (Bz [(0,1)] (Bm Γ.toTy Aks F347 E E E E E) hsw E ⟨E,Y⟩ E ⟨.inl E,Y⟩) E E ?_
 refine oO ?_
 exact U3 (α:={p:List Item × Nat // upF p.2 p.1 p.2=upF j q j∧p.1.length=q.length∧p.2<p.1.length}) (L:=λ p=>[(0,.ifc 327 (.ptr 0 0)),(1,Aa p.1.2)]) (O:=λ p=>[(0,.box [.osl 1]),(1,.row 3 Bo p.1.1)]) (μ:=λ p=>p.1.2) (x:=⟨(r,i),h1,h2,h3⟩)
  ⟨(Ep r ((i-1) / 2) i,(i-1) / 2),by rw[← h1,hu],by rw[A0];exact h2,by rw[A0];exact hp⟩ [] (by simp only;omega)
  ⟨⟨rfl,rfl,rfl,rfl,trivial⟩,⟨.inl rfl,rfl,.inl rfl,rfl,trivial⟩,rfl,rfl⟩
theorem Abb:∀ (n:Nat) (q:List Item) (j:Nat),(upF n q j).length=q.length
 | 0,q,j=>rfl
 | n+1,q,j=>by
  rw[upF]
  split
  ·rfl
  ·split
   ·rw[Abb n,A0]
   ·rfl
def Uk (q:List Item) (x:Item):List Item:=upF q.length (q++[x]) q.length
theorem Af2 (q:List Item) (x:Item) (hl:q.length<999999) :
  Sq 213 [.ifc 327 (.ptr 0 0),.ifc 332 (Bo x)] [(0,.box [.osl 1]),(1,.row 3 Bo q)] (.tup []) [(0,.box [.osl 2]),(1,.non),(2,.row 3 Bo (Uk q x))]:=cT F213 Tryz.ntmps213 λ F hF=>by
 have hpush:=An4 q x q_
 have hlen:=Yp (q++[x])
 have hup:=upS (q++[x]) q.length y_ (by simp;omega)
 have hln:(((q++[x]).length:Nat):Int)-1=(q.length:Int):=by simp
 conv=>whnf
 refine Ag (Bz (rd:=[]) [(2,6)] (U0 mPush F346 E E) hpush E ⟨E,E,Y⟩ E ⟨.inl E,.inl E,.inr E,Y⟩) E E ?_
 refine oO ?_
 refine Ag (Eu [6] (Bm Γ.toTy mLen F214 E E E E E) hlen (.cons (.row E E) .nil) E E) E E ?_
 refine oO ?_
 refine⟨by unfold I64;simp;omega,?_⟩
 rw[hln]
 conv=>whnf
 refine Ag (Ad [(1,6)] E F270 hup E ⟨E,E,Y⟩ E ⟨.inl E,.inl E,Y⟩) E E ?_
 refine oO ?_
 exact A4 E .nil [(2,6)] [(0,.box [.osl 2]),(1,.non),(2,.row 3 Bo (Uk q x))] (λ _ h=>h) E E ⟨Y,⟨.inl E,E,.inl E,E,.inl E,E,Y⟩,E,E⟩
def Ek (q:List Item) (i n:Nat):Nat:=if 2 * i+2<n∧B9 (q.getD (2 * i+2) default) (q.getD (2 * i+1) default)=true then 2 * i+2 else 2 * i+1
theorem Ol (q:List Item) (i n:Nat) (h:2 * i+1<n):Ek q i n<n∧i<Ek q i n:=by
 unfold Ek
 split<;>omega
def Em:Nat→List Item→Nat→Nat→List Item × Nat
 | 0,q,i,_=>(q,i)
 | f+1,q,i,n=>if 2 * i+1<n then (if B9 (q.getD (Ek q i n) default) (q.getD i default) then Em f (Ep q i (Ek q i n)) (Ek q i n) n else (q,i)) else (q,i)
theorem Vs:∀ (f g:Nat) (q:List Item) (i n:Nat),n≤f+i→n≤g+i→Em f q i n=Em g q i n
 | 0,g,q,i,n,h1,h2=>by
  cases g with
  | zero=>rfl
  | succ g=>rw[Em,Em,zA q_]
 | f+1,0,q,i,n,h1,h2=>by rw[Em,Em,zA q_]
 | f+1,g+1,q,i,n,h1,h2=>by
  rw[Em,Em]
  split
  ·rename_i h
   have:=Ol q i n h
   split
   ·exact Vs f g _ _ n q_ q_
   ·rfl
  ·rfl
theorem Aps (r:List Item) (i n:Nat):Em (n-i) r i n=if 2 * i+1<n then (if B9 (r.getD (Ek r i n) default) (r.getD i default) then Em (n-Ek r i n) (Ep r i (Ek r i n)) (Ek r i n) n else (r,i)) else (r,i):=by
 rw[Vs (n-i) (n-i+1) r i n q_ q_,Em]
 split
 ·rename_i h
  have:=Ol r i n h
  split
  ·exact Vs _ _ _ _ _ q_ q_
  ·rfl
 ·rfl
theorem Xn:∀ (f:Nat) (q:List Item) (i n:Nat),(Em f q i n).1.length=q.length
 | 0,_,_,_=>rfl
 | f+1,q,i,n=>by
  rw[Em]
  split
  ·split
   ·rw[Xn f,A0]
   ·rfl
  ·rfl
theorem downS (q:List Item) (i0 n:Nat) (hn:n≤q.length) (hi:i0<q.length) (hl:q.length<1000000) :
  Sq 271 [.ifc 327 (.ptr 0 0),Aa i0,Aa n] [(0,.box [.osl 1]),(1,.row 3 Bo q)] (Ac (decide (((Em (n-i0) q i0 n).2:Int)>i0))) [(0,.box [.osl 1]),(1,.row 3 Bo (Em (n-i0) q i0 n).1)]:=cT F271 Tryz.ntmps271 λ F hF=>by
 generalize hD:Em (n-i0) q i0 n=D
 conv=>whnf
 refine Tk (α:={p:List Item × Nat // Em (n-p.2) p.1 p.2 n=D∧p.1.length=q.length∧p.2<p.1.length}) (λ p=>[(0,.ifc 327 (.ptr 0 0)),(1,Aa i0),(2,Aa n),(7,Aa p.1.2)]) (λ p=>[(0,.box [.osl 1]),(1,.row 3 Bo p.1.1)]) (λ p=>n-p.1.2) ⟨(q,i0),hD,E,hi⟩ []
  ⟨⟨rfl,rfl,rfl,rfl,rfl,rfl,rfl,rfl,trivial⟩,⟨.inl rfl,rfl,.inl rfl,rfl,trivial⟩,rfl,rfl⟩ ?_
 rintro ⟨⟨r,i⟩,h1,h2,h3⟩
 simp only at h1 h2 h3
 dsimp only
 have h10:=h1
 rw[Aps]at h1
 have hj1:(2:Int) * i+1=((2 * i+1:Nat):Int):=by omega
 have hj2:((2 * i+1:Nat):Int)+1=((2 * i+2:Nat):Int):=by omega
 refine oO ?_
 refine iW ?_
 refine iL ?_
 rw[hj1]
 conv=>whnf
 constructor<;>intro h
 ·have hge:¬ 2 * i+1<n:=qA h
  rw[zA hge]at h1
  rw[← h1]
  refine oT ?_
  exact done E (.cons .tmp .nil) [] [(0,.box [.osl 1]),(1,.row 3 Bo r)] (λ _ h=>h) E E ⟨Y,⟨.inl E,E,.inl E,E,Y⟩,E,E⟩
 have hlt:2 * i+1<n:=qB h
 rw[zC hlt]at h1
 refine oF ?_
 refine iL ?_
 rw[hj2]
 conv=>whnf
 constructor<;>intro h
 ·have h2n:2 * i+2<n:=qA h
  have hA:2 * i+2<r.length:=by omega
  have hB:2 * i+1<r.length:=by omega
  have hlc:=Ln r (2 * i+2) (2 * i+1) hA hB
  refine oO ?_
  refine Ag (Eu [1] (Bm Γ.toTy Akt F344 E E E E E) hlc (.cons (.row E E) (.cons (.refl _) (.cons (.refl _) .nil))) E E) E E ?_
  refine oO ?_
  constructor<;>intro h
  ·have hc:Ek r i n=2 * i+2:=by rw[Ek,zC ⟨h2n,by rw[Bc hA,Bc hB];exact h⟩]
   have hJ:=hA
   refine oO ?_
   rw[hc,Bc hJ,Bc h3]at h1
   have hls:=Ln r (2 * i+2) i hJ h3
   refine Ag (Eu [1] (Bm Γ.toTy Akt F344 E E E E E) hls (.cons (.row E E) (.cons (.refl _) (.cons (.refl _) .nil))) E E) E E ?_
   refine oO ?_
   constructor<;>intro h
   ·have hf:B9 r[2 * i+2] r[i]=false:=by simpa using h
    rw[hf]at h1
    have e:D=(r,i):=h1.symm
    rw[e]
    refine oO ?_
    exact done E (.cons .tmp .nil) [] [(0,.box [.osl 1]),(1,.row 3 Bo r)] (λ _ h=>h) E E ⟨Y,⟨.inl E,E,.inl E,E,Y⟩,E,E⟩
   have hf:B9 r[2 * i+2] r[i]=true:=by simpa using h
   rw[hf,zC rfl]at h1
   have hsw:=Lm r i (2 * i+2) h3 hJ
   have e:(r.set i r[2 * i+2]).set (2 * i+2) r[i]=Ep r i (2 * i+2):=by
    rw[Ep,Bc h3,Bc hJ]
   rw[e]at hsw
   refine oO ?_
   refine Ag (Bz [(0,1)] (Bm Γ.toTy Aks F347 E E E E E) hsw E ⟨E,Y⟩ E ⟨.inl E,Y⟩) E E ?_
   refine oO ?_
   exact U3 (α:={p:List Item × Nat // Em (n-p.2) p.1 p.2 n=D∧p.1.length=q.length∧p.2<p.1.length}) (L:=λ p=>[(0,.ifc 327 (.ptr 0 0)),(1,Aa i0),(2,Aa n),(7,Aa p.1.2)]) (O:=λ p=>[(0,.box [.osl 1]),(1,.row 3 Bo p.1.1)]) (μ:=λ p=>n-p.1.2) (x:=⟨(r,i),h10,h2,h3⟩)
    ⟨(Ep r i (2 * i+2),2 * i+2),h1,by rw[A0];exact h2,by rw[A0];exact hJ⟩ [] (by simp only;omega)
    ⟨⟨rfl,rfl,rfl,rfl,rfl,rfl,rfl,rfl,trivial⟩,⟨.inl rfl,rfl,.inl rfl,rfl,trivial⟩,rfl,rfl⟩
  ·have hc:Ek r i n=2 * i+1:=by rw[Ek,zA (λ hh=>by rw[Bc hA,Bc hB,h]at hh;exact zW hh.2 y_)]
   have hJ:=hB
   refine oO ?_
   rw[hc,Bc hJ,Bc h3]at h1
   have hls:=Ln r (2 * i+1) i hJ h3
   refine Ag (Eu [1] (Bm Γ.toTy Akt F344 E E E E E) hls (.cons (.row E E) (.cons (.refl _) (.cons (.refl _) .nil))) E E) E E ?_
   refine oO ?_
   constructor<;>intro h
   ·have hf:B9 r[2 * i+1] r[i]=false:=by simpa using h
    rw[hf]at h1
    have e:D=(r,i):=h1.symm
    rw[e]
    refine oO ?_
    exact done E (.cons .tmp .nil) [] [(0,.box [.osl 1]),(1,.row 3 Bo r)] (λ _ h=>h) E E ⟨Y,⟨.inl E,E,.inl E,E,Y⟩,E,E⟩
   have hf:B9 r[2 * i+1] r[i]=true:=by simpa using h
   rw[hf,zC rfl]at h1
   have hsw:=Lm r i (2 * i+1) h3 hJ
   have e:(r.set i r[2 * i+1]).set (2 * i+1) r[i]=Ep r i (2 * i+1):=by
    rw[Ep,Bc h3,Bc hJ]
   rw[e]at hsw
   refine oO ?_
   refine Ag (Bz [(0,1)] (Bm Γ.toTy Aks F347 E E E E E) hsw E ⟨E,Y⟩ E ⟨.inl E,Y⟩) E E ?_
   refine oO ?_
   exact U3 (α:={p:List Item × Nat // Em (n-p.2) p.1 p.2 n=D∧p.1.length=q.length∧p.2<p.1.length}) (L:=λ p=>[(0,.ifc 327 (.ptr 0 0)),(1,Aa i0),(2,Aa n),(7,Aa p.1.2)]) (O:=λ p=>[(0,.box [.osl 1]),(1,.row 3 Bo p.1.1)]) (μ:=λ p=>n-p.1.2) (x:=⟨(r,i),h10,h2,h3⟩)
    ⟨(Ep r i (2 * i+1),2 * i+1),h1,by rw[A0];exact h2,by rw[A0];exact hJ⟩ [] (by simp only;omega)
    ⟨⟨rfl,rfl,rfl,rfl,rfl,rfl,rfl,rfl,trivial⟩,⟨.inl rfl,rfl,.inl rfl,rfl,trivial⟩,rfl,rfl⟩
 ·have h2n:¬ 2 * i+2<n:=qB h
  have hJ:2 * i+1<r.length:=by omega
  have hc:Ek r i n=2 * i+1:=by rw[Ek,zA (λ hh=>h2n hh.1)]
  refine oF ?_
  rw[hc,Bc hJ,Bc h3]at h1
  have hls:=Ln r (2 * i+1) i hJ h3
  refine Ag (Eu [1] (Bm Γ.toTy Akt F344 E E E E E) hls (.cons (.row E E) (.cons (.refl _) (.cons (.refl _) .nil))) E E) E E ?_
  refine oO ?_
  constructor<;>intro h
  ·have hf:B9 r[2 * i+1] r[i]=false:=by simpa using h
   rw[hf]at h1
   have e:D=(r,i):=h1.symm
   rw[e]
   refine oO ?_
   exact done E (.cons .tmp .nil) [] [(0,.box [.osl 1]),(1,.row 3 Bo r)] (λ _ h=>h) E E ⟨Y,⟨.inl E,E,.inl E,E,Y⟩,E,E⟩
  have hf:B9 r[2 * i+1] r[i]=true:=by simpa using h
  rw[hf,zC rfl]at h1
  have hsw:=Lm r i (2 * i+1) h3 hJ
  have e:(r.set i r[2 * i+1]).set (2 * i+1) r[i]=Ep r i (2 * i+1):=by
   rw[Ep,Bc h3,Bc hJ]
  rw[e]at hsw
  refine oO ?_
  refine Ag (Bz [(0,1)] (Bm Γ.toTy Aks F347 E E E E E) hsw E ⟨E,Y⟩ E ⟨.inl E,Y⟩) E E ?_
  refine oO ?_
  exact U3 (α:={p:List Item × Nat // Em (n-p.2) p.1 p.2 n=D∧p.1.length=q.length∧p.2<p.1.length}) (L:=λ p=>[(0,.ifc 327 (.ptr 0 0)),(1,Aa i0),(2,Aa n),(7,Aa p.1.2)]) (O:=λ p=>[(0,.box [.osl 1]),(1,.row 3 Bo p.1.1)]) (μ:=λ p=>n-p.1.2) (x:=⟨(r,i),h10,h2,h3⟩)
   ⟨(Ep r i (2 * i+1),2 * i+1),h1,by rw[A0];exact h2,by rw[A0];exact hJ⟩ [] (by simp only;omega)
   ⟨⟨rfl,rfl,rfl,rfl,rfl,rfl,rfl,rfl,trivial⟩,⟨.inl rfl,rfl,.inl rfl,rfl,trivial⟩,rfl,rfl⟩
def Dq (q:List Item):List Item:=(Em (q.length-1-0) (Ep q 0 (q.length-1)) 0 (q.length-1)).1
theorem Et (q:List Item):(Dq q).length=q.length:=by rw[Dq,Xn,A0]
theorem En {q:List Item} (h:q≠[]):Dq q≠[]:=λ e=>h (zQ (by rw[← Et,e];rfl))
theorem Ax3 (q:List Item) (hq:q≠[]) (hl:q.length<1000000) :
  Sq 215 [.ifc 327 (.ptr 0 0)] [(0,.box [.osl 1]),(1,.row 3 Bo q)] (.ifc 332 (Bo ((Dq q).getLast (En hq)))) [(0,.box [.osl 2]),(1,.non),(2,.row 3 Bo (Dq q).dropLast)]:=cT F215 Tryz.ntmps215 λ F hF=>by
 have h0:0<q.length:=xF.2 hq
 have hlen:=Yp q
 have hsw:=Lm q 0 (q.length-1) h0 q_
 have e:(q.set 0 q[q.length-1]).set (q.length-1) q[0]=Ep q 0 (q.length-1):=by
  rw[Ep,Bc (show q.length-1<q.length by omega),Bc h0]
 rw[e]at hsw
 have hdn:=downS (Ep q 0 (q.length-1)) 0 (q.length-1) (by rw[A0];omega) (by rw[A0];exact h0) (by rw[A0];exact hl)
 have hpop:=As8 (Dq q) (En hq) (by rw[Et];exact hl)
 have hln:(q.length:Int)-1=((q.length-1:Nat):Int):=by omega
 conv=>whnf
 refine Ag (Eu [1] (Bm Γ.toTy mLen F214 E E E E E) hlen (.cons (.row E E) .nil) E E) E E ?_
 refine oO ?_
 refine iL ?_
 rw[hln]
 conv=>whnf
 refine Ag (Bz [(0,1)] (Bm Γ.toTy Aks F347 E E E E E) hsw E ⟨E,Y⟩ E ⟨.inl E,Y⟩) E E ?_
 refine oO ?_
 refine Ag (Ad [] E F271 hdn E ⟨E,E,Y⟩ E ⟨.inl E,.inl E,Y⟩) E E ?_
 refine oO ?_
 refine Ag (Bz (rd:=[]) [(2,14)] (U0 mPop F345 E E) hpop E ⟨E,E,Y⟩ E ⟨.inl E,.inl E,.inr E,Y⟩) E E ?_
 refine oO ?_
 exact done E (.cons .tmp .nil) [(2,14)] [(0,.box [.osl 2]),(1,.non),(2,.row 3 Bo (Dq q).dropLast)] (λ _ h=>h) E E ⟨Y,⟨.inl E,E,.inl E,E,.inl E,E,Y⟩,E,E⟩
end Go.Sy.YtljngfegfclkpaaGreat
namespace Go.Sy.YtljngfegfclkpaaGreat
open Go.Proofs
attribute [local irreducible] Go.Sy.G Go.Sy.DR
set_option maxRecDepth 20000
set_option maxHeartbeats 4000000
def De:Vec→List Vec→Vec
 | v,[]=>v
 | v,x::l=>De (if El x v then x else v) l
def A1k:Vec:=⟨0,0,0,0,0⟩
def Im:List Vec→Vec × Bool
 | []=>(A1k,false)
 | v::l=>(De v (v::l),true)
theorem Ak4 (a:Vec):El a a=false:=by simp[El]
theorem Aos {a b:Vec} (h:a≠b):El a b=true∨El b a=true:=by
 obtain ⟨a1,a2,a3,a4,a5⟩:=a
 obtain ⟨b1,b2,b3,b4,b5⟩:=b
 simp only[ne_eq,Vec.mk.injEq]at h
 simp only[El]
 grind
theorem Ach {a b c:Vec} (h1:El a b=true) (h2:El b c=true):El a c=true:=by
 obtain ⟨a1,a2,a3,a4,a5⟩:=a
 obtain ⟨b1,b2,b3,b4,b5⟩:=b
 obtain ⟨c1,c2,c3,c4,c5⟩:=c
 simp only[El]at *
 grind
theorem Acj:∀ (v:Vec) (l:List Vec),De v l=v∨De v l∈l
 | v,[]=>.inl rfl
 | v,x::l=>by
  rw[De]
  rcases Acj (if El x v then x else v) l with h | h
  ·rw[h]
   split
   ·exact .inr y_
   ·exact .inl E
  ·exact .inr (by simp[h])
theorem Afs:∀ (v:Vec) (l:List Vec),El v (De v l)=false∧∀ x∈l,El x (De v l)=false
 | v,[]=>⟨Ak4 v,by simp⟩
 | v,x::l=>by
  rw[De]
  obtain ⟨h1,h2⟩:=Afs (if El x v then x else v) l
  have key:El v (De (if El x v then x else v) l)=false∧El x (De (if El x v then x else v) l)=false:=by
   generalize De (if El x v then x else v) l=m at *
   cases hx:El x v with
   | true =>
    rw[hx]at h1
    simp only[if_true]at h1
    refine⟨?_,h1⟩
    cases hv:El v m with
    | false=>rfl
    | true=>rw[Ach hx hv]at h1;cases h1
   | false =>
    rw[hx]at h1
    simp only[vP,if_false]at h1
    refine⟨h1,?_⟩
    cases hv:El x m with
    | false=>rfl
    | true =>
     by_cases hxv:x=v
     ·subst hxv;rw[hv]at h1;cases h1
     ·rcases Aos hxv with h3 | h3
      ·rw[hx]at h3;cases h3
      ·rw[Ach h3 hv]at h1;cases h1
  refine⟨key.1,λ y hy=>?_⟩
  rcases yB.1 hy with rfl | hy
  ·exact key.2
  ·exact h2 y hy
theorem Ak6 (v:Vec) (l:List Vec) (j:Nat) (h:j<l.length):De v (l.take (j+1))=(if El l[j] (De v (l.take j)) then l[j] else De v (l.take j)):=by
 have key:∀ (a b:List Vec) (v:Vec),De v (a++b)=De (De v a) b:=by
  intro a
  induction a with
  | nil=>intro b v;rfl
  | cons x a ih=>intro b v;rw[wN,De,De,ih]
 rw[zY h,key]
 rfl
theorem leastS (l:List Vec) (hl:Ak l):Sp 216 [.sl 5 Q1 l] (.tup [Q1 (Im l).1,Ac (Im l).2]):=cT F216 Tryz.ntmps216 λ F hF=>by
 unfold Ak at hl
 have hR:∀ h:0<l.length,Im l=(De l[0] l,true):=λ h=>by
  cases l with
  | nil=>simp at h
  | cons v t=>rfl
 conv=>whnf
 constructor<;>intro h
 ·have:l=[]:=zQ (by have:(l.length:Int)=0:=(by simpa using h);omega)
  subst this
  refine oO ?_
  exact done E (.cons (.cell E E E E) (.cons .tmp .nil)) [] [] (λ _ h=>h) E E ⟨Y,Y,E,E⟩
 have h0:0<l.length:=by
  have:¬ (l.length:Int)=0:=by simpa using h
  omega
 rw[hR h0]
 refine oO ?_
 refine⟨E,by decide,h0,?_⟩
 conv=>whnf
 have e0:l[(0:Int).toNat]'(h0)=l[0]:=rfl
 generalize hv:l[0]=v at *
 refine A5 l.length (λ j=>[(0,.sl 5 Q1 l),(2,.ptr 2 0),(4,.ptr 4 0),(14,.sl 5 Q1 l),(15,Aa l.length),(16,Aa j)]) (λ j=>[(2,.box [Aa 0,Aa 0,Aa 0,Aa 0,Aa 0]),(4,.box [Aa (De v (l.take j)).root,Aa (De v (l.take j)).cost,Aa (De v (l.take j)).bridge,Aa (De v (l.take j)).port,Aa (De v (l.take j)).own])]) []
  ⟨⟨rfl,rfl,rfl,rfl,rfl,rfl,rfl,rfl,rfl,rfl,rfl,rfl,trivial⟩,⟨.inl rfl,rfl,.inl (by subst hv;rfl),rfl,trivial⟩,rfl,rfl⟩ ?_
 intro j hj
 refine oO ?_
 constructor<;>intro h
 ·have hlt:j<l.length:=by simpa using h
  have hdrop:=Ak6 v l j hlt
  generalize hx:l[j]=x at hdrop
  have hx':l[(j:Int).toNat]'q_=x:=hx
  generalize hmn:De v (l.take j)=m at hdrop
  refine oO ?_
  refine⟨E,by omega,by omega,?_⟩
  rw[hx']
  conv=>whnf
  refine c0 (lessS x m) F272 ?_
  refine oO ?_
  constructor<;>intro h2
  ·rw[h2,zC rfl]at hdrop
   refine oO ?_
   refine iW ?_
   exact Ax [] hlt ⟨⟨E,E,E,E,E,E,E,E,E,E,E,E,Y⟩,⟨.inl E,E,.inl (by rw[hdrop];rfl),E,Y⟩,E,E⟩
  ·rw[h2]at hdrop
   refine oO ?_
   refine iW ?_
   exact Ax [] hlt ⟨⟨E,E,E,E,E,E,E,E,E,E,E,E,Y⟩,⟨.inl E,E,.inl (by rw[hdrop];rfl),E,Y⟩,E,E⟩
 ·have hjl:¬ j<l.length:=by simpa using h
  rw[yX q_]
  refine oO ?_
  exact done E (.cons (.cell E E E E) (.cons .tmp .nil)) [] [] (λ _ h=>h) E E ⟨Y,Y,E,E⟩
theorem Ak7 {l:List Vec} (h:(Im l).2=false):l=[]∧(Im l).1=A1k:=by
 cases l with
 | nil=>exact⟨rfl,rfl⟩
 | cons v t=>cases h
theorem At6 (l:List Vec):∀ x∈l,El x (Im l).1=false:=by
 cases l with
 | nil=>simp
 | cons v t=>exact(Afs v (v::t)).2
theorem Aoy {l:List Vec} (h:(Im l).2=true):(Im l).1∈l:=by
 cases l with
 | nil=>cases h
 | cons v t =>
  rcases Acj v (v::t) with h | h
  ·show De v (v::t)∈v::t
   rw[h];simp
  ·exact h
theorem Zp (n:Net):∀ x∈Cc n,0≤x∧x<n.devices.length:=λ x hx=>by
 rw[Aby,Jv]at hx
 obtain ⟨i,hi,rfl⟩:=yH.1 hx
 have hi:=xC.1 hi
 have h1:=List.countP_le_length (p:=λ k=>B0 n (k:Nat) i) (l:=List.range n.devices.length)
 rw[List.length_range]at h1
 have h2:(List.range n.devices.length).countP (λ k=>B0 n (k:Nat) i)≠n.devices.length:=λ e=>by
  have:=List.countP_eq_length.1 (e.trans List.length_range.symm) i (xC.2 hi)
  rw[K9]at this
  cases this
 omega
theorem Amo (n:Net) {a b:Int} (h:a≠b):B0 n a b=true∨B0 n b a=true:=by
 unfold B0
 generalize nth n.devices a=x
 generalize nth n.devices b=y
 grind
theorem Aqx (n:Net) {i k:Nat} (hi:i<n.devices.length) (_hk:k<n.devices.length) (h:B0 n i k=true):(List.range n.devices.length).countP (λ q=>B0 n (q:Nat) i)<(List.range n.devices.length).countP (λ q=>B0 n (q:Nat) k):=by
 have h1:(List.range n.devices.length).countP (λ q=>B0 n (q:Nat) i)+((List.range n.devices.length).filter (λ q=>B0 n (q:Nat) k && !B0 n (q:Nat) i)).length=(List.range n.devices.length).countP (λ q=>B0 n (q:Nat) k):=by
  generalize List.range n.devices.length=l
  induction l with
  | nil=>rfl
  | cons q l ih =>
   rw[List.countP_cons,List.countP_cons,List.filter_cons]
   cases h1:B0 n q i with
   | true =>
    have h2:B0 n q k=true:=Th n h1 h
    simp only[h2,if_true,tJ,wR,vP,if_false]
    omega
   | false =>
    cases h2:B0 n q k with
    | true=>simp only[if_true,Bool.not_false,vS,vP,if_false,yJ];omega
    | false=>simp only[vP,if_false,zT];omega
 have h2:0<((List.range n.devices.length).filter (λ q=>B0 n (q:Nat) k && !B0 n (q:Nat) i)).length:=by
  refine List.length_pos_of_mem (a:=i) ?_
  rw[vW]
  exact⟨xC.2 hi,by simp[h,K9]⟩
 omega
theorem H8 (n:Net):(Cc n).length=n.devices.length:=by rw[Aby,Jv];simp
theorem Abz (n:Net) (i:Nat) (hi:i<(Cc n).length):(Cc n)[i]=(((List.range n.devices.length).countP λ k=>B0 n (k:Nat) i:Nat):Int):=by
 have e:=Aby n
 have:(Cc n)[i]=(Jv n)[i]'(by rw[← e];exact hi):=by congr 1
 rw[this]
 simp[Jv]
theorem Ahe (n:Net) {i k:Nat} (hi:i<(Cc n).length) (hk:k<(Cc n).length) (h:i≠k):(Cc n)[i]≠(Cc n)[k]:=by
 have e:=H8 n
 rw[Abz,Abz]
 rcases Amo n (a:=(i:Int)) (b:=(k:Int)) q_ with h1 | h1
 ·have:=Aqx n (i:=i) (k:=k) q_ q_ h1
  omega
 ·have:=Aqx n (i:=k) (k:=i) q_ q_ h1
  omega
end Go.Sy.YtljngfegfclkpaaGreat
namespace Go.Sy.YtljngfegfclkpaaGreat
open Go.Proofs
attribute [local irreducible] Go.Sy.G Go.Sy.DR
set_option maxRecDepth 100000
set_option maxHeartbeats 4000000
def Ud (n:Net) (up:List Bool) (ranks:List Int) (x y:SV):List SV:=[.sl 5 Aq n.devices,.sl 7 Aw n.ports,.sl 3 Br n.links,.sl 6 An n.domains,.sl 4 As n.statics,.sl 4 A3 n.floods,.sl 5 B5 n.vrfs,.sl 5 By n.irbs,.sl 1 Ac up,.sl 1 Aa ranks,x,y]
def Dr (n:Net) (up:List Bool) (i:Nat):Int :=
 let p:=n.ports.getD i default
 if p.link<0 || !(up.getD p.link.toNat false) then -1 else (nth n.links p.link).a+(nth n.links p.link).b-i
theorem farS (n:Net) (up:List Bool) (ranks:List Int) (x y:SV) (_hx:(x.boxed && x.data && y.boxed && y.data && Nat.beq (cellsOf x).length 1 && Nat.beq (cellsOf y).length 1)=true) (i:Nat) (hr:Ab n=true) (hu:up.length=n.links.length) (hi:i<n.ports.length) :
  Sp 145 [.ref 12 (.agg (Ud n up ranks x y)) 0,Aa i] (Aa (Dr n up i)):=cT F145 Tryz.ntmps145 λ F hF=>by
 have hpl:=To hr hi
 have hf:=Hb hr
 have e1:n.ports[(i:Int).toNat]'q_=n.ports[i]:=rfl
 have hfar:Dr n up i=if n.ports[i].link<0 || !(up.getD n.ports[i].link.toNat false) then -1 else (nth n.links n.ports[i].link).a+(nth n.links n.ports[i].link).b-i:=by
  rw[Dr,Bc hi]
 generalize hp:n.ports[i]=p at *
 have hle:=λ h=>Lc hr (i:=p.link.toNat) h
 conv=>whnf
 refine⟨E,by omega,by omega,?_⟩
 rw[e1]
 conv=>whnf
 (repeat' (first | (refine⟨λ h=>?_,λ h=>?_⟩<;>(repeat (first | simp only[zG]at h | simp only[zV]at h | simp only[yK]at h | simp only[wC]at h))<;>((first|refine rg ?_|refine rd z_ ?_);(conv=>whnf))) | (refine Ap rfl (.cons .tmp .nil) ?_ rfl) | (refine⟨z_,?_⟩;((conv=>whnf);repeat((refine aT ?_);(refine oO ?_)))) | (refine⟨by (first | omega | ((have hq:=hle q_;unfold I64;omega))),by (first | omega | ((have hq:=hle q_;unfold I64;omega))),?_⟩;((conv=>whnf)))))
 all_goals (refine zD Aa ?_;rw[hfar])
 ·simp_all
 ·have h1:up.getD p.link.toNat false=false:=by rw[Bc q_];assumption
  rw[h1];simp
 ·have h1:up.getD p.link.toNat false=true:=by rw[Bc q_];assumption
  rw[h1,Ae q_]
  simp_all
def Q5 (n:Net) (up:List Bool) (ranks roots costs:List Int):SV:=.ref 12 (.agg (Ud n up ranks (.sl 1 Aa roots) (.sl 1 Aa costs))) 0
def Lb (n:Net) (ranks costs:List Int) (i k:Nat):Bool :=
 let a:=(n.ports.getD i default).dev
 let b:=(n.ports.getD k default).dev
 decide (nth costs a<nth costs b) || (nth costs a == nth costs b && decide (nth ranks a<nth ranks b))
theorem Anl (n:Net) (up:List Bool) (ranks roots costs:List Int) (i k:Nat) (hr:Ab n=true) (hrk:ranks.length=n.devices.length) (hc:costs.length=n.devices.length) (hi:i<n.ports.length) (hk:k<n.ports.length) :
  Sp 146 [Q5 n up ranks roots costs,Aa i,Aa k] (Ac (Lb n ranks costs i k)):=cT F146 Tryz.ntmps146 λ F hF=>by
 have hd1:=Sc hr hi
 have hd2:=Sc hr hk
 have e1:n.ports[(i:Int).toNat]'q_=n.ports[i]:=rfl
 have e2:n.ports[(k:Int).toNat]'q_=n.ports[k]:=rfl
 have hres:Lb n ranks costs i k=(decide (nth costs n.ports[i].dev<nth costs n.ports[k].dev) || (nth costs n.ports[i].dev == nth costs n.ports[k].dev && decide (nth ranks n.ports[i].dev<nth ranks n.ports[k].dev))):=by
  rw[Lb,Bc hi,Bc hk]
 rw[Ae q_,Ae q_,Ae q_,Ae q_]at hres
 conv=>whnf
 (repeat' (first | (refine⟨λ h=>?_,λ h=>?_⟩<;>(repeat (first | simp only[zG]at h | simp only[zV]at h | simp only[yA]at h | simp only[zO]at h))<;>((refine rd z_ ?_);(conv=>whnf))) | (refine Ap rfl (.cons .tmp .nil) ?_ rfl) | (refine⟨z_,?_⟩;((conv=>whnf))) | (refine⟨by (first | omega | (simp only[zR];omega)),by (first | omega | (simp only[zR];omega)),?_⟩;((conv=>whnf)))))
 all_goals (refine zD Ac ?_;rw[hres];clear hF hres hr;simp only[zR]at *;grind)
theorem Adb {n:Net} {up:List Bool} (h:Ab n=true) {i:Nat} (hi:i<n.ports.length) (hf:0≤Dr n up i):Dr n up i<n.ports.length:=by
 have hp:=Ov h hi
 have hpl:=To h hi
 simp only[Iw,zB,yD,yA]at hp
 have hp:=hp.2
 unfold Dr at *
 rw[Bc hi]at *
 simp only at *
 split at hf
 ·omega
 ·rename_i hc
  rw[zA hc]
  simp only[yD,zG,uK]at hc
  rcases hp with hp | hp
  ·omega
  ·have hl:n.ports[i].link.toNat<n.links.length:=by omega
   have he:=Lc h hl
   rw[Ae hl]at *
   omega
def Xv (n:Net) (up:List Bool) (ranks roots costs:List Int) (dev:Int) (i:Nat):Option Vec :=
 let p:=n.ports.getD i default
 let far:=Dr n up i
 let there:=(nth n.ports far).dev
 if p.dev == dev && decide (0≤far) then some ⟨nth roots there,nth costs there+p.cost,nth ranks there,far,i⟩ else none
def Jo (n:Net) (up:List Bool) (ranks roots costs:List Int) (dev:Int) (j:Nat):List Vec:=(List.range j).filterMap (Xv n up ranks roots costs dev)
theorem Ap5 (n:Net) (up:List Bool) (ranks roots costs:List Int) (dev:Int) (j:Nat):Jo n up ranks roots costs dev (j+1)=Jo n up ranks roots costs dev j++(Xv n up ranks roots costs dev j).toList:=by
 rw[Jo,wL,tX]
 cases h:Xv n up ranks roots costs dev j<;>simp[Jo,h]
theorem Xy (n:Net) (up:List Bool) (ranks roots costs:List Int) (dev:Int) (j:Nat):(Jo n up ranks roots costs dev j).length≤j:=by
 have:=uH (Xv n up ranks roots costs dev) (List.range j)
 simpa [Jo] using this
def Ei (n:Net) (up:List Bool) (ranks roots costs:List Int) (dev:Int):Int :=
 let r:=Im (Jo n up ranks roots costs dev n.ports.length)
 if !r.2 || nth roots dev == nth ranks dev then -1 else r.1.own
theorem bestS (n:Net) (up:List Bool) (ranks roots costs:List Int) (dev:Int) (hr:Ab n=true) (hu:up.length=n.links.length) (hcost:Cn n=true) (hrk:ranks.length=n.devices.length) (hro:roots.length=n.devices.length) (hc:costs.length=n.devices.length)
  (hb:∀ c∈costs,0≤c∧c<1000000000) (hd:0≤dev∧dev<n.devices.length) :
  Sp 147 [Q5 n up ranks roots costs,Aa dev] (Aa (Ei n up ranks roots costs dev)):=cT F147 Tryz.ntmps147 λ F hF=>by
 have hf:=Hb hr
 conv=>whnf
 refine Co 5 1000 5 Q1 E E ?_
 refine A5 n.ports.length (λ j=>[(0,Q5 n up ranks roots costs),(1,Aa dev),(5,.osl 1000),(16,.sl 7 Aw n.ports),(17,Aa n.ports.length),(18,Aa j)]) (λ j=>[(1000,.row 5 Q1 (Jo n up ranks roots costs dev j))]) []
  ⟨⟨rfl,rfl,rfl,rfl,rfl,rfl,rfl,rfl,rfl,rfl,rfl,rfl,trivial⟩,⟨.inl rfl,rfl,trivial⟩,rfl,rfl⟩ ?_
 intro j hj
 refine oO ?_
 constructor<;>intro h
 ·have hlt:j<n.ports.length:=by simpa using h
  have e1:n.ports[(j:Int).toNat]'q_=n.ports[j]:=rfl
  have hfar:=farS n up ranks (.sl 1 Aa roots) (.sl 1 Aa costs) rfl j hr hu hlt
  have hfl:=Adb (up:=up) hr hlt
  have hsucc:=Ap5 n up ranks roots costs dev j
  have hbl:=Xy n up ranks roots costs dev j
  have hcand:Xv n up ranks roots costs dev j=if n.ports[j].dev == dev && decide (0≤Dr n up j) then some ⟨nth roots (nth n.ports (Dr n up j)).dev,nth costs (nth n.ports (Dr n up j)).dev+n.ports[j].cost,nth ranks (nth n.ports (Dr n up j)).dev,Dr n up j,j⟩ else none:=by
   rw[Xv,Bc hlt]
  generalize Dr n up j=k at *
  have hpc:1≤n.ports[j].cost∧n.ports[j].cost≤65535:=by
   simp only[Cn,yK,wQ]at hcost
   have:=hcost _ (zE hlt)
   simp only[Hl,yD,zG,uK]at this
   omega
  obtain ⟨p,hp⟩:∃ p,n.ports[j]=p:=⟨_,rfl⟩
  rw[hp]at e1 hcand hpc
  refine oO ?_
  refine⟨E,by omega,by omega,?_⟩
  rw[e1]
  conv=>whnf
  refine c0 hfar F145 ?_
  refine oO ?_
  constructor<;>intro h
  ·refine oO ?_
   constructor<;>intro h2
   ·have hk0:0≤k:=zK h2
    have hk1:=hfl hk0
    rw[zC (by simp only[zB,zG];exact⟨h,hk0⟩),Ae (l:=n.ports) (i:=k) q_]at hcand
    have hpd:=Sc hr (i:=k.toNat) q_
    obtain ⟨q,hq⟩:∃ q,n.ports[k.toNat]'q_=q:=⟨_,rfl⟩
    rw[hq]at hcand hpd
    have hcb:=hb (costs[q.dev.toNat]'q_) (zE _)
    rw[Ae (l:=roots) (i:=q.dev) q_,Ae (l:=costs) (i:=q.dev) q_,Ae (l:=ranks) (i:=q.dev) q_]at hcand
    refine oO ?_
    refine⟨E,hk0,by omega,?_⟩
    rw[hq]
    conv=>whnf
    refine⟨z_,?_⟩
    refine⟨by omega,by omega,?_⟩
    conv=>whnf
    refine⟨z_,?_⟩
    refine⟨by omega,by omega,?_⟩
    conv=>whnf
    refine iW ?_
    refine⟨z_,?_⟩
    refine⟨by omega,by omega,?_⟩
    conv=>whnf
    refine Bs (Ah Γ.toTy 72 E E E E E (.row E) (.lit (l:=[(⟨roots[q.dev.toNat]'q_,costs[q.dev.toNat]'q_+p.cost,ranks[q.dev.toNat]'q_,k,j⟩:Vec)]) E E) y_ (by simp;omega) (by simp;omega)) z_ E ?_
    refine oD ?_
    refine kW ?_
    refine iW ?_
    refine Ax [(1000,72)] hlt ⟨⟨E,E,E,E,E,E,E,E,E,E,E,E,Y⟩,⟨.inl (zD (Ob.row 5 Q1) ?_),E,Y⟩,E,E⟩
    rw[hsucc,hcand]
    rfl
   ·have hk0:¬ 0≤k:=zN h2
    rw[zA (by simp only[zB,zG];exact λ hh=>hk0 hh.2)]at hcand
    refine oO ?_
    refine iW ?_
    refine Ax [] hlt ⟨⟨E,E,E,E,E,E,E,E,E,E,E,E,Y⟩,⟨.inl (zD (Ob.row 5 Q1) ?_),E,Y⟩,E,E⟩
    rw[hsucc,hcand]
    simp
  ·rw[zA (by rw[h];simp)]at hcand
   refine oF ?_
   refine iW ?_
   refine Ax [] hlt ⟨⟨E,E,E,E,E,E,E,E,E,E,E,E,Y⟩,⟨.inl (zD (Ob.row 5 Q1) ?_),E,Y⟩,E,E⟩
   rw[hsucc,hcand]
   simp
 ·have hjl:j=n.ports.length:=by
   have:¬ j<n.ports.length:=by simpa using h
   omega
  subst hjl
  have hbl:=Xy n up ranks roots costs dev n.ports.length
  have hbi:Ei n up ranks roots costs dev=if !(Im (Jo n up ranks roots costs dev n.ports.length)).2 || nth roots dev == nth ranks dev then -1 else (Im (Jo n up ranks roots costs dev n.ports.length)).1.own:=rfl
  rw[Ae q_,Ae q_]at hbi
  have hls:=leastS (Jo n up ranks roots costs dev n.ports.length) (by unfold Ak;omega)
  generalize Im (Jo n up ranks roots costs dev n.ports.length)=r at hls hbi
  obtain ⟨v,ok⟩:=r
  simp only at hls hbi
  rw[hbi]
  refine oO ?_
  refine Ai 1000 E ?_
  refine c0 hls F216 ?_
  refine oO ?_
  (repeat' (first | (refine⟨λ h=>?_,λ h=>?_⟩<;>(repeat (first | simp only[yA]at h | simp only[zO]at h | simp only[yK]at h | simp only[wC]at h))<;>((first|refine rg ?_|refine rd z_ ?_);(conv=>whnf))) | (refine Ap rfl (.cons .tmp .nil) ?_ rfl) | (refine⟨z_,?_⟩;((conv=>whnf);repeat((refine aT ?_);(refine oO ?_)))) | (refine⟨by (omega),by (omega),?_⟩;((conv=>whnf)))))
  all_goals (refine zD Aa ?_;clear hF hls hbi;grind)
theorem best_lt {n:Net} {up:List Bool} {ranks roots costs:List Int} {dev:Int} (h:0≤Ei n up ranks roots costs dev):Ei n up ranks roots costs dev<n.ports.length:=by
 have hmem:=@Aoy (Jo n up ranks roots costs dev n.ports.length)
 unfold Ei at *
 simp only at *
 split at h
 ·omega
 ·rename_i hc
  rw[zA hc]
  simp only[yD,yK,uK]at hc
  have h2:=hmem (by simpa using hc.1)
  obtain ⟨i,hi,he⟩:=xN.1 h2
  have hi:=xC.1 hi
  unfold Xv at he
  simp only at he
  split at he
  ·have e:=zD Vec.own (Option.some.inj he)
   simp only at e
   omega
  ·cases he
def Uf (n:Net) (up:List Bool) (ranks costs:List Int) (i:Nat):Int :=
 if Dr n up i<0 then 0 else if Lb n ranks costs i (Dr n up i).toNat then 2 else 3
def Il (n:Net) (up:List Bool) (ranks costs:List Int) (j:Nat):List Int:=(List.range n.ports.length).map λ i=>if i<j then Uf n up ranks costs i else 0
theorem Mn (n:Net) (up:List Bool) (ranks costs:List Int) (j:Nat):(Il n up ranks costs j).length=n.ports.length:=by simp[Il]
theorem Ajy (n:Net) (up:List Bool) (ranks costs:List Int):Il n up ranks costs 0=List.replicate n.ports.length 0:=by
 rw[Il]
 exact uL y_ y_
theorem Ajz (n:Net) (up:List Bool) (ranks costs:List Int) (j:Nat) (hj:j<n.ports.length):Il n up ranks costs (j+1)=(Il n up ranks costs j).set j (Uf n up ranks costs j):=by
 refine uL (by simp[Il]) (λ i h1 h2=>?_)
 rw[wU]
 simp only[Il,wW,List.getElem_range]
 rcases Nat.lt_trichotomy i j with h | h | h
 ·rw[zC q_,zA q_,zC h]
 ·subst h;rw[zC q_,zC rfl]
 ·rw[zA q_,zA q_,zA q_]
theorem Aj0 (n:Net) (up:List Bool) (ranks costs:List Int) (j:Nat) (h:Uf n up ranks costs j=0):Il n up ranks costs (j+1)=Il n up ranks costs j:=by
 simp only[Il]
 refine tG (λ i _=>?_)
 by_cases hij:i<j
 ·rw[zC q_,zC hij]
 ·by_cases he:i=j
  ·subst he;rw[zC q_,zA hij,h]
  ·rw[zA q_,zA hij]
def I8 (n:Net) (up:List Bool) (ranks roots costs:List Int):Nat→List Int
 | 0=>Il n up ranks costs n.ports.length
 | d+1=>if 0≤Ei n up ranks roots costs d then (I8 n up ranks roots costs d).set (Ei n up ranks roots costs d).toNat 1 else I8 n up ranks roots costs d
theorem H7 (n:Net) (up:List Bool) (ranks roots costs:List Int):∀ d,(I8 n up ranks roots costs d).length=n.ports.length
 | 0=>Mn n up ranks costs _
 | d+1=>by
  rw[I8]
  split
  ·rw[yE,H7]
  ·rw[H7]
theorem rolesS (n:Net) (up:List Bool) (ranks roots costs:List Int) (hr:Ab n=true) (hu:up.length=n.links.length) (hcost:Cn n=true) (hrk:ranks.length=n.devices.length) (hro:roots.length=n.devices.length) (hc:costs.length=n.devices.length)
  (hb:∀ c∈costs,0≤c∧c<1000000000) :
  Sp 81 [Q5 n up ranks roots costs] (.sl 1 Aa (I8 n up ranks roots costs n.devices.length)):=cT F81 Tryz.ntmps81 λ F hF=>by
 have hf:=Hb hr
 conv=>whnf
 refine Ag (Bw Γ.toTy (d:=14) (n:=n.ports.length) Aa 0 E E E E E E E E q_ q_ E E E) E E ?_
 rw[← Ajy n up ranks costs]
 refine oO ?_
 refine A5 n.ports.length (λ j=>[(0,Q5 n up ranks roots costs),(3,.osl 14),(20,Aa n.ports.length),(21,Aa j)]) (λ j=>[(14,.row 1 Aa (Il n up ranks costs j))]) []
  ⟨⟨rfl,rfl,rfl,rfl,rfl,rfl,rfl,rfl,trivial⟩,⟨.inl rfl,rfl,trivial⟩,rfl,rfl⟩ ?_
 intro j hj
 refine oO ?_
 constructor<;>intro h
 ·have hlt:j<n.ports.length:=by simpa using h
  have hfar:=farS n up ranks (.sl 1 Aa roots) (.sl 1 Aa costs) rfl j hr hu hlt
  have hfl:=Adb (up:=up) hr hlt
  have hlen:=Mn n up ranks costs j
  have hrole:Uf n up ranks costs j=if Dr n up j<0 then 0 else if Lb n ranks costs j (Dr n up j).toNat then 2 else 3:=rfl
  have hsucc:=Ajz n up ranks costs j hlt
  have hsame:=Aj0 n up ranks costs j
  generalize Dr n up j=k at *
  refine oO ?_
  refine c0 hfar F145 ?_
  refine oO ?_
  constructor<;>intro h
  ·have hk:k<0:=zK h
   rw[zC hk]at hrole
   refine oO ?_
   refine iW ?_
   exact Ax [] hlt ⟨⟨E,E,E,E,E,E,E,E,Y⟩,⟨.inl (zD (Ob.row 1 Aa) (hsame hrole)),E,Y⟩,E,E⟩
  have hk:¬ k<0:=zN h
  rw[zA hk]at hrole
  obtain ⟨m,rfl⟩:∃ m:Nat,k=m:=⟨k.toNat,by omega⟩
  have hah:=Anl n up ranks roots costs j m hr hrk hc hlt q_
  rw[zR]at hrole
  refine oO ?_
  refine c0 hah F146 ?_
  refine oO ?_
  constructor<;>intro h
  ·rw[h,zC rfl]at hrole
   rw[hrole]at hsucc
   refine oO ?_
   refine⟨by omega,by omega,?_⟩
   conv=>whnf
   refine⟨E,by omega,2,E,E,?_⟩
   conv=>whnf
   refine iW ?_
   exact Ax [] hlt ⟨⟨E,E,E,E,E,E,E,E,Y⟩,⟨.inl (zD (Ob.row 1 Aa) hsucc),E,Y⟩,E,E⟩
  ·rw[h]at hrole
   simp only[vP,if_false]at hrole
   rw[hrole]at hsucc
   refine oO ?_
   refine⟨by omega,by omega,?_⟩
   conv=>whnf
   refine⟨E,by omega,3,E,E,?_⟩
   conv=>whnf
   refine iW ?_
   exact Ax [] hlt ⟨⟨E,E,E,E,E,E,E,E,Y⟩,⟨.inl (zD (Ob.row 1 Aa) hsucc),E,Y⟩,E,E⟩
 have hjl:j=n.ports.length:=by
  have:¬ j<n.ports.length:=by simpa using h
  omega
 subst hjl
 refine oO ?_
 refine A5 n.devices.length (λ d=>[(0,Q5 n up ranks roots costs),(3,.osl 14),(47,Aa n.devices.length),(48,Aa d)]) (λ d=>[(14,.row 1 Aa (I8 n up ranks roots costs d))]) []
  ⟨⟨rfl,rfl,rfl,rfl,rfl,rfl,rfl,rfl,trivial⟩,⟨.inl rfl,rfl,trivial⟩,rfl,rfl⟩ ?_
 clear hj h
 intro d hdle
 refine oO ?_
 constructor<;>intro h
 ·have hlt:d<n.devices.length:=by simpa using h
  have hbs:=bestS n up ranks roots costs d hr hu hcost hrk hro hc hb q_
  have hbl:=@best_lt n up ranks roots costs d
  have hlen:=H7 n up ranks roots costs d
  have hsucc:I8 n up ranks roots costs (d+1)=if 0≤Ei n up ranks roots costs d then (I8 n up ranks roots costs d).set (Ei n up ranks roots costs d).toNat 1 else I8 n up ranks roots costs d:=rfl
  generalize Ei n up ranks roots costs d=k at *
  refine oO ?_
  refine c0 hbs F147 ?_
  refine oO ?_
  constructor<;>intro h
  ·have hk:0≤k:=zK h
   rw[zC hk]at hsucc
   refine oO ?_
   refine⟨hk,by omega,?_⟩
   conv=>whnf
   refine⟨E,by omega,1,E,E,?_⟩
   conv=>whnf
   refine iW ?_
   exact Ax [] hlt ⟨⟨E,E,E,E,E,E,E,E,Y⟩,⟨.inl (zD (Ob.row 1 Aa) hsucc),E,Y⟩,E,E⟩
  ·have hk:¬ 0≤k:=zN h
   rw[zA hk]at hsucc
   refine oO ?_
   refine iW ?_
   exact Ax [] hlt ⟨⟨E,E,E,E,E,E,E,E,Y⟩,⟨.inl (zD (Ob.row 1 Aa) hsucc),E,Y⟩,E,E⟩
 have hdl:d=n.devices.length:=by
  have:¬ d<n.devices.length:=by simpa using h
  omega
 subst hdl
 refine oO ?_
 refine Ai 14 E ?_
 exact dN
def Afe (n:Net) (up:List Bool) (ranks:List Int) (roots costs:List Int):Obs:=[(0,.box (Ud n up ranks (.osl 1) (.osl 2))),(1,.row 1 Aa roots),(2,.row 1 Aa costs)]
theorem farR (n:Net) (up:List Bool) (ranks roots costs:List Int) (i:Nat) (hr:Ab n=true) (hu:up.length=n.links.length) (hi:i<n.ports.length) :
  Sq 145 [.ptr 0 0,Aa i] (Afe n up ranks roots costs) (Aa (Dr n up i)) (Afe n up ranks roots costs):=cT F145 Tryz.ntmps145 λ F hF=>by
 have hpl:=To hr hi
 have hf:=Hb hr
 have e1:n.ports[(i:Int).toNat]'q_=n.ports[i]:=rfl
 have hfar:Dr n up i=if n.ports[i].link<0 || !(up.getD n.ports[i].link.toNat false) then -1 else (nth n.links n.ports[i].link).a+(nth n.links n.ports[i].link).b-i:=by
  rw[Dr,Bc hi]
 generalize hp:n.ports[i]=p at *
 have hle:=λ h=>Lc hr (i:=p.link.toNat) h
 conv=>whnf
 refine⟨E,by omega,by omega,?_⟩
 rw[e1]
 conv=>whnf
 (repeat' (first | (refine⟨λ h=>?_,λ h=>?_⟩<;>(repeat (first | simp only[zG]at h | simp only[zV]at h | simp only[yK]at h | simp only[wC]at h))<;>((first|refine rg ?_|refine rd z_ ?_);(conv=>whnf))) | (refine⟨z_,?_⟩;((conv=>whnf);repeat((refine aT ?_);(refine oO ?_)))) | (refine⟨by (first | omega | ((have hq:=hle q_;unfold I64;omega))),by (first | omega | ((have hq:=hle q_;unfold I64;omega))),?_⟩;((conv=>whnf))) | refine done rfl (.cons .tmp .nil) [] (Afe n up ranks roots costs) (λ _ h=>h) ?_ rfl ⟨trivial,⟨.inl rfl,rfl,.inl rfl,rfl,.inl rfl,rfl,trivial⟩,rfl,rfl⟩))
 all_goals (refine zD Aa ?_;rw[hfar])
 ·simp_all
 ·have h1:up.getD p.link.toNat false=false:=by rw[Bc q_];assumption
  rw[h1];simp
 ·have h1:up.getD p.link.toNat false=true:=by rw[Bc q_];assumption
  rw[h1,Ae q_]
  simp_all
def D2 (n:Net) (up:List Bool) (x:Item) (q:List Item) (i:Nat):List Item :=
 if (n.ports.getD i default).dev=x.dev∧0≤Dr n up i then Uk q ⟨x.root,x.cost+(nth n.ports (Dr n up i)).cost,(nth n.ports (Dr n up i)).dev⟩ else q
def Ow (n:Net) (up:List Bool) (s:List Item × List Int × List Int):List Item × List Int × List Int :=
 let x:=(Dq s.1).getLast?.getD default
 let q:=(Dq s.1).dropLast
 if 0≤nth s.2.1 x.dev then (q,s.2) else ((List.range n.ports.length).foldl (D2 n up x) q,s.2.1.set x.dev.toNat x.root,s.2.2.set x.dev.toNat x.cost)
def H2 (n:Net) (up:List Bool):Nat→List Item × List Int × List Int→List Item × List Int × List Int
 | 0,s=>s
 | f+1,s=>if s.1=[] then s else H2 n up f (Ow n up s)
end Go.Sy.YtljngfegfclkpaaGreat
namespace Go.Sy.YtljngfegfclkpaaGreat
theorem Vb (q:List Item) (i j:Nat) (hi:i<q.length) (hj:j<q.length):(Ep q i j).Perm q:=by
 rw[Ep,Bc hi,Bc hj]
 exact List.set_set_perm hi hj
theorem Aja:∀ (f:Nat) (q:List Item) (j:Nat),j<q.length→(upF f q j).Perm q
 | 0,_,_,_=>.refl _
 | f+1,q,j,hj=>by
  rw[upF]
  split
  ·exact .refl _
  ·split
   ·exact(Aja f _ _ (by rw[A0];omega)).trans (Vb q _ _ q_ hj)
   ·exact .refl _
theorem Adi:∀ (f:Nat) (q:List Item) (i n:Nat),i<q.length→n≤q.length→(Em f q i n).1.Perm q
 | 0,_,_,_,_,_=>.refl _
 | f+1,q,i,n,hi,hn=>by
  rw[Em]
  split
  ·rename_i h
   have hc:=Ol q i n h
   split
   ·exact(Adi f _ _ n (by rw[A0];omega) (by rw[A0];exact hn)).trans (Vb q _ _ hi q_)
   ·exact .refl _
  ·exact .refl _
theorem Oy (q:List Item) (x:Item):(Uk q x).Perm (x::q) :=
 (Aja _ _ _ y_).trans (List.perm_append_comm (l₁:=q) (l₂:=[x]))
theorem K5 (q:List Item) (x:Item):(Uk q x).length=q.length+1:=by rw[Uk,Abb];simp
theorem Tp (q:List Item) (hq:q≠[]):(Dq q).Perm q:=by
 have h0:0<q.length:=xF.2 hq
 exact(Adi _ _ _ _ (by rw[A0];exact h0) (by rw[A0];omega)).trans (Vb q _ _ h0 q_)
def L7 (q:List Item) (n:Nat):Prop:=∀ c,0<c→c<n→c<q.length→B9 (q.getD c default) (q.getD ((c-1) / 2) default)=false
theorem O8 {x y z:Item} (h1:B9 y x=false) (h2:B9 z y=false):B9 z x=false:=by
 unfold B9 at *
 grind
theorem Ao8 {q:List Item} {n:Nat} (h:L7 q n) (hn:n≤q.length):∀ c,c<n→B9 (q.getD c default) (q.getD 0 default)=false:=by
 intro c
 induction c using Nat.strongRecOn with
 | ind c ih =>
  intro hc
  rcases vN c with h0 | h0
  ·subst h0;unfold B9;grind
  ·have h1:=h c h0 hc q_
   have h2:=ih ((c-1) / 2) q_ q_
   exact O8 h2 h1
theorem E3 (q:List Item) (i j c:Nat) (hi:i<q.length) (hj:j<q.length):(Ep q i j).getD c default=if c=j then q.getD i default else if c=i then q.getD j default else q.getD c default:=by
 rw[Ep]
 simp only[xX,uF,yE]
 by_cases h1:c=j
 ·subst h1;simp[hj]
 ·rw[zA (Ne.symm h1),zA h1]
  by_cases h2:c=i
  ·subst h2;simp[hi]
  ·rw[zA (Ne.symm h2),zA h2]
theorem O9 {x y:Item} (h:B9 x y=true):B9 y x=false:=by
 unfold B9 at *
 grind
structure UpInv (q:List Item) (j n:Nat):Prop where
 heap:∀ c,0<c→c<n→c≠j→B9 (q.getD c default) (q.getD ((c-1) / 2) default)=false
 over:∀ c,0<c→c<n→(c-1) / 2=j→0<j→B9 (q.getD c default) (q.getD ((j-1) / 2) default)=false
theorem Ajb (n:Nat):∀ (f:Nat) (q:List Item) (j:Nat),j≤f→j<n→n≤q.length→UpInv q j n→L7 (upF f q j) n
 | 0,q,j,hf,hj,hn,hI=>by
  have:j=0:=by omega
  subst this
  exact λ c h0 hc _=>hI.heap c h0 hc q_
 | f+1,q,j,hf,hj,hn,hI=>by
  rw[upF]
  split
  ·rename_i h0
   subst h0
   exact λ c h0 hc _=>hI.heap c h0 hc q_
  ·rename_i h0
   split
   ·rename_i hlt
    have hp:(j-1) / 2<j:=by omega
    refine Ajb n f _ _ q_ q_ (by rw[A0];exact hn) ⟨λ c hc0 hcn hcp=>?_,λ c hc0 hcn hpar hp0=>?_⟩
    ·rw[E3 _ _ _ _ q_ q_,E3 _ _ _ _ q_ q_]
     by_cases hcj:c=j
     ·subst hcj
      rw[zC rfl,zA q_,zC rfl]
      exact O9 hlt
     ·rw[zA hcj,zA hcp]
      by_cases hpj:(c-1) / 2=j
      ·rw[zC hpj]
       exact hI.over c hc0 hcn hpj q_
      ·rw[zA hpj]
       by_cases hpp:(c-1) / 2=(j-1) / 2
       ·rw[zC hpp]
        have:=hI.heap c hc0 hcn hcj
        rw[hpp]at this
        exact O8 (O9 hlt) this
       ·rw[zA hpp]
        exact hI.heap c hc0 hcn hcj
    ·rw[E3 _ _ _ _ q_ q_,E3 _ _ _ _ q_ q_]
     have hpI:=hI.heap ((j-1) / 2) hp0 q_ q_
     rw[zA (show ((j-1) / 2-1) / 2≠j by omega),zA (show ((j-1) / 2-1) / 2≠(j-1) / 2 by omega)]
     by_cases hcj:c=j
     ·rw[zC hcj];exact hpI
     ·rw[zA hcj,zA q_]
      have:=hI.heap c hc0 hcn hcj
      rw[hpar]at this
      exact O8 hpI this
   ·rename_i hlt
    intro c hc0 hcn _
    by_cases hcj:c=j
    ·subst hcj;simpa using hlt
    ·exact hI.heap c hc0 hcn hcj
theorem Of {q r:List Item} {c:Nat} (h:c<q.length):(q++r).getD c default=q.getD c default:=by
 simp[xX,xG h]
theorem Ab2 (q:List Item) (x:Item) (h:L7 q q.length):L7 (Uk q x) (Uk q x).length:=by
 rw[K5]
 refine Ajb (q.length+1) _ _ _ (zZ _) q_ y_ ⟨λ c hc0 hcn hcj=>?_,λ c hc0 hcn hpar hp0=>by omega⟩
 rw[Of q_,Of q_]
 exact h c hc0 q_ q_
structure DownInv (q:List Item) (i n:Nat):Prop where
 heap:∀ c,0<c→c<n→(c-1) / 2≠i→B9 (q.getD c default) (q.getD ((c-1) / 2) default)=false
 over:∀ c,0<c→c<n→(c-1) / 2=i→0<i→B9 (q.getD c default) (q.getD ((i-1) / 2) default)=false
theorem Au2 (q:List Item) (i n c:Nat) (_h:2 * i+1<n) (hc0:0<c) (hc:c<n) (hp:(c-1) / 2=i):B9 (q.getD c default) (q.getD (Ek q i n) default)=false:=by
 have hcc:c=2 * i+1∨c=2 * i+2:=by omega
 unfold Ek
 split
 ·rename_i hh
  rcases hcc with rfl | rfl
  ·exact O9 hh.2
  ·unfold B9;grind
 ·rename_i hh
  rcases hcc with rfl | rfl
  ·unfold B9;grind
  ·cases hlt:B9 (q.getD (2 * i+2) default) (q.getD (2 * i+1) default) with
   | false=>rfl
   | true=>exact zW ⟨hc,hlt⟩ hh
theorem Adk (n:Nat):∀ (f:Nat) (q:List Item) (i:Nat),n≤f+i→i<q.length→n≤q.length→DownInv q i n→L7 (Em f q i n).1 n
 | 0,q,i,hf,hi,hn,hI=>λ c hc0 hc _=>hI.heap c hc0 hc q_
 | f+1,q,i,hf,hi,hn,hI=>by
  rw[Em]
  split
  ·rename_i h
   have hcl:=Ol q i n h
   have hpar:(Ek q i n-1) / 2=i:=by unfold Ek;split<;>omega
   have hle:=λ c=>Au2 q i n c h
   generalize Ek q i n=k at *
   split
   ·rename_i hlt
    refine Adk n f _ _ q_ (by rw[A0];omega) (by rw[A0];exact hn) ⟨λ c hc0 hcn hck=>?_,λ c hc0 hcn hcp hk0=>?_⟩
    ·rw[E3 _ _ _ _ hi q_,E3 _ _ _ _ hi q_,zA hck]
     by_cases hc1:c=k
     ·subst hc1
      rw[zC rfl,zC hpar]
      exact O9 hlt
     ·rw[zA hc1]
      by_cases hc2:c=i
      ·subst hc2
       rw[zC rfl,zA q_]
       exact hI.over k q_ hcl.1 hpar hc0
      ·rw[zA hc2]
       by_cases hc3:(c-1) / 2=i
       ·rw[zC hc3];exact hle c hc0 hcn hc3
       ·rw[zA hc3];exact hI.heap c hc0 hcn hc3
    ·rw[E3 _ _ _ _ hi q_,E3 _ _ _ _ hi q_]
     rw[zA q_,zA q_,hpar,zA q_,zC rfl]
     have:=hI.heap c hc0 hcn q_
     rwa [hcp]at this
   ·rename_i hlt
    intro c hc0 hcn _
    by_cases hc3:(c-1) / 2=i
    ·rw[hc3]
     exact O8 (by simpa using hlt) (hle c hc0 hcn hc3)
    ·exact hI.heap c hc0 hcn hc3
  ·exact λ c hc0 hc _=>hI.heap c hc0 hc q_
end Go.Sy.YtljngfegfclkpaaGreat
