/-
  K28 K29 K30 K31 K32 K33 K34 K35 K36 K37 K38 A7 D5 D6 K39 K40 K41 K42 K8: parts of a proof, joined by program.
-/
import Derived.Test.YtnlacjgkdjnhmaaGreatI7
import Derived.Test.YtnlacjgkdjnhmaaGreatI4
import Derived.Test.YtnlacjgkdjnhmaaGreatI3
import Derived.Test.YtnlacjgkdjnhmaaGreatI6
import Derived.Test.YtnlacjgkdjnhmaaGreatI5
namespace Go.Sy.YtnlacjgkdjnhmaaGreat
open Go.Proofs
attribute [local irreducible] Go.Sy.G Go.Sy.DR
set_option maxRecDepth 100000
set_option maxHeartbeats 4000000
abbrev zP:List SV:=[Aa 0,Aa 0,Aa 0,Aa 0,Ce 0,Ce 0,.sl 1 Ak []]
theorem Afj (b:List UInt8) (hb:b.length<100000):Sy.Spec Tryz.prog 135 [.sl 1 Ak b] [] (.tup [O6 (ipTakeT b).1,Aa (ipTakeT b).2]) []:=Ab Γ hm 100 F135 Tryz.ntmps135 rfl fun F hF=>by
 have hres:=ipTakeT.eq_1 b
 generalize ipTakeT b=res at *
 ((conv=>whnf);repeat((first|refine aF ?_|refine aT ?_);(first|refine rG Γ hm ?_|refine rD Γ hm qq ?_);conv=>whnf))
 refine⟨fun h=>?_,fun h=>?_⟩
 ·rw[if_pos (by have:=of_decide_eq_true h;omega)]at hres
  subst hres
  ((first|refine rG Γ hm ?_|refine rD Γ hm qq ?_);(conv=>whnf);repeat((first|refine aF ?_|refine aT ?_);(first|refine rG Γ hm ?_|refine rD Γ hm qq ?_);conv=>whnf))
  refine A0 2 zP E (.cons (.refl _) (.cons (.refl _) (.cons (.refl _) (.cons (.refl _) (.cons (.refl _) (.cons (.refl _) (.cons .nil .nil))))))) ?_
  exact Ac E (.cons (.cell E E E E) (.cons .tmp .nil)) E E
 have h20:20≤b.length:=by have:=of_decide_eq_false h;omega
 rw[if_neg qn]at hres
 clear h
 have i0:(0:Int).toNat<b.length:=by show 0<_;omega
 have i1:(1:Int).toNat<b.length:=by show 1<_;omega
 have i8:(8:Int).toNat<b.length:=by show 8<_;omega
 have i9:(9:Int).toNat<b.length:=by show 9<_;omega
 have e0:b[(0:Int).toNat]'i0=bAt b 0:=(Z1 qn).symm
 have q2:=Qe b 2 qn hb
 have q4:=Qe b 4 qn hb
 have q6:=Qe b 6 qn hb
 have q12:=Afl b 12 qn hb
 have q16:=Afl b 16 qn hb
 have hl20:(b.take 20).length=20:=by rw[List.length_take];omega
 have hdiv:(b.take 20).length / 2=10:=by rw[hl20]
 have qs:=Af8 (b.take 20) qn (by rw[hl20])
 rw[hdiv]at qs
 ((first|refine rG Γ hm ?_|refine rD Γ hm qq ?_);(conv=>whnf);repeat((first|refine aF ?_|refine aT ?_);(first|refine rG Γ hm ?_|refine rD Γ hm qq ?_);conv=>whnf))
 refine⟨E,by decide,i0,?_⟩
 rw[e0]
 ((conv=>whnf);repeat((first|refine aF ?_|refine aT ?_);(first|refine rG Γ hm ?_|refine rD Γ hm qq ?_);conv=>whnf))
 refine⟨fun h=>?_,fun h=>?_⟩
 ·rw[if_pos (.inl (by rw[show ((69:Int))=((69:UInt8).toNat:Int) from rfl,Afu]at h;exact of_decide_eq_true h))]at hres
  subst hres
  ((first|refine rG Γ hm ?_|refine rD Γ hm qq ?_);(conv=>whnf);repeat((first|refine aF ?_|refine aT ?_);(first|refine rG Γ hm ?_|refine rD Γ hm qq ?_);conv=>whnf))
  refine A0 2 zP E (.cons (.refl _) (.cons (.refl _) (.cons (.refl _) (.cons (.refl _) (.cons (.refl _) (.cons (.refl _) (.cons .nil .nil))))))) ?_
  exact Ac E (.cons (.cell E E E E) (.cons .tmp .nil)) E E
 have h69:¬ bAt b 0≠69:=by rw[show ((69:Int))=((69:UInt8).toNat:Int) from rfl,Afu]at h;exact of_decide_eq_false h
 clear h
 ((first|refine rG Γ hm ?_|refine rD Γ hm qq ?_);(conv=>whnf);repeat((first|refine aF ?_|refine aT ?_);(first|refine rG Γ hm ?_|refine rD Γ hm qq ?_);conv=>whnf))
 refine Ah q2 F169 E E E E E ?_
 ((first|refine rG Γ hm ?_|refine rD Γ hm qq ?_);(conv=>whnf);repeat((first|refine aF ?_|refine aT ?_);(first|refine rG Γ hm ?_|refine rD Γ hm qq ?_);conv=>whnf))
 refine⟨fun h=>?_,fun h=>?_⟩
 ·rw[if_pos (.inr (by have:=of_decide_eq_true h;omega))]at hres
  subst hres
  ((first|refine rG Γ hm ?_|refine rD Γ hm qq ?_);(conv=>whnf);repeat((first|refine aF ?_|refine aT ?_);(first|refine rG Γ hm ?_|refine rD Γ hm qq ?_);conv=>whnf))
  refine A0 2 zP E (.cons (.refl _) (.cons (.refl _) (.cons (.refl _) (.cons (.refl _) (.cons (.refl _) (.cons (.refl _) (.cons .nil .nil))))))) ?_
  exact Ac E (.cons (.cell E E E E) (.cons .tmp .nil)) E E
 have hs20:20≤numAt b 2 2:=by have:=of_decide_eq_false h;omega
 rw[if_neg (fun h=>h.elim h69 qn)]at hres
 clear h
 ((first|refine rG Γ hm ?_|refine rD Γ hm qq ?_);(conv=>whnf);repeat((first|refine aF ?_|refine aT ?_);(first|refine rG Γ hm ?_|refine rD Γ hm qq ?_);conv=>whnf))
 refine Ah q2 F169 E E E E E ?_
 ((first|refine rG Γ hm ?_|refine rD Γ hm qq ?_);(conv=>whnf);repeat((first|refine aF ?_|refine aT ?_);(first|refine rG Γ hm ?_|refine rD Γ hm qq ?_);conv=>whnf))
 refine⟨fun h=>?_,fun h=>?_⟩
 ·rw[if_pos (by have:=of_decide_eq_true h;omega)]at hres
  subst hres
  ((first|refine rG Γ hm ?_|refine rD Γ hm qq ?_);(conv=>whnf);repeat((first|refine aF ?_|refine aT ?_);(first|refine rG Γ hm ?_|refine rD Γ hm qq ?_);conv=>whnf))
  refine A0 2 zP E (.cons (.refl _) (.cons (.refl _) (.cons (.refl _) (.cons (.refl _) (.cons (.refl _) (.cons (.refl _) (.cons .nil .nil))))))) ?_
  exact Ac E (.cons (.cell E E E E) (.cons .tmp .nil)) E E
 have hsl:numAt b 2 2≤b.length:=by have:=of_decide_eq_false h;omega
 rw[if_neg qn]at hres
 clear h
 ((first|refine rG Γ hm ?_|refine rD Γ hm qq ?_);(conv=>whnf);repeat((first|refine aF ?_|refine aT ?_);(first|refine rG Γ hm ?_|refine rD Γ hm qq ?_);conv=>whnf))
 refine Ah q6 F169 E E E E E ?_
 ((first|refine rG Γ hm ?_|refine rD Γ hm qq ?_);(conv=>whnf);repeat((first|refine aF ?_|refine aT ?_);(first|refine rG Γ hm ?_|refine rD Γ hm qq ?_);conv=>whnf))
 refine⟨fun h=>?_,fun h=>?_⟩
 ·rw[if_pos (by have:(numAt b 6 2:Int)≠0:=(by simpa using h);omega)]at hres
  subst hres
  ((first|refine rG Γ hm ?_|refine rD Γ hm qq ?_);(conv=>whnf);repeat((first|refine aF ?_|refine aT ?_);(first|refine rG Γ hm ?_|refine rD Γ hm qq ?_);conv=>whnf))
  refine A0 2 zP E (.cons (.refl _) (.cons (.refl _) (.cons (.refl _) (.cons (.refl _) (.cons (.refl _) (.cons (.refl _) (.cons .nil .nil))))))) ?_
  exact Ac E (.cons (.cell E E E E) (.cons .tmp .nil)) E E
 rw[if_neg (by have:(numAt b 6 2:Int)=0:=(by simpa using h);omega)]at hres
 clear h
 ((first|refine rG Γ hm ?_|refine rD Γ hm qq ?_);(conv=>whnf);repeat((first|refine aF ?_|refine aT ?_);(first|refine rG Γ hm ?_|refine rD Γ hm qq ?_);conv=>whnf))
 refine Ai (Cj (lo:=0) (hi:=20) Γ.toTy E E E E (.inl ⟨E,E⟩) (.inr ⟨_,_,E,E⟩) qn h20) E E ?_
 ((first|refine rG Γ hm ?_|refine rD Γ hm qq ?_);(conv=>whnf);repeat((first|refine aF ?_|refine aT ?_);(first|refine rG Γ hm ?_|refine rD Γ hm qq ?_);conv=>whnf))
 refine Ah qs F170 E E E E E ?_
 by_cases hsum:Ez (Ok (b.take 20) 10)=65535
 rotate_left
 ·rw[if_pos hsum]at hres
  subst hres
  rw[decide_eq_false hsum]
  ((first|refine rG Γ hm ?_|refine rD Γ hm qq ?_);(conv=>whnf);repeat((first|refine aF ?_|refine aT ?_);(first|refine rG Γ hm ?_|refine rD Γ hm qq ?_);conv=>whnf))
  refine A0 2 zP E (.cons (.refl _) (.cons (.refl _) (.cons (.refl _) (.cons (.refl _) (.cons (.refl _) (.cons (.refl _) (.cons .nil .nil))))))) ?_
  exact Ac E (.cons (.cell E E E E) (.cons .tmp .nil)) E E
 rw[if_neg (fun h=>h hsum)]at hres
 subst hres
 rw[decide_eq_true hsum]
 have qc:=Ik ((b.take (numAt b 2 2)).drop 20) (by rw[List.length_drop,List.length_take];omega)
 have w1:IntKind.i64.wrap ((b[(1:Int).toNat]'i1).toNat:Int)=((bAt b 1).toNat:Int):=by
  rw[Z1 (show 1<b.length by omega)]
  have:=(b[1]'qn).toNat_lt
  show IntKind.i64.wrap ((b[1]'qn).toNat:Int)=_
  rw[IntKind.wrap_i64];omega
 have w8:IntKind.i64.wrap ((b[(8:Int).toNat]'i8).toNat:Int)=((bAt b 8).toNat:Int):=by
  rw[Z1 (show 8<b.length by omega)]
  have:=(b[8]'qn).toNat_lt
  show IntKind.i64.wrap ((b[8]'qn).toNat:Int)=_
  rw[IntKind.wrap_i64];omega
 have w9:IntKind.i64.wrap ((b[(9:Int).toNat]'i9).toNat:Int)=((bAt b 9).toNat:Int):=by
  rw[Z1 (show 9<b.length by omega)]
  have:=(b[9]'qn).toNat_lt
  show IntKind.i64.wrap ((b[9]'qn).toNat:Int)=_
  rw[IntKind.wrap_i64];omega
 ((first|refine rG Γ hm ?_|refine rD Γ hm qq ?_);(conv=>whnf);repeat((first|refine aF ?_|refine aT ?_);(first|refine rG Γ hm ?_|refine rD Γ hm qq ?_);conv=>whnf))
 refine⟨E,by decide,i1,?_⟩
 ((conv=>whnf);repeat((first|refine aF ?_|refine aT ?_);(first|refine rG Γ hm ?_|refine rD Γ hm qq ?_);conv=>whnf))
 refine An q4 F169 E E E qq E ?_
 ((first|refine rG Γ hm ?_|refine rD Γ hm qq ?_);(conv=>whnf);repeat((first|refine aF ?_|refine aT ?_);(first|refine rG Γ hm ?_|refine rD Γ hm qq ?_);conv=>whnf))
 refine⟨E,by decide,i8,?_⟩
 ((conv=>whnf);repeat((first|refine aF ?_|refine aT ?_);(first|refine rG Γ hm ?_|refine rD Γ hm qq ?_);conv=>whnf))
 refine⟨E,by decide,i9,?_⟩
 ((conv=>whnf);repeat((first|refine aF ?_|refine aT ?_);(first|refine rG Γ hm ?_|refine rD Γ hm qq ?_);conv=>whnf))
 refine An q12 F171 E E E qq E ?_
 ((first|refine rG Γ hm ?_|refine rD Γ hm qq ?_);(conv=>whnf);repeat((first|refine aF ?_|refine aT ?_);(first|refine rG Γ hm ?_|refine rD Γ hm qq ?_);conv=>whnf))
 refine An q16 F171 E E E qq E ?_
 ((first|refine rG Γ hm ?_|refine rD Γ hm qq ?_);(conv=>whnf);repeat((first|refine aF ?_|refine aT ?_);(first|refine rG Γ hm ?_|refine rD Γ hm qq ?_);conv=>whnf))
 refine An q2 F169 E E E qq E ?_
 ((first|refine rG Γ hm ?_|refine rD Γ hm qq ?_);(conv=>whnf);repeat((first|refine aF ?_|refine aT ?_);(first|refine rG Γ hm ?_|refine rD Γ hm qq ?_);conv=>whnf))
 refine Bv (Cj (lo:=20) (hi:=numAt b 2 2) Γ.toTy E E E E (.inr ⟨_,_,E,E⟩) (.inr ⟨_,_,E,E⟩) hs20 hsl) qq E ?_
 ((first|refine rG Γ hm ?_|refine rD Γ hm qq ?_);(conv=>whnf);repeat((first|refine aF ?_|refine aT ?_);(first|refine rG Γ hm ?_|refine rD Γ hm qq ?_);conv=>whnf))
 refine An qc F13 E E E qq E ?_
 ((first|refine rG Γ hm ?_|refine rD Γ hm qq ?_);(conv=>whnf);repeat((first|refine aF ?_|refine aT ?_);(first|refine rG Γ hm ?_|refine rD Γ hm qq ?_);conv=>whnf))
 refine⟨qq,?_⟩
 ((conv=>whnf);repeat((first|refine aF ?_|refine aT ?_);(first|refine rG Γ hm ?_|refine rD Γ hm qq ?_);conv=>whnf))
 refine Ac E (.cons (.cell E E E E) (.cons .tmp .nil)) ?_ E
 show SV.tup [.agg [Aa (bAt b 1).toNat,_,Aa (bAt b 8).toNat,Aa (bAt b 9).toNat,_,_,_],_]=SV.tup [.agg [Aa (IntKind.i64.wrap ((b[(1:Int).toNat]'i1).toNat:Int)),_,Aa (IntKind.i64.wrap ((b[(8:Int).toNat]'i8).toNat:Int)),Aa (IntKind.i64.wrap ((b[(9:Int).toNat]'i9).toNat:Int)),_,_,_],_]
 rw[w1,w8,w9]
 rfl
theorem Ajf (t:Nat) (h:t≤255):bits .or .i64 17664 (t:Int)=((17664+t:Nat):Int):=by
 have h1:=Cu 17664 t qx qn
 rw[show ((17664:Nat):Int)=17664 from rfl]at h1
 rw[h1]
 congr 1
 have h2:=Nat.two_pow_add_eq_or_of_lt (i:=8) (b:=t) qn 69
 rw[show 2 ^ 8 * 69=17664 from rfl]at h2
 rw[← h2]
theorem Alq (x y:Nat) (hx:x≤255) (hy:y≤255):bits .or .i64 (IntKind.i64.wrap ((x:Int) * 2 ^ min (Int.toNat 8) IntKind.i64.bits)) (y:Int)=((x * 256+y:Nat):Int):=by
 have h3:IntKind.i64.wrap ((x:Int) * 2 ^ min (Int.toNat 8) IntKind.i64.bits)=((x * 256:Nat):Int):=by
  show IntKind.i64.wrap ((x:Int) * 256)=_
  rw[IntKind.wrap_i64]
  omega
 rw[h3,Cu _ _ qn qn]
 congr 1
 have h:=Nat.two_pow_add_eq_or_of_lt (i:=8) (b:=y) qn x
 rw[Nat.mul_comm x 256]
 exact h.symm
theorem Abv (x:Nat) (h:x<4294967296):IntKind.i64.wrap ((x:Int).fdiv (2 ^ (min (Int.toNat 16) IntKind.u32.bits)))=((x / 65536:Nat):Int):=by
 show IntKind.i64.wrap ((x:Int).fdiv 65536)=_
 rw[Int.fdiv_eq_ediv_of_nonneg _ qx,IntKind.wrap_i64]
 omega
theorem Afh (x:Nat) (h:x<4294967296):IntKind.i64.wrap (x:Int)=(x:Int):=by rw[IntKind.wrap_i64];omega
theorem Afk (p:PacketM) (hp:PacketOK p) (hb:p.body.length<100000):Sy.Spec Tryz.prog 138 [O6 p] [] (.tup [.sl 1 Ak (ipPutT p).1,Aa (ipPutT p).2]) []:=Ab Γ hm 100 F138 Tryz.ntmps138 rfl fun F hF=>by
 have hres:=ipPutT.eq_1 p
 generalize ipPutT p=res at *
 have h1:=hp.tos
 have h2:=hp.id
 have h3:=hp.ttl
 have h4:=hp.proto
 have h5:=hp.src
 have h6:=hp.dst
 ((conv=>whnf);repeat((first|refine aF ?_|refine aT ?_);(first|refine rG Γ hm ?_|refine rD Γ hm qq ?_);conv=>whnf))
 refine Dx ⟨⟨_,_,F178⟩,Yq p.tos 255 qn⟩ E E E E E E ?_
 ((first|refine rG Γ hm ?_|refine rD Γ hm qq ?_);(conv=>whnf);repeat((first|refine aF ?_|refine aT ?_);(first|refine rG Γ hm ?_|refine rD Γ hm qq ?_);conv=>whnf))
 refine Dx ⟨⟨_,_,F178⟩,Yq p.ttl 255 qn⟩ E E E E E E ?_
 ((first|refine rG Γ hm ?_|refine rD Γ hm qq ?_);(conv=>whnf);repeat((first|refine aF ?_|refine aT ?_);(first|refine rG Γ hm ?_|refine rD Γ hm qq ?_);conv=>whnf))
 refine Dx ⟨⟨_,_,F178⟩,Yq p.proto 255 qn⟩ E E E E E E ?_
 ((first|refine rG Γ hm ?_|refine rD Γ hm qq ?_);(conv=>whnf);repeat((first|refine aF ?_|refine aT ?_);(first|refine rG Γ hm ?_|refine rD Γ hm qq ?_);conv=>whnf))
 refine Dx ⟨⟨_,_,F178⟩,Yq p.id 65535 qn⟩ E E E E E E ?_
 ((first|refine rG Γ hm ?_|refine rD Γ hm qq ?_);(conv=>whnf);repeat((first|refine aF ?_|refine aT ?_);(first|refine rG Γ hm ?_|refine rD Γ hm qq ?_);conv=>whnf))
 refine⟨fun h=>?_,fun h=>?_⟩
 ·rw[if_pos (by have:=of_decide_eq_true h;omega)]at hres
  subst hres
  ((first|refine rG Γ hm ?_|refine rD Γ hm qq ?_);(conv=>whnf);repeat((first|refine aF ?_|refine aT ?_);(first|refine rG Γ hm ?_|refine rD Γ hm qq ?_);conv=>whnf))
  refine Ap 2 1 Ak E ?_
  exact Ac E (.cons .tmp (.cons .tmp .nil)) E E
 have hl:p.body.length≤1480:=by have:=of_decide_eq_false h;omega
 rw[if_neg qn]at hres
 subst hres
 clear h
 have hsz:Tv p=((Hm p 0).set 10 (UInt8.ofNat (Xx p / 256))).set 11 (UInt8.ofNat (Xx p))++p.body:=by rw[Ad1,Tv]
 rw[hsz]
 have hil:=Mr p 0
 have hs:=sumOfS (Hm p 0) (by rw[hil];decide) (by rw[hil])
 have hput:=Ajz [17664+p.tos,20+p.body.length,p.id,0,p.ttl * 256+p.proto,0,p.src / 65536,p.src,p.dst / 65536,p.dst] qy
 rw[show Id [17664+p.tos,20+p.body.length,p.id,0,p.ttl * 256+p.proto,0,p.src / 65536,p.src,p.dst / 65536,p.dst]=Hm p 0 from rfl]at hput
 have hss:Ae2 (Hm p 0)=Xx p:=rfl
 rw[hss]at hs
 have hsl:Xx p≤65535:=Nat.sub_le _ _
 generalize Xx p=s at *
 have htb:=Dz s
 have o1:=Ajf p.tos h1
 have o2:=Alq p.ttl p.proto h3 h4
 have g1:=Abv p.src h5
 have g2:=Afh p.src h5
 have g3:=Abv p.dst h6
 have g4:=Afh p.dst h6
 generalize Hm p 0=b at *
 ((first|refine rG Γ hm ?_|refine rD Γ hm qq ?_);(conv=>whnf);repeat((first|refine aF ?_|refine aT ?_);(first|refine rG Γ hm ?_|refine rD Γ hm qq ?_);conv=>whnf))
 refine⟨by unfold I64;omega,?_⟩
 ((conv=>whnf);repeat((first|refine aF ?_|refine aT ?_);(first|refine rG Γ hm ?_|refine rD Γ hm qq ?_);conv=>whnf))
 refine⟨by decide,?_⟩
 ((conv=>whnf);repeat((first|refine aF ?_|refine aT ?_);(first|refine rG Γ hm ?_|refine rD Γ hm qq ?_);conv=>whnf))
 refine⟨by decide,?_⟩
 ((conv=>whnf);repeat((first|refine aF ?_|refine aT ?_);(first|refine rG Γ hm ?_|refine rD Γ hm qq ?_);conv=>whnf))
 refine⟨by decide,?_⟩
 ((conv=>whnf);repeat((first|refine aF ?_|refine aT ?_);(first|refine rG Γ hm ?_|refine rD Γ hm qq ?_);conv=>whnf))
 refine Acu 68 (e:=Ajr) (l:=[17664+p.tos,20+p.body.length,p.id,0,p.ttl * 256+p.proto,0,p.src / 65536,p.src,p.dst / 65536,p.dst]) E ?_ ?_
 ·show _=[SV.val (.int .i64 (bits .or .i64 17664 (p.tos:Int))),SV.val _,SV.val _,SV.val _,SV.val (.int .i64 (bits .or .i64 (IntKind.i64.wrap ((p.ttl:Int) * 2 ^ min (Int.toNat 8) IntKind.i64.bits)) (p.proto:Int))),SV.val _,
   SV.val (.int .i64 (IntKind.i64.wrap ((p.src:Int).fdiv (2 ^ (min (Int.toNat 16) IntKind.u32.bits))))),SV.val (.int .i64 (IntKind.i64.wrap (p.src:Int))),SV.val (.int .i64 (IntKind.i64.wrap ((p.dst:Int).fdiv (2 ^ (min (Int.toNat 16) IntKind.u32.bits))))),SV.val (.int .i64 (IntKind.i64.wrap (p.dst:Int)))]
  rw[o1,o2,g1,g2,g3,g4]
  rfl
 refine Au 68 E ?_
 refine Ai (Aj [(0,69)] E F179 hput E Y E ⟨.inr E,Y⟩) E E ?_
 ((first|refine rG Γ hm ?_|refine rD Γ hm qq ?_);(conv=>whnf);repeat((first|refine aF ?_|refine aT ?_);(first|refine rG Γ hm ?_|refine rD Γ hm qq ?_);conv=>whnf))
 refine Aft [69] hs F180 E (.cons (.row E E) .nil) E E E ?_
 ((first|refine rG Γ hm ?_|refine rD Γ hm qq ?_);(conv=>whnf);repeat((first|refine aF ?_|refine aT ?_);(first|refine rG Γ hm ?_|refine rD Γ hm qq ?_);conv=>whnf))
 have hb1:=(List.cons.inj htb).1
 have hb2:=(List.cons.inj (List.cons.inj htb).2).1
 refine⟨by omega,?_⟩
 ((conv=>whnf);repeat((first|refine aF ?_|refine aT ?_);(first|refine rG Γ hm ?_|refine rD Γ hm qq ?_);conv=>whnf))
 refine⟨by decide,by rw[hil];decide,?_⟩
 ((conv=>whnf);repeat((first|refine aF ?_|refine aT ?_);(first|refine rG Γ hm ?_|refine rD Γ hm qq ?_);conv=>whnf))
 refine⟨E,by rw[hil];decide,UInt8.ofNat (s / 256),congrArg (fun z=>[z]) hb1,E,?_⟩
 ((conv=>whnf);repeat((first|refine aF ?_|refine aT ?_);(first|refine rG Γ hm ?_|refine rD Γ hm qq ?_);conv=>whnf))
 refine⟨by decide,by simp[hil],?_⟩
 ((conv=>whnf);repeat((first|refine aF ?_|refine aT ?_);(first|refine rG Γ hm ?_|refine rD Γ hm qq ?_);conv=>whnf))
 refine⟨E,by simp[hil],UInt8.ofNat s,congrArg (fun z=>[z]) hb2,E,?_⟩
 ((conv=>whnf);repeat((first|refine aF ?_|refine aT ?_);(first|refine rG Γ hm ?_|refine rD Γ hm qq ?_);conv=>whnf))
 refine Ai (Al Γ.toTy 84 E E E E E (.row E) .sl qx (by simp[hil];omega) (by simp[hil];omega)) E E ?_
 refine Au 84 E ?_
 ((first|refine rG Γ hm ?_|refine rD Γ hm qq ?_);(conv=>whnf);repeat((first|refine aF ?_|refine aT ?_);(first|refine rG Γ hm ?_|refine rD Γ hm qq ?_);conv=>whnf))
 exact Ac E (.cons .tmp (.cons .tmp .nil)) E E
def hop1 (p:PacketM):PacketM × Int:=if p.ttl≤1 then (noP,13) else (Ad5 p,0)
theorem ipHopS (p:PacketM) (hb:p.body.length<100000) (ht:p.ttl≤255):Sy.Spec Tryz.prog 136 [O6 p] [] (.tup [O6 (hop1 p).1,Aa (hop1 p).2]) []:=Ab Γ hm 100 F136 Tryz.ntmps136 rfl fun F hF=>by
 have hres:=hop1.eq_1 p
 generalize hop1 p=res at *
 have qc:=Ik p.body qn
 ((conv=>whnf);repeat((first|refine aF ?_|refine aT ?_);(first|refine rG Γ hm ?_|refine rD Γ hm qq ?_);conv=>whnf))
 refine⟨fun h=>?_,fun h=>?_⟩
 ·rw[if_pos (by have:=of_decide_eq_true h;omega)]at hres
  subst hres
  ((first|refine rG Γ hm ?_|refine rD Γ hm qq ?_);(conv=>whnf);repeat((first|refine aF ?_|refine aT ?_);(first|refine rG Γ hm ?_|refine rD Γ hm qq ?_);conv=>whnf))
  refine A0 2 zP E (.cons (.refl _) (.cons (.refl _) (.cons (.refl _) (.cons (.refl _) (.cons (.refl _) (.cons (.refl _) (.cons .nil .nil))))))) ?_
  exact Ac E (.cons (.cell E E E E) (.cons .tmp .nil)) E E
 have h2:¬ p.ttl≤1:=by have:=of_decide_eq_false h;omega
 rw[if_neg h2]at hres
 subst hres
 have e:((p.ttl-1:Nat):Int)=(p.ttl:Int)-1:=by omega
 ((first|refine rG Γ hm ?_|refine rD Γ hm qq ?_);(conv=>whnf);repeat((first|refine aF ?_|refine aT ?_);(first|refine rG Γ hm ?_|refine rD Γ hm qq ?_);conv=>whnf))
 refine⟨by unfold I64;omega,?_⟩
 ((conv=>whnf);repeat((first|refine aF ?_|refine aT ?_);(first|refine rG Γ hm ?_|refine rD Γ hm qq ?_);conv=>whnf))
 refine Ah qc F13 E E E E E ?_
 ((first|refine rG Γ hm ?_|refine rD Γ hm qq ?_);(conv=>whnf);repeat((first|refine aF ?_|refine aT ?_);(first|refine rG Γ hm ?_|refine rD Γ hm qq ?_);conv=>whnf))
 refine Ac E (.cons (.cell E E E E) (.cons .tmp .nil)) ?_ E
 show SV.tup [.agg [_,_,Aa ((p.ttl-1:Nat):Int),_,_,_,_],_]=SV.tup [.agg [_,_,Aa ((p.ttl:Int)-1),_,_,_,_],_]
 rw[e]
 rfl
def udpU (b:List UInt8):Nat→List SV
 | 0=>[Aa 0,Aa 0,Aa 0,Aa 0]
 | 1=>[Aa (numAt b 0 2),Aa 0,Aa 0,Aa 0]
 | 2=>[Aa (numAt b 0 2),Aa (numAt b 2 2),Aa 0,Aa 0]
 | 3=>[Aa (numAt b 0 2),Aa (numAt b 2 2),Aa (numAt b 4 2),Aa 0]
 | _=>[Aa (numAt b 0 2),Aa (numAt b 2 2),Aa (numAt b 4 2),Aa (numAt b 6 2)]
theorem Ah7 (b:List UInt8) (hb:b.length<100000):Sy.Spec Tryz.prog 217 [.sl 1 Ak b] [] (.tup [Aa (udpTakeT b).1,Aa (udpTakeT b).2.1,.sl 1 Ak (udpTakeT b).2.2.1,Aa (udpTakeT b).2.2.2]) []:=Ab Γ hm 100 F217 Tryz.ntmps217 rfl fun F hF=>by
 have hres:=udpTakeT.eq_1 b
 generalize udpTakeT b=res at *
 ((conv=>whnf);repeat((first|refine aF ?_|refine aT ?_);(first|refine rG Γ hm ?_|refine rD Γ hm qq ?_);conv=>whnf))
 refine⟨fun h=>?_,fun h=>?_⟩
 ·rw[if_pos (by have:=of_decide_eq_true h;omega)]at hres
  subst hres
  ((first|refine rG Γ hm ?_|refine rD Γ hm qq ?_);(conv=>whnf);repeat((first|refine aF ?_|refine aT ?_);(first|refine rG Γ hm ?_|refine rD Γ hm qq ?_);conv=>whnf))
  refine Ap 4 1 Ak E ?_
  exact Ac E (.cons .tmp (.cons .tmp (.cons .tmp (.cons .tmp .nil)))) E E
 have h8:8≤b.length:=by have:=of_decide_eq_false h;omega
 rw[if_neg qn]at hres
 clear h
 have hp0:=D4 (b[0]'qn) (b[1]'qn)
 rw[← M7 (show 0+2≤b.length by omega)]at hp0
 have hp1:=D4 (b[2]'qn) (b[3]'qn)
 rw[← M7 (show 2+2≤b.length by omega)]at hp1
 have hp2:=D4 (b[4]'qn) (b[5]'qn)
 rw[← M7 (show 4+2≤b.length by omega)]at hp2
 have hp3:=D4 (b[6]'qn) (b[7]'qn)
 rw[← M7 (show 6+2≤b.length by omega)]at hp3
 ((first|refine rG Γ hm ?_|refine rD Γ hm qq ?_);(conv=>whnf);repeat((first|refine aF ?_|refine aT ?_);(first|refine rG Γ hm ?_|refine rD Γ hm qq ?_);conv=>whnf))
 refine A2 4 (fun j=>[(0,.sl 1 Ak b),(6,.ptr 6 0),(11,Aa j)]) (fun j=>[(6,.box (udpU b j))]) [] ⟨⟨E,E,E,E,E,E,Y⟩,⟨.inl E,E,Y⟩,E,E⟩ ?_
 intro j hj
 have hcase:j=0∨j=1∨j=2∨j=3∨j=4:=by omega
 rcases hcase with rfl | rfl | rfl | rfl | rfl
 ·((first|refine rG Γ hm ?_|refine rD Γ hm qq ?_);(conv=>whnf);repeat((first|refine aF ?_|refine aT ?_);(first|refine rG Γ hm ?_|refine rD Γ hm qq ?_);conv=>whnf))
  refine⟨by unfold I64;omega,?_⟩
  ((conv=>whnf);repeat((first|refine aF ?_|refine aT ?_);(first|refine rG Γ hm ?_|refine rD Γ hm qq ?_);conv=>whnf))
  refine⟨E,by omega,by omega,?_⟩
  ((conv=>whnf);repeat((first|refine aF ?_|refine aT ?_);(first|refine rG Γ hm ?_|refine rD Γ hm qq ?_);conv=>whnf))
  refine⟨by decide,?_⟩
  ((conv=>whnf);repeat((first|refine aF ?_|refine aT ?_);(first|refine rG Γ hm ?_|refine rD Γ hm qq ?_);conv=>whnf))
  refine⟨by unfold I64;omega,?_⟩
  ((conv=>whnf);repeat((first|refine aF ?_|refine aT ?_);(first|refine rG Γ hm ?_|refine rD Γ hm qq ?_);conv=>whnf))
  refine⟨by unfold I64;omega,?_⟩
  ((conv=>whnf);repeat((first|refine aF ?_|refine aT ?_);(first|refine rG Γ hm ?_|refine rD Γ hm qq ?_);conv=>whnf))
  refine⟨E,by omega,by omega,?_⟩
  ((conv=>whnf);repeat((first|refine aF ?_|refine aT ?_);(first|refine rG Γ hm ?_|refine rD Γ hm qq ?_);conv=>whnf))
  refine⟨by decide,by decide,?_⟩
  ((conv=>whnf);repeat((first|refine aF ?_|refine aT ?_);(first|refine rG Γ hm ?_|refine rD Γ hm qq ?_);conv=>whnf))
  refine⟨qq,?_⟩
  ((conv=>whnf);repeat((first|refine aF ?_|refine aT ?_);(first|refine rG Γ hm ?_|refine rD Γ hm qq ?_);conv=>whnf))
  refine⟨by unfold I64;omega,?_⟩
  ((conv=>whnf);repeat((first|refine aF ?_|refine aT ?_);(first|refine rG Γ hm ?_|refine rD Γ hm qq ?_);conv=>whnf))
  exact Av [] qx ⟨⟨E,E,E,E,E,E,Y⟩,⟨.inl (congrArg (fun z:Int=>Ob.box [Aa z,Aa 0,Aa 0,Aa 0]) hp0.symm),E,Y⟩,E,E⟩
 ·((first|refine rG Γ hm ?_|refine rD Γ hm qq ?_);(conv=>whnf);repeat((first|refine aF ?_|refine aT ?_);(first|refine rG Γ hm ?_|refine rD Γ hm qq ?_);conv=>whnf))
  refine⟨by unfold I64;omega,?_⟩
  ((conv=>whnf);repeat((first|refine aF ?_|refine aT ?_);(first|refine rG Γ hm ?_|refine rD Γ hm qq ?_);conv=>whnf))
  refine⟨E,by omega,by omega,?_⟩
  ((conv=>whnf);repeat((first|refine aF ?_|refine aT ?_);(first|refine rG Γ hm ?_|refine rD Γ hm qq ?_);conv=>whnf))
  refine⟨by decide,?_⟩
  ((conv=>whnf);repeat((first|refine aF ?_|refine aT ?_);(first|refine rG Γ hm ?_|refine rD Γ hm qq ?_);conv=>whnf))
  refine⟨by unfold I64;omega,?_⟩
  ((conv=>whnf);repeat((first|refine aF ?_|refine aT ?_);(first|refine rG Γ hm ?_|refine rD Γ hm qq ?_);conv=>whnf))
  refine⟨by unfold I64;omega,?_⟩
  ((conv=>whnf);repeat((first|refine aF ?_|refine aT ?_);(first|refine rG Γ hm ?_|refine rD Γ hm qq ?_);conv=>whnf))
  refine⟨E,by omega,by omega,?_⟩
  ((conv=>whnf);repeat((first|refine aF ?_|refine aT ?_);(first|refine rG Γ hm ?_|refine rD Γ hm qq ?_);conv=>whnf))
  refine⟨by decide,by decide,?_⟩
  ((conv=>whnf);repeat((first|refine aF ?_|refine aT ?_);(first|refine rG Γ hm ?_|refine rD Γ hm qq ?_);conv=>whnf))
  refine⟨qq,?_⟩
  ((conv=>whnf);repeat((first|refine aF ?_|refine aT ?_);(first|refine rG Γ hm ?_|refine rD Γ hm qq ?_);conv=>whnf))
  refine⟨by unfold I64;omega,?_⟩
  ((conv=>whnf);repeat((first|refine aF ?_|refine aT ?_);(first|refine rG Γ hm ?_|refine rD Γ hm qq ?_);conv=>whnf))
  exact Av [] qx ⟨⟨E,E,E,E,E,E,Y⟩,⟨.inl (congrArg (fun z:Int=>Ob.box [Aa (numAt b 0 2),Aa z,Aa 0,Aa 0]) hp1.symm),E,Y⟩,E,E⟩
 ·((first|refine rG Γ hm ?_|refine rD Γ hm qq ?_);(conv=>whnf);repeat((first|refine aF ?_|refine aT ?_);(first|refine rG Γ hm ?_|refine rD Γ hm qq ?_);conv=>whnf))
  refine⟨by unfold I64;omega,?_⟩
  ((conv=>whnf);repeat((first|refine aF ?_|refine aT ?_);(first|refine rG Γ hm ?_|refine rD Γ hm qq ?_);conv=>whnf))
  refine⟨E,by omega,by omega,?_⟩
  ((conv=>whnf);repeat((first|refine aF ?_|refine aT ?_);(first|refine rG Γ hm ?_|refine rD Γ hm qq ?_);conv=>whnf))
  refine⟨by decide,?_⟩
  ((conv=>whnf);repeat((first|refine aF ?_|refine aT ?_);(first|refine rG Γ hm ?_|refine rD Γ hm qq ?_);conv=>whnf))
  refine⟨by unfold I64;omega,?_⟩
  ((conv=>whnf);repeat((first|refine aF ?_|refine aT ?_);(first|refine rG Γ hm ?_|refine rD Γ hm qq ?_);conv=>whnf))
  refine⟨by unfold I64;omega,?_⟩
  ((conv=>whnf);repeat((first|refine aF ?_|refine aT ?_);(first|refine rG Γ hm ?_|refine rD Γ hm qq ?_);conv=>whnf))
  refine⟨E,by omega,by omega,?_⟩
  ((conv=>whnf);repeat((first|refine aF ?_|refine aT ?_);(first|refine rG Γ hm ?_|refine rD Γ hm qq ?_);conv=>whnf))
  refine⟨by decide,by decide,?_⟩
  ((conv=>whnf);repeat((first|refine aF ?_|refine aT ?_);(first|refine rG Γ hm ?_|refine rD Γ hm qq ?_);conv=>whnf))
  refine⟨qq,?_⟩
  ((conv=>whnf);repeat((first|refine aF ?_|refine aT ?_);(first|refine rG Γ hm ?_|refine rD Γ hm qq ?_);conv=>whnf))
  refine⟨by unfold I64;omega,?_⟩
  ((conv=>whnf);repeat((first|refine aF ?_|refine aT ?_);(first|refine rG Γ hm ?_|refine rD Γ hm qq ?_);conv=>whnf))
  exact Av [] qx ⟨⟨E,E,E,E,E,E,Y⟩,⟨.inl (congrArg (fun z:Int=>Ob.box [Aa (numAt b 0 2),Aa (numAt b 2 2),Aa z,Aa 0]) hp2.symm),E,Y⟩,E,E⟩
 ·((first|refine rG Γ hm ?_|refine rD Γ hm qq ?_);(conv=>whnf);repeat((first|refine aF ?_|refine aT ?_);(first|refine rG Γ hm ?_|refine rD Γ hm qq ?_);conv=>whnf))
  refine⟨by unfold I64;omega,?_⟩
  ((conv=>whnf);repeat((first|refine aF ?_|refine aT ?_);(first|refine rG Γ hm ?_|refine rD Γ hm qq ?_);conv=>whnf))
  refine⟨E,by omega,by omega,?_⟩
  ((conv=>whnf);repeat((first|refine aF ?_|refine aT ?_);(first|refine rG Γ hm ?_|refine rD Γ hm qq ?_);conv=>whnf))
  refine⟨by decide,?_⟩
  ((conv=>whnf);repeat((first|refine aF ?_|refine aT ?_);(first|refine rG Γ hm ?_|refine rD Γ hm qq ?_);conv=>whnf))
  refine⟨by unfold I64;omega,?_⟩
  ((conv=>whnf);repeat((first|refine aF ?_|refine aT ?_);(first|refine rG Γ hm ?_|refine rD Γ hm qq ?_);conv=>whnf))
  refine⟨by unfold I64;omega,?_⟩
  ((conv=>whnf);repeat((first|refine aF ?_|refine aT ?_);(first|refine rG Γ hm ?_|refine rD Γ hm qq ?_);conv=>whnf))
  refine⟨E,by omega,by omega,?_⟩
  ((conv=>whnf);repeat((first|refine aF ?_|refine aT ?_);(first|refine rG Γ hm ?_|refine rD Γ hm qq ?_);conv=>whnf))
  refine⟨by decide,by decide,?_⟩
  ((conv=>whnf);repeat((first|refine aF ?_|refine aT ?_);(first|refine rG Γ hm ?_|refine rD Γ hm qq ?_);conv=>whnf))
  refine⟨qq,?_⟩
  ((conv=>whnf);repeat((first|refine aF ?_|refine aT ?_);(first|refine rG Γ hm ?_|refine rD Γ hm qq ?_);conv=>whnf))
  refine⟨by unfold I64;omega,?_⟩
  ((conv=>whnf);repeat((first|refine aF ?_|refine aT ?_);(first|refine rG Γ hm ?_|refine rD Γ hm qq ?_);conv=>whnf))
  exact Av [] qx ⟨⟨E,E,E,E,E,E,Y⟩,⟨.inl (congrArg (fun z:Int=>Ob.box [Aa (numAt b 0 2),Aa (numAt b 2 2),Aa (numAt b 4 2),Aa z]) hp3.symm),E,Y⟩,E,E⟩
 clear hp0 hp1 hp2 hp3
 ((first|refine rG Γ hm ?_|refine rD Γ hm qq ?_);(conv=>whnf);repeat((first|refine aF ?_|refine aT ?_);(first|refine rG Γ hm ?_|refine rD Γ hm qq ?_);conv=>whnf))
 refine⟨by decide,by decide,?_⟩
 ((conv=>whnf);repeat((first|refine aF ?_|refine aT ?_);(first|refine rG Γ hm ?_|refine rD Γ hm qq ?_);conv=>whnf))
 refine⟨fun h=>?_,fun h=>?_⟩
 ·rw[if_pos (by have:=of_decide_eq_true h;omega)]at hres
  subst hres
  ((first|refine rG Γ hm ?_|refine rD Γ hm qq ?_);(conv=>whnf);repeat((first|refine aF ?_|refine aT ?_);(first|refine rG Γ hm ?_|refine rD Γ hm qq ?_);conv=>whnf))
  refine Ap 4 1 Ak E ?_
  exact Ac E (.cons .tmp (.cons .tmp (.cons .tmp (.cons .tmp .nil)))) E E
 have hs8:8≤numAt b 4 2:=by have:=of_decide_eq_false h;omega
 rw[if_neg qn]at hres
 clear h
 ((first|refine rG Γ hm ?_|refine rD Γ hm qq ?_);(conv=>whnf);repeat((first|refine aF ?_|refine aT ?_);(first|refine rG Γ hm ?_|refine rD Γ hm qq ?_);conv=>whnf))
 refine⟨by decide,by decide,?_⟩
 ((conv=>whnf);repeat((first|refine aF ?_|refine aT ?_);(first|refine rG Γ hm ?_|refine rD Γ hm qq ?_);conv=>whnf))
 refine⟨fun h=>?_,fun h=>?_⟩
 ·rw[if_pos (by have:=of_decide_eq_true h;omega)]at hres
  subst hres
  ((first|refine rG Γ hm ?_|refine rD Γ hm qq ?_);(conv=>whnf);repeat((first|refine aF ?_|refine aT ?_);(first|refine rG Γ hm ?_|refine rD Γ hm qq ?_);conv=>whnf))
  refine Ap 4 1 Ak E ?_
  exact Ac E (.cons .tmp (.cons .tmp (.cons .tmp (.cons .tmp .nil)))) E E
 have hsl:numAt b 4 2≤b.length:=by have:=of_decide_eq_false h;omega
 rw[if_neg qn]at hres
 clear h
 ((first|refine rG Γ hm ?_|refine rD Γ hm qq ?_);(conv=>whnf);repeat((first|refine aF ?_|refine aT ?_);(first|refine rG Γ hm ?_|refine rD Γ hm qq ?_);conv=>whnf))
 refine⟨by decide,by decide,?_⟩
 ((conv=>whnf);repeat((first|refine aF ?_|refine aT ?_);(first|refine rG Γ hm ?_|refine rD Γ hm qq ?_);conv=>whnf))
 refine⟨fun h=>?_,fun h=>?_⟩
 ·rw[if_pos (by have:(numAt b 6 2:Int)≠0:=(by simpa using h);omega)]at hres
  subst hres
  ((first|refine rG Γ hm ?_|refine rD Γ hm qq ?_);(conv=>whnf);repeat((first|refine aF ?_|refine aT ?_);(first|refine rG Γ hm ?_|refine rD Γ hm qq ?_);conv=>whnf))
  refine Ap 4 1 Ak E ?_
  exact Ac E (.cons .tmp (.cons .tmp (.cons .tmp (.cons .tmp .nil)))) E E
 rw[if_neg (by have:(numAt b 6 2:Int)=0:=(by simpa using h);omega)]at hres
 subst hres
 clear h
 have qc:=Ik ((b.take (numAt b 4 2)).drop 8) (by rw[List.length_drop,List.length_take];omega)
 ((first|refine rG Γ hm ?_|refine rD Γ hm qq ?_);(conv=>whnf);repeat((first|refine aF ?_|refine aT ?_);(first|refine rG Γ hm ?_|refine rD Γ hm qq ?_);conv=>whnf))
 refine⟨by decide,by decide,?_⟩
 ((conv=>whnf);repeat((first|refine aF ?_|refine aT ?_);(first|refine rG Γ hm ?_|refine rD Γ hm qq ?_);conv=>whnf))
 refine⟨by decide,by decide,?_⟩
 ((conv=>whnf);repeat((first|refine aF ?_|refine aT ?_);(first|refine rG Γ hm ?_|refine rD Γ hm qq ?_);conv=>whnf))
 refine⟨by decide,by decide,?_⟩
 ((conv=>whnf);repeat((first|refine aF ?_|refine aT ?_);(first|refine rG Γ hm ?_|refine rD Γ hm qq ?_);conv=>whnf))
 refine Bv (Cj (lo:=8) (hi:=numAt b 4 2) Γ.toTy E E E E (.inr ⟨_,_,E,E⟩) (.inr ⟨_,_,E,E⟩) hs8 hsl) qq E ?_
 ((first|refine rG Γ hm ?_|refine rD Γ hm qq ?_);(conv=>whnf);repeat((first|refine aF ?_|refine aT ?_);(first|refine rG Γ hm ?_|refine rD Γ hm qq ?_);conv=>whnf))
 refine An qc F13 E E E qq E ?_
 ((first|refine rG Γ hm ?_|refine rD Γ hm qq ?_);(conv=>whnf);repeat((first|refine aF ?_|refine aT ?_);(first|refine rG Γ hm ?_|refine rD Γ hm qq ?_);conv=>whnf))
 refine⟨qq,?_⟩
 ((conv=>whnf);repeat((first|refine aF ?_|refine aT ?_);(first|refine rG Γ hm ?_|refine rD Γ hm qq ?_);conv=>whnf))
 exact Ac E (.cons .tmp (.cons .tmp (.cons .tmp (.cons .tmp .nil)))) E E
theorem Ald (src dst:Nat) (body:List UInt8) (h1:src≤65535) (h2:dst≤65535) (h3:body.length≤1472):Sy.Spec Tryz.prog 186 [Aa src,Aa dst,.sl 1 Ak body] [] (.tup [.sl 1 Ak (Ah8 src dst body),Aa 0]) []:=Ab Γ hm 100 F186 Tryz.ntmps186 rfl fun F hF=>by
 ((conv=>whnf);repeat((first|refine aF ?_|refine aT ?_);(first|refine rG Γ hm ?_|refine rD Γ hm qq ?_);conv=>whnf))
 (repeat (first | (refine⟨fun h=>False.elim (by first | (exact absurd h qx) | (simp at h;done) | (simp at h;omega)),fun _=>?_⟩;((first|refine rG Γ hm ?_|refine rD Γ hm qq ?_);(conv=>whnf);repeat((first|refine aF ?_|refine aT ?_);(first|refine rG Γ hm ?_|refine rD Γ hm qq ?_);conv=>whnf))) | (refine⟨fun _=>?_,fun h=>False.elim (by first | (exact absurd h qx) | (simp at h;done) | (simp at h;omega))⟩;((first|refine rG Γ hm ?_|refine rD Γ hm qq ?_);(conv=>whnf);repeat((first|refine aF ?_|refine aT ?_);(first|refine rG Γ hm ?_|refine rD Γ hm qq ?_);conv=>whnf)))))
 refine⟨by unfold I64;omega,?_⟩
 ((conv=>whnf);repeat((first|refine aF ?_|refine aT ?_);(first|refine rG Γ hm ?_|refine rD Γ hm qq ?_);conv=>whnf))
 refine Cc 8 1000 1 Ak E E ?_
 refine Ai (Abx Γ.toTy E E E E E E) E E ?_
 ((first|refine rG Γ hm ?_|refine rD Γ hm qq ?_);(conv=>whnf);repeat((first|refine aF ?_|refine aT ?_);(first|refine rG Γ hm ?_|refine rD Γ hm qq ?_);conv=>whnf))
 have key:∀ (x:Nat) (pre:List Nat),pre.length≤4→Cr (pre++[x])=Cr pre++[UInt8.ofNat (x / 256),UInt8.ofNat x]:=fun x pre _=>Hc pre x
 have hwl:∀ l:List Nat,(Cr l).length=2 * l.length:=Iz
 obtain ⟨ws,hws⟩:∃ ws:List Nat,ws=[src,dst,8+body.length,0]:=⟨_,rfl⟩
 refine A2 4 (fun j=>[(2,.sl 1 Ak body),(8,.osl 1000),(35,.agg [Aa src,Aa dst,Aa (8+body.length:Nat),Aa 0]),(36,Aa j)]) (fun j=>[(1000,.row 1 Ak (Cr (ws.take j)))]) [] ⟨⟨E,E,E,E,E,E,E,E,Y⟩,⟨.inl (congrArg (Ob.row 1 Ak) (by simp[Cr])),E,Y⟩,E,E⟩ ?_
 intro j hj
 have hcase:j=0∨j=1∨j=2∨j=3∨j=4:=by omega
 rcases hcase with rfl | rfl | rfl | rfl | rfl
 ·have hs:Cr (ws.take 1)=Cr (ws.take 0)++[UInt8.ofNat (src / 256),UInt8.ofNat src]:=by subst hws;exact Hc [] src
  have hl:=hwl (ws.take 0)
  have hl2:(ws.take 0).length≤4:=by rw[List.length_take];omega
  have htb:=Dz src
  ((first|refine rG Γ hm ?_|refine rD Γ hm qq ?_);(conv=>whnf);repeat((first|refine aF ?_|refine aT ?_);(first|refine rG Γ hm ?_|refine rD Γ hm qq ?_);conv=>whnf))
  refine Ai (Ef (k:=.int .i64) Γ.toTy E E E Tryz.underlying3 E E qx qx E) E E ?_
  ((first|refine rG Γ hm ?_|refine rD Γ hm qq ?_);(conv=>whnf);repeat((first|refine aF ?_|refine aT ?_);(first|refine rG Γ hm ?_|refine rD Γ hm qq ?_);conv=>whnf))
  refine⟨by decide,?_⟩
  ((conv=>whnf);repeat((first|refine aF ?_|refine aT ?_);(first|refine rG Γ hm ?_|refine rD Γ hm qq ?_);conv=>whnf))
  refine Ai (Al Γ.toTy 46 E E E E E (.row E) (.lit (e:=Ak) (l:=[UInt8.ofNat (src / 256),UInt8.ofNat src]) E htb) qy (by rw[hl];simp only[List.length_cons,List.length_nil];omega) (by rw[hl];simp only[List.length_cons,List.length_nil];omega)) E E ?_
  ((first|refine rG Γ hm ?_|refine rD Γ hm qq ?_);(conv=>whnf);repeat((first|refine aF ?_|refine aT ?_);(first|refine rG Γ hm ?_|refine rD Γ hm qq ?_);conv=>whnf))
  refine⟨by unfold I64;omega,?_⟩
  ((conv=>whnf);repeat((first|refine aF ?_|refine aT ?_);(first|refine rG Γ hm ?_|refine rD Γ hm qq ?_);conv=>whnf))
  exact Av [(1000,46)] qx ⟨⟨E,E,E,E,E,E,E,E,Y⟩,⟨.inl (congrArg (Ob.row 1 Ak) hs),E,Y⟩,E,E⟩
 ·have hs:Cr (ws.take 2)=Cr (ws.take 1)++[UInt8.ofNat (dst / 256),UInt8.ofNat dst]:=by subst hws;exact Hc [src] dst
  have hl:=hwl (ws.take 1)
  have hl2:(ws.take 1).length≤4:=by rw[List.length_take];omega
  have htb:=Dz dst
  ((first|refine rG Γ hm ?_|refine rD Γ hm qq ?_);(conv=>whnf);repeat((first|refine aF ?_|refine aT ?_);(first|refine rG Γ hm ?_|refine rD Γ hm qq ?_);conv=>whnf))
  refine Ai (Ef (k:=.int .i64) Γ.toTy E E E Tryz.underlying3 E E qx qx E) E E ?_
  ((first|refine rG Γ hm ?_|refine rD Γ hm qq ?_);(conv=>whnf);repeat((first|refine aF ?_|refine aT ?_);(first|refine rG Γ hm ?_|refine rD Γ hm qq ?_);conv=>whnf))
  refine⟨by decide,?_⟩
  ((conv=>whnf);repeat((first|refine aF ?_|refine aT ?_);(first|refine rG Γ hm ?_|refine rD Γ hm qq ?_);conv=>whnf))
  refine Ai (Al Γ.toTy 46 E E E E E (.row E) (.lit (e:=Ak) (l:=[UInt8.ofNat (dst / 256),UInt8.ofNat dst]) E htb) qy (by rw[hl];simp only[List.length_cons,List.length_nil];omega) (by rw[hl];simp only[List.length_cons,List.length_nil];omega)) E E ?_
  ((first|refine rG Γ hm ?_|refine rD Γ hm qq ?_);(conv=>whnf);repeat((first|refine aF ?_|refine aT ?_);(first|refine rG Γ hm ?_|refine rD Γ hm qq ?_);conv=>whnf))
  refine⟨by unfold I64;omega,?_⟩
  ((conv=>whnf);repeat((first|refine aF ?_|refine aT ?_);(first|refine rG Γ hm ?_|refine rD Γ hm qq ?_);conv=>whnf))
  exact Av [(1000,46)] qx ⟨⟨E,E,E,E,E,E,E,E,Y⟩,⟨.inl (congrArg (Ob.row 1 Ak) hs),E,Y⟩,E,E⟩
 ·have hs:Cr (ws.take 3)=Cr (ws.take 2)++[UInt8.ofNat ((8+body.length) / 256),UInt8.ofNat (8+body.length)]:=by subst hws;exact Hc [src,dst] (8+body.length)
  have hl:=hwl (ws.take 2)
  have hl2:(ws.take 2).length≤4:=by rw[List.length_take];omega
  have htb:=Dz (8+body.length)
  ((first|refine rG Γ hm ?_|refine rD Γ hm qq ?_);(conv=>whnf);repeat((first|refine aF ?_|refine aT ?_);(first|refine rG Γ hm ?_|refine rD Γ hm qq ?_);conv=>whnf))
  refine Ai (Ef (k:=.int .i64) Γ.toTy E E E Tryz.underlying3 E E qx qx E) E E ?_
  ((first|refine rG Γ hm ?_|refine rD Γ hm qq ?_);(conv=>whnf);repeat((first|refine aF ?_|refine aT ?_);(first|refine rG Γ hm ?_|refine rD Γ hm qq ?_);conv=>whnf))
  refine⟨by decide,?_⟩
  ((conv=>whnf);repeat((first|refine aF ?_|refine aT ?_);(first|refine rG Γ hm ?_|refine rD Γ hm qq ?_);conv=>whnf))
  refine Ai (Al Γ.toTy 46 E E E E E (.row E) (.lit (e:=Ak) (l:=[UInt8.ofNat ((8+body.length) / 256),UInt8.ofNat (8+body.length)]) E htb) qy (by rw[hl];simp only[List.length_cons,List.length_nil];omega) (by rw[hl];simp only[List.length_cons,List.length_nil];omega)) E E ?_
  ((first|refine rG Γ hm ?_|refine rD Γ hm qq ?_);(conv=>whnf);repeat((first|refine aF ?_|refine aT ?_);(first|refine rG Γ hm ?_|refine rD Γ hm qq ?_);conv=>whnf))
  refine⟨by unfold I64;omega,?_⟩
  ((conv=>whnf);repeat((first|refine aF ?_|refine aT ?_);(first|refine rG Γ hm ?_|refine rD Γ hm qq ?_);conv=>whnf))
  exact Av [(1000,46)] qx ⟨⟨E,E,E,E,E,E,E,E,Y⟩,⟨.inl (congrArg (Ob.row 1 Ak) hs),E,Y⟩,E,E⟩
 ·have hs:Cr (ws.take 4)=Cr (ws.take 3)++[UInt8.ofNat (0 / 256),UInt8.ofNat 0]:=by subst hws;exact Hc [src,dst,8+body.length] 0
  have hl:=hwl (ws.take 3)
  have hl2:(ws.take 3).length≤4:=by rw[List.length_take];omega
  have htb:=Dz 0
  ((first|refine rG Γ hm ?_|refine rD Γ hm qq ?_);(conv=>whnf);repeat((first|refine aF ?_|refine aT ?_);(first|refine rG Γ hm ?_|refine rD Γ hm qq ?_);conv=>whnf))
  refine Ai (Ef (k:=.int .i64) Γ.toTy E E E Tryz.underlying3 E E qx qx E) E E ?_
  ((first|refine rG Γ hm ?_|refine rD Γ hm qq ?_);(conv=>whnf);repeat((first|refine aF ?_|refine aT ?_);(first|refine rG Γ hm ?_|refine rD Γ hm qq ?_);conv=>whnf))
  refine⟨by decide,?_⟩
  ((conv=>whnf);repeat((first|refine aF ?_|refine aT ?_);(first|refine rG Γ hm ?_|refine rD Γ hm qq ?_);conv=>whnf))
  refine Ai (Al Γ.toTy 46 E E E E E (.row E) (.lit (e:=Ak) (l:=[UInt8.ofNat (0 / 256),UInt8.ofNat 0]) E htb) qy (by rw[hl];simp only[List.length_cons,List.length_nil];omega) (by rw[hl];simp only[List.length_cons,List.length_nil];omega)) E E ?_
  ((first|refine rG Γ hm ?_|refine rD Γ hm qq ?_);(conv=>whnf);repeat((first|refine aF ?_|refine aT ?_);(first|refine rG Γ hm ?_|refine rD Γ hm qq ?_);conv=>whnf))
  refine⟨by unfold I64;omega,?_⟩
  ((conv=>whnf);repeat((first|refine aF ?_|refine aT ?_);(first|refine rG Γ hm ?_|refine rD Γ hm qq ?_);conv=>whnf))
  exact Av [(1000,46)] qx ⟨⟨E,E,E,E,E,E,E,E,Y⟩,⟨.inl (congrArg (Ob.row 1 Ak) hs),E,Y⟩,E,E⟩
 have hl:=hwl (ws.take 4)
 have e:ws.take 4=[src,dst,8+body.length,0]:=by rw[hws];rfl
 rw[e]at hl ⊢
 have hl3:(Cr [src,dst,8+body.length,0]).length=8:=hl
 ((first|refine rG Γ hm ?_|refine rD Γ hm qq ?_);(conv=>whnf);repeat((first|refine aF ?_|refine aT ?_);(first|refine rG Γ hm ?_|refine rD Γ hm qq ?_);conv=>whnf))
 refine Ai (Al Γ.toTy 50 E E E E E (.row E) .sl qy (by rw[hl3];simp;omega) (by rw[hl3];omega)) E E ?_
 refine Au 50 E ?_
 ((first|refine rG Γ hm ?_|refine rD Γ hm qq ?_);(conv=>whnf);repeat((first|refine aF ?_|refine aT ?_);(first|refine rG Γ hm ?_|refine rD Γ hm qq ?_);conv=>whnf))
 exact Ac E (.cons .tmp (.cons .tmp .nil)) E E
theorem Ah9 (a b:Nat) (ha:a<18446744073709551616) (hb:b<18446744073709551616):Sy.Spec Tryz.prog 187 [A7 a,A7 b] [] (Aa (udpPort a b:Nat)) []:=Ab Γ hm 100 F187 Tryz.ntmps187 rfl fun F hF=>by
 have hx:=bits_xor_u64_nat a b ha hb
 have hmd:((a ^^^ b:Nat):Int).tmod 16384=(((a ^^^ b) % 16384:Nat):Int):=by rw[Int.tmod_eq_emod_of_nonneg qn];omega
 have hl:=Nat.mod_lt (a ^^^ b) (show 0<16384 by decide)
 have hw:IntKind.i64.wrap (((a ^^^ b) % 16384:Nat):Int)=(((a ^^^ b) % 16384:Nat):Int):=by rw[IntKind.wrap_i64];omega
 ((conv=>whnf);repeat((first|refine aF ?_|refine aT ?_);(first|refine rG Γ hm ?_|refine rD Γ hm qq ?_);conv=>whnf))
 refine⟨by decide,?_⟩
 rw[hx,hmd]
 ((conv=>whnf);repeat((first|refine aF ?_|refine aT ?_);(first|refine rG Γ hm ?_|refine rD Γ hm qq ?_);conv=>whnf))
 rw[hw]
 refine⟨by unfold I64;omega,?_⟩
 ((conv=>whnf);repeat((first|refine aF ?_|refine aT ?_);(first|refine rG Γ hm ?_|refine rD Γ hm qq ?_);conv=>whnf))
 refine Ac E (.cons .tmp .nil) ?_ E
 refine congrArg (fun z:Int=>SV.val (.int .i64 z)) ?_
 rw[udpPort]
 omega
theorem Afm (v:Int) (h:Q2 v=true):Sy.Spec Tryz.prog 185 [Aa v] [] (.tup [.sl 1 Ak [],Aa 17]) []:=Ab Γ hm 100 F185 Tryz.ntmps185 rfl fun F hF=>by
 simp only[Q2,Bool.or_eq_true,decide_eq_true_eq]at h
 ((conv=>whnf);repeat((first|refine aF ?_|refine aT ?_);(first|refine rG Γ hm ?_|refine rD Γ hm qq ?_);conv=>whnf))
 refine⟨fun h1=>?_,fun h1=>?_⟩
 ·((first|refine rG Γ hm ?_|refine rD Γ hm qq ?_);(conv=>whnf);repeat((first|refine aF ?_|refine aT ?_);(first|refine rG Γ hm ?_|refine rD Γ hm qq ?_);conv=>whnf))
  refine Ap 2 1 Ak E ?_
  exact Ac E (.cons .tmp (.cons .tmp .nil)) E E
 ((first|refine rG Γ hm ?_|refine rD Γ hm qq ?_);(conv=>whnf);repeat((first|refine aF ?_|refine aT ?_);(first|refine rG Γ hm ?_|refine rD Γ hm qq ?_);conv=>whnf))
 refine⟨fun h2=>?_,fun h2=>absurd (of_decide_eq_false h2) (by have:=of_decide_eq_false h1;omega)⟩
 ((first|refine rG Γ hm ?_|refine rD Γ hm qq ?_);(conv=>whnf);repeat((first|refine aF ?_|refine aT ?_);(first|refine rG Γ hm ?_|refine rD Γ hm qq ?_);conv=>whnf))
 refine Ap 2 1 Ak E ?_
 exact Ac E (.cons .tmp (.cons .tmp .nil)) E E
theorem Ah3 {v:Int} (h:Q2 v=false):1≤v∧v≤16777215:=by
 simp only[Q2,Bool.or_eq_false_iff,decide_eq_false_iff_not]at h
 omega
theorem Ahf (k:Nat):(Ki k).map Ak=[SV.val (.int .u8 8),SV.val (.int .u8 0),SV.val (.int .u8 0),SV.val (.int .u8 0),SV.val (.int .u8 (IntKind.u8.wrap ((k:Int).fdiv (2 ^ (min (Int.toNat 16) IntKind.i64.bits))))),
  SV.val (.int .u8 (IntKind.u8.wrap ((k:Int).fdiv (2 ^ (min (Int.toNat 8) IntKind.i64.bits))))),SV.val (.int .u8 (IntKind.u8.wrap (k:Int))),SV.val (.int .u8 0)]:=by
 have h1:IntKind.u8.wrap ((k:Int).fdiv (2 ^ (min (Int.toNat 16) IntKind.i64.bits)))=((UInt8.ofNat (k / 65536)).toNat:Int):=by
  show IntKind.u8.wrap ((k:Int).fdiv 65536)=_
  rw[Int.fdiv_eq_ediv_of_nonneg _ qx,IntKind.wrap_u8]
  simp
 have h2:IntKind.u8.wrap ((k:Int).fdiv (2 ^ (min (Int.toNat 8) IntKind.i64.bits)))=((UInt8.ofNat (k / 256)).toNat:Int):=by
  show IntKind.u8.wrap ((k:Int).fdiv 256)=_
  rw[Int.fdiv_eq_ediv_of_nonneg _ qx,IntKind.wrap_u8]
  simp
 have h3:=u8_of k
 rw[h1,h2,h3]
 rfl
theorem Aj5 (k:Nat) (h:1≤k∧k≤16777215):Sy.Spec Tryz.prog 185 [Aa k] [] (.tup [.osl 0,Aa 0]) [(0,.row 1 Ak (Ki k))]:=Ab Γ hm 100 F185 Tryz.ntmps185 rfl fun F hF=>by
 have hl:=Ahf k
 ((conv=>whnf);repeat((first|refine aF ?_|refine aT ?_);(first|refine rG Γ hm ?_|refine rD Γ hm qq ?_);conv=>whnf))
 refine⟨fun h1=>absurd (of_decide_eq_true h1) qn,fun _=>?_⟩
 ((first|refine rG Γ hm ?_|refine rD Γ hm qq ?_);(conv=>whnf);repeat((first|refine aF ?_|refine aT ?_);(first|refine rG Γ hm ?_|refine rD Γ hm qq ?_);conv=>whnf))
 refine⟨fun h1=>absurd (of_decide_eq_true h1) qn,fun _=>?_⟩
 ((first|refine rG Γ hm ?_|refine rD Γ hm qq ?_);(conv=>whnf);repeat((first|refine aF ?_|refine aT ?_);(first|refine rG Γ hm ?_|refine rD Γ hm qq ?_);conv=>whnf))
 refine⟨by decide,?_⟩
 ((conv=>whnf);repeat((first|refine aF ?_|refine aT ?_);(first|refine rG Γ hm ?_|refine rD Γ hm qq ?_);conv=>whnf))
 refine⟨by decide,?_⟩
 ((conv=>whnf);repeat((first|refine aF ?_|refine aT ?_);(first|refine rG Γ hm ?_|refine rD Γ hm qq ?_);conv=>whnf))
 refine Ea 18 Ak (Ki k) E hl ?_
 exact done E (.cons .tmp (.cons .tmp .nil)) [(0,18)] [(0,.row 1 Ak (Ki k))] (fun _ h=>h) E E ⟨Y,⟨.inl E,E,Y⟩,E,E⟩
theorem Aht (a b:List UInt8):((⟨a.toArray⟩:ByteArray) == (⟨b.toArray⟩:ByteArray))=decide (a=b):=by
 have key:=Go.MapKept.bytes_beq (⟨a.toArray⟩:ByteArray) ⟨b.toArray⟩
 by_cases h:a=b
 ·subst h
  rw[decide_eq_true rfl]
  exact key.2 E
 ·rw[decide_eq_false h]
  cases hb:((⟨a.toArray⟩:ByteArray) == (⟨b.toArray⟩:ByteArray)) with
  | false=>rfl
  | true =>
   have:=congrArg (fun z:ByteArray=>z.data.toList) (key.1 hb)
   exact absurd (by simpa using this) h
theorem Aib (x y z:UInt8):bits .or .i64 (bits .or .i64 (IntKind.i64.wrap ((IntKind.i64.wrap (x.toNat:Int)) * 2 ^ min (Int.toNat 16) IntKind.i64.bits)) (IntKind.i64.wrap ((IntKind.i64.wrap (y.toNat:Int)) * 2 ^ min (Int.toNat 8) IntKind.i64.bits))) (IntKind.i64.wrap (z.toNat:Int))
  = (((x.toNat * 256+y.toNat) * 256+z.toNat:Nat):Int):=by
 have h1:=x.toNat_lt
 have h2:=y.toNat_lt
 have h3:=z.toNat_lt
 have e1:IntKind.i64.wrap (x.toNat:Int)=(x.toNat:Int):=by rw[IntKind.wrap_i64];omega
 have e2:IntKind.i64.wrap (y.toNat:Int)=(y.toNat:Int):=by rw[IntKind.wrap_i64];omega
 have e3:IntKind.i64.wrap (z.toNat:Int)=(z.toNat:Int):=by rw[IntKind.wrap_i64];omega
 rw[e1,e2,e3]
 have f1:IntKind.i64.wrap ((x.toNat:Int) * 2 ^ min (Int.toNat 16) IntKind.i64.bits)=((x.toNat * 65536:Nat):Int):=by
  show IntKind.i64.wrap ((x.toNat:Int) * 65536)=_
  rw[IntKind.wrap_i64]
  omega
 have f2:IntKind.i64.wrap ((y.toNat:Int) * 2 ^ min (Int.toNat 8) IntKind.i64.bits)=((y.toNat * 256:Nat):Int):=by
  show IntKind.i64.wrap ((y.toNat:Int) * 256)=_
  rw[IntKind.wrap_i64]
  omega
 rw[f1,f2,Cu _ _ qn qn]
 have g1:x.toNat * 65536 ||| y.toNat * 256=x.toNat * 65536+y.toNat * 256:=by
  have h:=Nat.two_pow_add_eq_or_of_lt (i:=16) (b:=y.toNat * 256) qn x.toNat
  rw[Nat.mul_comm x.toNat 65536]
  exact h.symm
 rw[g1,Cu _ _ qn qn]
 refine congrArg (fun n:Nat=>(n:Int)) ?_
 have h:256 * (x.toNat * 256+y.toNat)+z.toNat=256 * (x.toNat * 256+y.toNat) ||| z.toNat:=Nat.two_pow_add_eq_or_of_lt (i:=8) (b:=z.toNat) qn (x.toNat * 256+y.toNat)
 have e:x.toNat * 65536+y.toNat * 256=256 * (x.toNat * 256+y.toNat):=by omega
 rw[e,← h]
 omega
theorem vniS (b:List UInt8) (hb:b.length<100000):Sy.Spec Tryz.prog 218 [.sl 1 Ak b] [] (.tup [Aa (vniT b).1,.sl 1 Ak (vniT b).2.1,Aa (vniT b).2.2]) []:=Ab Γ hm 100 F218 Tryz.ntmps218 rfl fun F hF=>by
 have hres:=vniT.eq_1 b
 generalize vniT b=res at *
 ((conv=>whnf);repeat((first|refine aF ?_|refine aT ?_);(first|refine rG Γ hm ?_|refine rD Γ hm qq ?_);conv=>whnf))
 refine⟨fun h=>?_,fun h=>?_⟩
 ·rw[if_pos (by have:=of_decide_eq_true h;omega)]at hres
  subst hres
  ((first|refine rG Γ hm ?_|refine rD Γ hm qq ?_);(conv=>whnf);repeat((first|refine aF ?_|refine aT ?_);(first|refine rG Γ hm ?_|refine rD Γ hm qq ?_);conv=>whnf))
  refine Ap 3 1 Ak E ?_
  exact Ac E (.cons .tmp (.cons .tmp (.cons .tmp .nil))) E E
 have h8:8≤b.length:=by have:=of_decide_eq_false h;omega
 rw[if_neg qn]at hres
 clear h
 have i4:(4:Int).toNat<b.length:=by show 4<_;omega
 have i5:(5:Int).toNat<b.length:=by show 5<_;omega
 have i6:(6:Int).toNat<b.length:=by show 6<_;omega
 have hv:bits .or .i64 (bits .or .i64 (IntKind.i64.wrap ((IntKind.i64.wrap ((b[(4:Int).toNat]'i4).toNat:Int)) * 2 ^ min (Int.toNat 16) IntKind.i64.bits)) (IntKind.i64.wrap ((IntKind.i64.wrap ((b[(5:Int).toNat]'i5).toNat:Int)) * 2 ^ min (Int.toNat 8) IntKind.i64.bits))) (IntKind.i64.wrap ((b[(6:Int).toNat]'i6).toNat:Int))
   = (numAt b 4 3:Int):=by
  rw[Aib,numAt3 (show 4+3≤b.length by omega)]
  rfl
 have hvl:=Jd b 4 3
 ((first|refine rG Γ hm ?_|refine rD Γ hm qq ?_);(conv=>whnf);repeat((first|refine aF ?_|refine aT ?_);(first|refine rG Γ hm ?_|refine rD Γ hm qq ?_);conv=>whnf))
 refine⟨E,by decide,i4,?_⟩
 ((conv=>whnf);repeat((first|refine aF ?_|refine aT ?_);(first|refine rG Γ hm ?_|refine rD Γ hm qq ?_);conv=>whnf))
 refine⟨by decide,?_⟩
 ((conv=>whnf);repeat((first|refine aF ?_|refine aT ?_);(first|refine rG Γ hm ?_|refine rD Γ hm qq ?_);conv=>whnf))
 refine⟨E,by decide,i5,?_⟩
 ((conv=>whnf);repeat((first|refine aF ?_|refine aT ?_);(first|refine rG Γ hm ?_|refine rD Γ hm qq ?_);conv=>whnf))
 refine⟨by decide,?_⟩
 ((conv=>whnf);repeat((first|refine aF ?_|refine aT ?_);(first|refine rG Γ hm ?_|refine rD Γ hm qq ?_);conv=>whnf))
 refine⟨E,by decide,i6,?_⟩
 ((conv=>whnf);repeat((first|refine aF ?_|refine aT ?_);(first|refine rG Γ hm ?_|refine rD Γ hm qq ?_);conv=>whnf))
 refine⟨qq,?_⟩
 rw[hv]
 generalize hvv:numAt b 4 3=v at *
 ((conv=>whnf);repeat((first|refine aF ?_|refine aT ?_);(first|refine rG Γ hm ?_|refine rD Γ hm qq ?_);conv=>whnf))
 by_cases h0:v=0
 ·rw[if_pos (.inl h0)]at hres
  subst hres
  have q:=Afm v (by rw[h0];decide)
  refine Ah q F185 E E E E E ?_
  ((first|refine rG Γ hm ?_|refine rD Γ hm qq ?_);(conv=>whnf);repeat((first|refine aF ?_|refine aT ?_);(first|refine rG Γ hm ?_|refine rD Γ hm qq ?_);conv=>whnf))
  refine⟨qq,?_⟩
  ((conv=>whnf);repeat((first|refine aF ?_|refine aT ?_);(first|refine rG Γ hm ?_|refine rD Γ hm qq ?_);conv=>whnf))
  refine Ap 3 1 Ak E ?_
  exact Ac E (.cons .tmp (.cons .tmp (.cons .tmp .nil))) E E
 have q:=Aj5 v qn
 refine Ai (Aj [(0,55)] E F185 q E Y E ⟨.inr E,Y⟩) E E ?_
 refine Au 55 E ?_
 ((first|refine rG Γ hm ?_|refine rD Γ hm qq ?_);(conv=>whnf);repeat((first|refine aF ?_|refine aT ?_);(first|refine rG Γ hm ?_|refine rD Γ hm qq ?_);conv=>whnf))
 refine Bv (H3 Γ.toTy (bs:=Ki v) E E E E E E E .sl) qq E ?_
 ((first|refine rG Γ hm ?_|refine rD Γ hm qq ?_);(conv=>whnf);repeat((first|refine aF ?_|refine aT ?_);(first|refine rG Γ hm ?_|refine rD Γ hm qq ?_);conv=>whnf))
 refine Bv (Cj (lo:=0) (hi:=8) Γ.toTy E E E E (.inl ⟨E,E⟩) (.inr ⟨_,_,E,E⟩) qn h8) qq E ?_
 ((first|refine rG Γ hm ?_|refine rD Γ hm qq ?_);(conv=>whnf);repeat((first|refine aF ?_|refine aT ?_);(first|refine rG Γ hm ?_|refine rD Γ hm qq ?_);conv=>whnf))
 refine Bv (H3 Γ.toTy (bs:=b.take 8) E E E E E E E .sl) qq E ?_
 ((first|refine rG Γ hm ?_|refine rD Γ hm qq ?_);(conv=>whnf);repeat((first|refine aF ?_|refine aT ?_);(first|refine rG Γ hm ?_|refine rD Γ hm qq ?_);conv=>whnf))
 refine⟨qq,?_⟩
 ((conv=>whnf);repeat((first|refine aF ?_|refine aT ?_);(first|refine rG Γ hm ?_|refine rD Γ hm qq ?_);conv=>whnf))
 have hbe:=Aht (Ki v) (b.take 8)
 rw[hbe]
 by_cases he:b.take 8=Ki v
 rotate_left
 ·rw[if_pos (.inr he)]at hres
  subst hres
  rw[decide_eq_false (fun e=>he e.symm)]
  refine⟨fun _=>?_,fun h=>absurd h qx⟩
  ((first|refine rG Γ hm ?_|refine rD Γ hm qq ?_);(conv=>whnf);repeat((first|refine aF ?_|refine aT ?_);(first|refine rG Γ hm ?_|refine rD Γ hm qq ?_);conv=>whnf))
  refine Ap 3 1 Ak E ?_
  exact Ac E (.cons .tmp (.cons .tmp (.cons .tmp .nil))) E E
 rw[if_neg (fun h=>h.elim h0 (fun h2=>h2 he))]at hres
 subst hres
 rw[decide_eq_true he.symm]
 have etk:(b.take b.length).drop 8=b.drop 8:=by rw[List.take_length]
 refine⟨fun h=>absurd h qx,fun _=>?_⟩
 ((first|refine rG Γ hm ?_|refine rD Γ hm qq ?_);(conv=>whnf);repeat((first|refine aF ?_|refine aT ?_);(first|refine rG Γ hm ?_|refine rD Γ hm qq ?_);conv=>whnf))
 refine Ai (Cj (lo:=8) (hi:=b.length) Γ.toTy E E E E (.inr ⟨_,_,E,E⟩) (.inl ⟨E,E⟩) h8 (Nat.le_refl _)) E E ?_
 ((first|refine rG Γ hm ?_|refine rD Γ hm qq ?_);(conv=>whnf);repeat((first|refine aF ?_|refine aT ?_);(first|refine rG Γ hm ?_|refine rD Γ hm qq ?_);conv=>whnf))
 refine Ai (Al Γ.toTy 45 E E E E E .nil .sl qy (by simp;omega) (by simp;omega)) E E ?_
 refine Au 45 E ?_
 ((first|refine rG Γ hm ?_|refine rD Γ hm qq ?_);(conv=>whnf);repeat((first|refine aF ?_|refine aT ?_);(first|refine rG Γ hm ?_|refine rD Γ hm qq ?_);conv=>whnf))
 refine Ac E (.cons .tmp (.cons .tmp (.cons .tmp .nil))) ?_ E
 show SV.tup [_,.sl 1 Ak (b.drop 8),_]=SV.tup [_,.sl 1 Ak ([]++(b.take b.length).drop 8),_]
 rw[etk]
 rfl
theorem Abp (a c v:Nat) (f:FrameM) (h:f.body.length≤1450):ipPutT (Mf a c v f)=(Tv (Mf a c v f),0):=by
 rw[ipPutT,if_neg (by rw[Hq];omega)]
theorem Acy (a b:Nat):udpPort a b≤65535:=by
 have:=Nat.mod_lt (a ^^^ b) (show 0<16384 by decide)
 unfold udpPort
 omega
theorem Ajb (a c v:Nat) (f:FrameM) (ha:a<4294967296) (hc:c<4294967296) (h:f.body.length≤1450):FrameOK ⟨Hp c,Hp a,2048,Tv (Mf a c v f)⟩ :=
 ⟨Vx c hc,Vx a ha,by show (2048:Nat)≤65535;decide,by show (Tv (Mf a c v f)).length≤1504;rw[K2,Hq];omega⟩
theorem Alb (a c:Nat) (v:Int) (f:FrameM) (ha:a<4294967296) (hc:c<4294967296) (hf:FrameOK f) :
  Sy.Spec Tryz.prog 143 [Ce a,Ce c,Aa v,By f] [] (.tup [.sl 1 Ak (wrapT a c v f).1,Aa (wrapT a c v f).2]) []:=Ab Γ hm 100 F143 Tryz.ntmps143 rfl fun F hF=>by
 have hres:=wrapT.eq_1 a c v f
 generalize wrapT a c v f=res at *
 have q0:=Lp f
 have hd:=hf.dst
 have hs:=hf.src
 have hb:=hf.body
 have hpl:=Iq f
 ((conv=>whnf);repeat((first|refine aF ?_|refine aT ?_);(first|refine rG Γ hm ?_|refine rD Γ hm qq ?_);conv=>whnf))
 refine B0 7 4 (By f) E E E ?_
 by_cases ht:f.typ=33024
 ·rw[if_pos ht]at hres
  subst hres
  rw[decide_eq_true ht]at q0
  ((first|refine rG Γ hm ?_|refine rD Γ hm qq ?_);(conv=>whnf);repeat((first|refine aF ?_|refine aT ?_);(first|refine rG Γ hm ?_|refine rD Γ hm qq ?_);conv=>whnf))
  refine Ah q0 F94 E E E E E ?_
  ((first|refine rG Γ hm ?_|refine rD Γ hm qq ?_);(conv=>whnf);repeat((first|refine aF ?_|refine aT ?_);(first|refine rG Γ hm ?_|refine rD Γ hm qq ?_);conv=>whnf))
  refine Ap 8 1 Ak E ?_
  exact Ac E (.cons .tmp (.cons .tmp .nil)) E E
 rw[if_neg ht]at hres
 rw[decide_eq_false ht]at q0
 ((first|refine rG Γ hm ?_|refine rD Γ hm qq ?_);(conv=>whnf);repeat((first|refine aF ?_|refine aT ?_);(first|refine rG Γ hm ?_|refine rD Γ hm qq ?_);conv=>whnf))
 refine Ah q0 F94 E E E E E ?_
 ((first|refine rG Γ hm ?_|refine rD Γ hm qq ?_);(conv=>whnf);repeat((first|refine aF ?_|refine aT ?_);(first|refine rG Γ hm ?_|refine rD Γ hm qq ?_);conv=>whnf))
 refine Ai (Aj [(0,55)] E F184 (L4 f hf) E Y E ⟨.inr E,Y⟩) E E ?_
 refine Au 55 E ?_
 ((first|refine rG Γ hm ?_|refine rD Γ hm qq ?_);(conv=>whnf);repeat((first|refine aF ?_|refine aT ?_);(first|refine rG Γ hm ?_|refine rD Γ hm qq ?_);conv=>whnf))
 cases hv:Q2 v
 rotate_left
 ·rw[if_pos hv]at hres
  subst hres
  refine Ah (Afm v hv) F185 E E E E E ?_
  ((first|refine rG Γ hm ?_|refine rD Γ hm qq ?_);(conv=>whnf);repeat((first|refine aF ?_|refine aT ?_);(first|refine rG Γ hm ?_|refine rD Γ hm qq ?_);conv=>whnf))
  refine Ap 8 1 Ak E ?_
  exact Ac E (.cons .tmp (.cons .tmp .nil)) E E
 rw[if_neg (by rw[hv];decide)]at hres
 have hvg:=Ah3 hv
 obtain ⟨k,rfl⟩:=Int.eq_ofNat_of_zero_le (show 0≤v by omega)
 rw[Int.toNat_natCast]at hres
 refine Ai (Aj [(0,56)] E F185 (Aj5 k qn) E Y E ⟨.inr E,Y⟩) E E ?_
 ((first|refine rG Γ hm ?_|refine rD Γ hm qq ?_);(conv=>whnf);repeat((first|refine aF ?_|refine aT ?_);(first|refine rG Γ hm ?_|refine rD Γ hm qq ?_);conv=>whnf))
 refine⟨fun h=>?_,fun h=>?_⟩
 ·rw[if_pos (by have:=of_decide_eq_true h;omega)]at hres
  subst hres
  ((first|refine rG Γ hm ?_|refine rD Γ hm qq ?_);(conv=>whnf);repeat((first|refine aF ?_|refine aT ?_);(first|refine rG Γ hm ?_|refine rD Γ hm qq ?_);conv=>whnf))
  refine Ap 8 1 Ak E ?_
  exact Ac E (.cons .tmp (.cons .tmp .nil)) E E
 have hl:f.body.length≤1450:=by have:=of_decide_eq_false h;omega
 rw[if_neg qn]at hres
 subst hres
 clear h
 have qp:=Ah9 f.dst f.src qn qn
 have hpo:=Acy f.dst f.src
 have qu:=Ald (udpPort f.dst f.src) 4789 (Ki k++Ws f) hpo qx (by rw[List.length_append,H2,hpl];omega)
 have hwb:(Mf a c k f).body=Ah8 (udpPort f.dst f.src) 4789 (Ki k++Ws f):=rfl
 have qi:=Afk (Mf a c k f) (Ah0 a c k f ha hc) (by rw[Hq];omega)
 rw[Abp a c k f hl]at qi
 have qe:=L4 _ (Ajb a c k f ha hc hl)
 ((first|refine rG Γ hm ?_|refine rD Γ hm qq ?_);(conv=>whnf);repeat((first|refine aF ?_|refine aT ?_);(first|refine rG Γ hm ?_|refine rD Γ hm qq ?_);conv=>whnf))
 refine Ah qp F187 E E E E E ?_
 ((first|refine rG Γ hm ?_|refine rD Γ hm qq ?_);(conv=>whnf);repeat((first|refine aF ?_|refine aT ?_);(first|refine rG Γ hm ?_|refine rD Γ hm qq ?_);conv=>whnf))
 refine Ai (Al Γ.toTy 46 E E E E E (.row E) .sl qx (by rw[H2,hpl];simp;omega) (by rw[H2,hpl];omega)) E E ?_
 refine Au 46 E ?_
 ((first|refine rG Γ hm ?_|refine rD Γ hm qq ?_);(conv=>whnf);repeat((first|refine aF ?_|refine aT ?_);(first|refine rG Γ hm ?_|refine rD Γ hm qq ?_);conv=>whnf))
 refine Ah qu F186 E E E E E ?_
 ((first|refine rG Γ hm ?_|refine rD Γ hm qq ?_);(conv=>whnf);repeat((first|refine aF ?_|refine aT ?_);(first|refine rG Γ hm ?_|refine rD Γ hm qq ?_);conv=>whnf))
 refine Ah qi F138 E E E E E ?_
 ((first|refine rG Γ hm ?_|refine rD Γ hm qq ?_);(conv=>whnf);repeat((first|refine aF ?_|refine aT ?_);(first|refine rG Γ hm ?_|refine rD Γ hm qq ?_);conv=>whnf))
 refine Ah (Abt c hc) F134 E E E E E ?_
 ((first|refine rG Γ hm ?_|refine rD Γ hm qq ?_);(conv=>whnf);repeat((first|refine aF ?_|refine aT ?_);(first|refine rG Γ hm ?_|refine rD Γ hm qq ?_);conv=>whnf))
 refine Ah (Abt a ha) F134 E E E E E ?_
 ((first|refine rG Γ hm ?_|refine rD Γ hm qq ?_);(conv=>whnf);repeat((first|refine aF ?_|refine aT ?_);(first|refine rG Γ hm ?_|refine rD Γ hm qq ?_);conv=>whnf))
 refine Ai (Aj [(0,57)] E F184 qe E Y E ⟨.inr E,Y⟩) E E ?_
 refine Au 57 E ?_
 ((first|refine rG Γ hm ?_|refine rD Γ hm qq ?_);(conv=>whnf);repeat((first|refine aF ?_|refine aT ?_);(first|refine rG Γ hm ?_|refine rD Γ hm qq ?_);conv=>whnf))
 exact Ac E (.cons .tmp (.cons .tmp .nil)) E E
def Co (p:PacketM) (v e:Int):List SV:=[Aa p.tos,Aa p.id,Aa p.ttl,Aa p.proto,Ce p.src,Ce p.dst,.sl 1 Ak p.body,Aa v,Aa e]
def B9 (is:Bool) (re e:Int):Int:=if is=true∧re=0 then e else re
theorem Qq (p:PacketM) (v re:Int) (is:Bool) (e:Int):Sy.Spec Tryz.prog 216 [.ptr 0 0,Ad is,Aa e] [(0,.box (Co p v re))] (.tup []) [(0,.box (Co p v (B9 is re e)))]:=Ab Γ hm 100 F216 Tryz.ntmps216 rfl fun F hF=>by
 cases is
 ·have h:B9 false re e=re:=by simp[B9]
  rw[h]
  ((conv=>whnf);repeat((first|refine aF ?_|refine aT ?_);(first|refine rG Γ hm ?_|refine rD Γ hm qq ?_);conv=>whnf))
  exact Bm E .nil [] [(0,.box (Co p v re))] (fun _ h=>h) E E ⟨Y,⟨.inl E,E,Y⟩,E,E⟩
 ·((conv=>whnf);repeat((first|refine aF ?_|refine aT ?_);(first|refine rG Γ hm ?_|refine rD Γ hm qq ?_);conv=>whnf))
  refine⟨fun h=>?_,fun h=>?_⟩
  ·have h2:B9 true re e=e:=by show (if true=true∧re=0 then e else re)=e;rw[if_pos ⟨rfl,by simpa using h⟩]
   rw[h2]
   ((first|refine rG Γ hm ?_|refine rD Γ hm qq ?_);(conv=>whnf);repeat((first|refine aF ?_|refine aT ?_);(first|refine rG Γ hm ?_|refine rD Γ hm qq ?_);conv=>whnf))
   exact Bm E .nil [] [(0,.box (Co p v e))] (fun _ h=>h) E E ⟨Y,⟨.inl E,E,Y⟩,E,E⟩
  ·have h2:B9 true re e=re:=by
    show (if true=true∧re=0 then e else re)=re
    rw[if_neg (fun h3=>by
     have h4:¬ re=0:=by simpa using h
     exact h4 h3.2)]
   rw[h2]
   ((first|refine rG Γ hm ?_|refine rD Γ hm qq ?_);(conv=>whnf);repeat((first|refine aF ?_|refine aT ?_);(first|refine rG Γ hm ?_|refine rD Γ hm qq ?_);conv=>whnf))
   exact Bm E .nil [] [(0,.box (Co p v re))] (fun _ h=>h) E E ⟨Y,⟨.inl E,E,Y⟩,E,E⟩
theorem Alo (b:List UInt8) (hb:b.length<100000):Sy.Spec Tryz.prog 192 [.ptr 0 0,.sl 1 Ak b] [(0,.box (Co noP 0 0))] (.tup []) [(0,.box (Co (outerT b).1 0 (outerT b).2))]:=Ab Γ hm 100 F192 Tryz.ntmps192 rfl fun F hF=>by
 have hres:=outerT.eq_1 b
 generalize outerT b=res at *
 have q1:=Of b hb
 have hbad:=@takeF_bad b
 have hok:=@Aah b
 generalize takeF b=tk at *
 obtain ⟨f,e⟩:=tk
 dsimp only at hres q1 hbad hok
 ((conv=>whnf);repeat((first|refine aF ?_|refine aT ?_);(first|refine rG Γ hm ?_|refine rD Γ hm qq ?_);conv=>whnf))
 refine Ah q1 F93 E E E E E ?_
 ((first|refine rG Γ hm ?_|refine rD Γ hm qq ?_);(conv=>whnf);repeat((first|refine aF ?_|refine aT ?_);(first|refine rG Γ hm ?_|refine rD Γ hm qq ?_);conv=>whnf))
 refine Ai (Aj [(0,0)] E F216 (Qq noP 0 0 true e) E ⟨E,Y⟩ E ⟨.inl E,Y⟩) E E ?_
 rw[show B9 true 0 e=e by simp[B9]]
 ((first|refine rG Γ hm ?_|refine rD Γ hm qq ?_);(conv=>whnf);repeat((first|refine aF ?_|refine aT ?_);(first|refine rG Γ hm ?_|refine rD Γ hm qq ?_);conv=>whnf))
 refine Ai (Aj [(0,0)] E F216 (Qq noP 0 e ((f.typ:Int) != 2048) 11) E ⟨E,Y⟩ E ⟨.inl E,Y⟩) E E ?_
 by_cases he:e=0
 rotate_left
 ·rw[if_pos he]at hres
  subst hres
  rw[show B9 ((f.typ:Int) != 2048) e 11=e by simp[B9,he]]
  ((first|refine rG Γ hm ?_|refine rD Γ hm qq ?_);(conv=>whnf);repeat((first|refine aF ?_|refine aT ?_);(first|refine rG Γ hm ?_|refine rD Γ hm qq ?_);conv=>whnf))
  refine⟨fun h=>absurd (show e=0 by simpa using h) he,fun _=>?_⟩
  ((first|refine rG Γ hm ?_|refine rD Γ hm qq ?_);(conv=>whnf);repeat((first|refine aF ?_|refine aT ?_);(first|refine rG Γ hm ?_|refine rD Γ hm qq ?_);conv=>whnf))
  exact Bm E .nil [] [(0,.box (Co noP 0 e))] (fun _ h=>h) E E ⟨Y,⟨.inl E,E,Y⟩,E,E⟩
 subst he
 rw[if_neg qy]at hres
 by_cases ht:f.typ=2048
 rotate_left
 ·rw[if_pos ht]at hres
  subst hres
  have hb2:((f.typ:Int) != 2048)=true:=by simp;omega
  rw[hb2,show B9 true 0 11=11 by simp[B9]]
  ((first|refine rG Γ hm ?_|refine rD Γ hm qq ?_);(conv=>whnf);repeat((first|refine aF ?_|refine aT ?_);(first|refine rG Γ hm ?_|refine rD Γ hm qq ?_);conv=>whnf))
  exact Bm E .nil [] [(0,.box (Co noP 0 11))] (fun _ h=>h) E E ⟨Y,⟨.inl E,E,Y⟩,E,E⟩
 rw[if_neg (fun h=>h ht)]at hres
 have hb2:((f.typ:Int) != 2048)=false:=by simp;omega
 rw[hb2,show B9 false 0 11=0 by simp[B9]]
 have hfb:=(hok rfl).body
 have q2:=Afj f.body qn
 have hib:=@Amt f.body
 generalize ipTakeT f.body=ip at *
 obtain ⟨p,e2⟩:=ip
 dsimp only at hres q2 hib
 ((first|refine rG Γ hm ?_|refine rD Γ hm qq ?_);(conv=>whnf);repeat((first|refine aF ?_|refine aT ?_);(first|refine rG Γ hm ?_|refine rD Γ hm qq ?_);conv=>whnf))
 refine Ah q2 F135 E E E E E ?_
 ((first|refine rG Γ hm ?_|refine rD Γ hm qq ?_);(conv=>whnf);repeat((first|refine aF ?_|refine aT ?_);(first|refine rG Γ hm ?_|refine rD Γ hm qq ?_);conv=>whnf))
 refine Ai (Aj [(0,0)] E F216 (Qq p 0 0 true e2) E ⟨E,Y⟩ E ⟨.inl E,Y⟩) E E ?_
 rw[show B9 true 0 e2=e2 by simp[B9]]
 ((first|refine rG Γ hm ?_|refine rD Γ hm qq ?_);(conv=>whnf);repeat((first|refine aF ?_|refine aT ?_);(first|refine rG Γ hm ?_|refine rD Γ hm qq ?_);conv=>whnf))
 refine Ai (Aj [(0,0)] E F216 (Qq p 0 e2 ((p.proto:Int) != 17) 11) E ⟨E,Y⟩ E ⟨.inl E,Y⟩) E E ?_
 have hfin:res=(p,B9 ((p.proto:Int) != 17) e2 11):=by
  by_cases h2:e2=0
  ·subst h2
   rw[if_neg qy]at hres
   rw[hres]
   simp only[B9]
   by_cases h3:p.proto=17
   ·rw[if_neg (by simp[h3]),if_neg (by simp[h3])]
   ·rw[if_pos h3,if_pos (by simp;omega)]
  ·rw[if_pos h2]at hres
   rw[hres,hib h2,show B9 ((noP.proto:Int) != 17) e2 11=e2 by simp[B9,h2]]
 rw[hfin]
 ((first|refine rG Γ hm ?_|refine rD Γ hm qq ?_);(conv=>whnf);repeat((first|refine aF ?_|refine aT ?_);(first|refine rG Γ hm ?_|refine rD Γ hm qq ?_);conv=>whnf))
 exact Bm E .nil [] [(0,.box (Co p 0 (B9 ((p.proto:Int) != 17) e2 11)))] (fun _ h=>h) E E ⟨Y,⟨.inl E,E,Y⟩,E,E⟩
def frameT (p:PacketM) (e:Int):FrameM × Int × Int :=
 if e≠0 then (noF,0,e) else if (udpTakeT p.body).2.2.2≠0 then (noF,0,(udpTakeT p.body).2.2.2) else if (udpTakeT p.body).2.1≠4789 then (noF,0,11)
 else if (vniT (udpTakeT p.body).2.2.1).2.2≠0 then (noF,(vniT (udpTakeT p.body).2.2.1).1,(vniT (udpTakeT p.body).2.2.1).2.2)
 else ((takeF (vniT (udpTakeT p.body).2.2.1).2.1).1,(vniT (udpTakeT p.body).2.2.1).1,
  if (takeF (vniT (udpTakeT p.body).2.2.1).2.1).2≠0 then (takeF (vniT (udpTakeT p.body).2.2.1).2.1).2 else if (takeF (vniT (udpTakeT p.body).2.2.1).2.1).1.typ=33024 then 15 else 0)
theorem frameS (p:PacketM) (e:Int) (hb:p.body.length<100000):Sy.Spec Tryz.prog 193 [.ptr 0 0] [(0,.box (Co p 0 e))] (By (frameT p e).1) [(0,.box (Co p (frameT p e).2.1 (frameT p e).2.2))]:=Ab Γ hm 100 F193 Tryz.ntmps193 rfl fun F hF=>by
 have hres:=frameT.eq_1 p e
 generalize frameT p e=res at *
 have q1:=Ah7 p.body hb
 have hul:=@Ak9 p.body
 generalize udpTakeT p.body=u at *
 obtain ⟨u1,u2,u3,u4⟩:=u
 dsimp only at hres q1 hul
 have q2:=vniS u3 qn
 have hvl:=@vniT_body u3
 generalize vniT u3=w at *
 obtain ⟨w1,w2,w3⟩:=w
 dsimp only at hres q2 hvl
 have q3:=Of w2 qn
 have hbad:=@takeF_bad w2
 generalize takeF w2=t at *
 obtain ⟨f,t2⟩:=t
 dsimp only at hres q3 hbad
 ((conv=>whnf);repeat((first|refine aF ?_|refine aT ?_);(first|refine rG Γ hm ?_|refine rD Γ hm qq ?_);conv=>whnf))
 refine⟨fun h=>?_,fun h=>?_⟩
 ·rw[if_pos (by simpa using h)]at hres
  subst hres
  ((first|refine rG Γ hm ?_|refine rD Γ hm qq ?_);(conv=>whnf);repeat((first|refine aF ?_|refine aT ?_);(first|refine rG Γ hm ?_|refine rD Γ hm qq ?_);conv=>whnf))
  refine A0 2 zF E (.cons (.refl _) (.cons (.refl _) (.cons (.refl _) (.cons .nil .nil)))) ?_
  exact done E (.cons (.cell E E E E) .nil) [] [(0,.box (Co p 0 e))] (fun _ h=>h) E E ⟨Y,⟨.inl E,E,Y⟩,E,E⟩
 have he:e=0:=by simpa using h
 clear h
 subst he
 rw[if_neg qy]at hres
 ((first|refine rG Γ hm ?_|refine rD Γ hm qq ?_);(conv=>whnf);repeat((first|refine aF ?_|refine aT ?_);(first|refine rG Γ hm ?_|refine rD Γ hm qq ?_);conv=>whnf))
 refine Ah q1 F217 E E E E E ?_
 ((first|refine rG Γ hm ?_|refine rD Γ hm qq ?_);(conv=>whnf);repeat((first|refine aF ?_|refine aT ?_);(first|refine rG Γ hm ?_|refine rD Γ hm qq ?_);conv=>whnf))
 refine Ai (Aj [(0,0)] E F216 (Qq p 0 0 true u4) E ⟨E,Y⟩ E ⟨.inl E,Y⟩) E E ?_
 rw[show B9 true 0 u4=u4 by simp[B9]]
 ((first|refine rG Γ hm ?_|refine rD Γ hm qq ?_);(conv=>whnf);repeat((first|refine aF ?_|refine aT ?_);(first|refine rG Γ hm ?_|refine rD Γ hm qq ?_);conv=>whnf))
 refine Ai (Aj [(0,0)] E F216 (Qq p 0 u4 (u2 != 4789) 11) E ⟨E,Y⟩ E ⟨.inl E,Y⟩) E E ?_
 by_cases h4:u4=0
 rotate_left
 ·rw[if_pos h4]at hres
  subst hres
  rw[show B9 (u2 != 4789) u4 11=u4 by simp[B9,h4]]
  ((first|refine rG Γ hm ?_|refine rD Γ hm qq ?_);(conv=>whnf);repeat((first|refine aF ?_|refine aT ?_);(first|refine rG Γ hm ?_|refine rD Γ hm qq ?_);conv=>whnf))
  refine⟨fun h=>absurd (show u4=0 by simpa using h) h4,fun _=>?_⟩
  ((first|refine rG Γ hm ?_|refine rD Γ hm qq ?_);(conv=>whnf);repeat((first|refine aF ?_|refine aT ?_);(first|refine rG Γ hm ?_|refine rD Γ hm qq ?_);conv=>whnf))
  refine⟨fun _=>?_,fun h=>absurd (show u4=0 by simpa using h) h4⟩
  ((first|refine rG Γ hm ?_|refine rD Γ hm qq ?_);(conv=>whnf);repeat((first|refine aF ?_|refine aT ?_);(first|refine rG Γ hm ?_|refine rD Γ hm qq ?_);conv=>whnf))
  refine A0 2 zF E (.cons (.refl _) (.cons (.refl _) (.cons (.refl _) (.cons .nil .nil)))) ?_
  exact done E (.cons (.cell E E E E) .nil) [] [(0,.box (Co p 0 u4))] (fun _ h=>h) E E ⟨Y,⟨.inl E,E,Y⟩,E,E⟩
 subst h4
 rw[if_neg qy]at hres
 by_cases h2:u2=4789
 rotate_left
 ·rw[if_pos h2]at hres
  subst hres
  rw[show B9 (u2 != 4789) 0 11=11 by simp[B9,h2]]
  ((first|refine rG Γ hm ?_|refine rD Γ hm qq ?_);(conv=>whnf);repeat((first|refine aF ?_|refine aT ?_);(first|refine rG Γ hm ?_|refine rD Γ hm qq ?_);conv=>whnf))
  refine A0 2 zF E (.cons (.refl _) (.cons (.refl _) (.cons (.refl _) (.cons .nil .nil)))) ?_
  exact done E (.cons (.cell E E E E) .nil) [] [(0,.box (Co p 0 11))] (fun _ h=>h) E E ⟨Y,⟨.inl E,E,Y⟩,E,E⟩
 rw[if_neg (fun h=>h h2)]at hres
 rw[show B9 (u2 != 4789) 0 11=0 by simp[B9,h2]]
 ((first|refine rG Γ hm ?_|refine rD Γ hm qq ?_);(conv=>whnf);repeat((first|refine aF ?_|refine aT ?_);(first|refine rG Γ hm ?_|refine rD Γ hm qq ?_);conv=>whnf))
 refine Ah q2 F218 E E E E E ?_
 ((first|refine rG Γ hm ?_|refine rD Γ hm qq ?_);(conv=>whnf);repeat((first|refine aF ?_|refine aT ?_);(first|refine rG Γ hm ?_|refine rD Γ hm qq ?_);conv=>whnf))
 refine Ai (Aj [(0,0)] E F216 (Qq p w1 0 true w3) E ⟨E,Y⟩ E ⟨.inl E,Y⟩) E E ?_
 rw[show B9 true 0 w3=w3 by simp[B9]]
 ((first|refine rG Γ hm ?_|refine rD Γ hm qq ?_);(conv=>whnf);repeat((first|refine aF ?_|refine aT ?_);(first|refine rG Γ hm ?_|refine rD Γ hm qq ?_);conv=>whnf))
 refine⟨fun h=>?_,fun h=>?_⟩
 ·rw[if_pos (by simpa using h)]at hres
  subst hres
  ((first|refine rG Γ hm ?_|refine rD Γ hm qq ?_);(conv=>whnf);repeat((first|refine aF ?_|refine aT ?_);(first|refine rG Γ hm ?_|refine rD Γ hm qq ?_);conv=>whnf))
  refine A0 2 zF E (.cons (.refl _) (.cons (.refl _) (.cons (.refl _) (.cons .nil .nil)))) ?_
  exact done E (.cons (.cell E E E E) .nil) [] [(0,.box (Co p w1 w3))] (fun _ h=>h) E E ⟨Y,⟨.inl E,E,Y⟩,E,E⟩
 have h3:w3=0:=by simpa using h
 clear h
 subst h3
 rw[if_neg qy]at hres
 ((first|refine rG Γ hm ?_|refine rD Γ hm qq ?_);(conv=>whnf);repeat((first|refine aF ?_|refine aT ?_);(first|refine rG Γ hm ?_|refine rD Γ hm qq ?_);conv=>whnf))
 refine Ah q3 F93 E E E E E ?_
 ((first|refine rG Γ hm ?_|refine rD Γ hm qq ?_);(conv=>whnf);repeat((first|refine aF ?_|refine aT ?_);(first|refine rG Γ hm ?_|refine rD Γ hm qq ?_);conv=>whnf))
 refine Ai (Aj [(0,0)] E F216 (Qq p w1 0 true t2) E ⟨E,Y⟩ E ⟨.inl E,Y⟩) E E ?_
 rw[show B9 true 0 t2=t2 by simp[B9]]
 ((first|refine rG Γ hm ?_|refine rD Γ hm qq ?_);(conv=>whnf);repeat((first|refine aF ?_|refine aT ?_);(first|refine rG Γ hm ?_|refine rD Γ hm qq ?_);conv=>whnf))
 refine Ah (Lp f) F94 E E E E E ?_
 ((first|refine rG Γ hm ?_|refine rD Γ hm qq ?_);(conv=>whnf);repeat((first|refine aF ?_|refine aT ?_);(first|refine rG Γ hm ?_|refine rD Γ hm qq ?_);conv=>whnf))
 refine Ai (Aj [(0,0)] E F216 (Qq p w1 t2 (decide (f.typ=33024)) 15) E ⟨E,Y⟩ E ⟨.inl E,Y⟩) E E ?_
 have hfin:B9 (decide (f.typ=33024)) t2 15=if t2≠0 then t2 else if f.typ=33024 then 15 else 0:=by
  by_cases k1:t2=0
  ·subst k1
   rw[if_neg qy]
   by_cases k2:f.typ=33024<;>simp[B9,k2]
  ·rw[if_pos k1]
   simp[B9,k1]
 rw[← hfin]at hres
 subst hres
 ((first|refine rG Γ hm ?_|refine rD Γ hm qq ?_);(conv=>whnf);repeat((first|refine aF ?_|refine aT ?_);(first|refine rG Γ hm ?_|refine rD Γ hm qq ?_);conv=>whnf))
 exact done E (.cons (.cell E E E E) .nil) [] [(0,.box (Co p w1 (B9 (decide (f.typ=33024)) t2 15)))] (fun _ h=>h) E E ⟨Y,⟨.inl E,E,Y⟩,E,E⟩
theorem Yl (b:List UInt8):Br b=if (frameT (outerT b).1 (outerT b).2).2.2≠0 then (0,0,0,noF,(frameT (outerT b).1 (outerT b).2).2.2)
  else ((outerT b).1.src,(outerT b).1.dst,(frameT (outerT b).1 (outerT b).2).2.1,(frameT (outerT b).1 (outerT b).2).1,0):=by
 unfold Br
 generalize outerT b=o
 obtain ⟨p,e⟩:=o
 dsimp only
 by_cases he:e=0
 rotate_left
 ·rw[if_pos he]
  have h1:frameT p e=(noF,0,e):=by rw[frameT,if_pos he]
  rw[h1,if_pos he]
 subst he
 rw[if_neg qy]
 unfold I5 frameT
 rw[if_neg (show ¬ (0:Int)≠0 by simp)]
 generalize udpTakeT p.body=u
 obtain ⟨u1,u2,u3,u4⟩:=u
 dsimp only
 by_cases h4:u4=0
 rotate_left
 ·rw[if_pos h4,if_pos h4,if_pos h4]
  dsimp only
  rw[if_pos h4]
 subst h4
 simp only[ne_eq,not_true_eq_false,if_false]
 by_cases h2:u2=4789
 rotate_left
 ·simp[h2]
 simp only[h2,not_true_eq_false,if_false]
 generalize vniT u3=w
 obtain ⟨w1,w2,w3⟩:=w
 dsimp only
 by_cases h3:w3=0
 rotate_left
 ·simp[h3]
 simp only[h3,not_true_eq_false,if_false]
 generalize takeF w2=t
 obtain ⟨f,t2⟩:=t
 dsimp only
 by_cases k1:t2=0
 ·by_cases k2:f.typ=33024<;>simp[k1,k2]
 ·simp[k1]
theorem Af1 (b:List UInt8) (hb:b.length<100000) :
  Sy.Spec Tryz.prog 149 [.sl 1 Ak b] [] (.tup [Ce (Br b).1,Ce (Br b).2.1,Aa (Br b).2.2.1,By (Br b).2.2.2.1,Aa (Br b).2.2.2.2]) []:=Ab Γ hm 100 F149 Tryz.ntmps149 rfl fun F hF=>by
 have hres:=Yl b
 generalize Br b=res at *
 have q1:=Alo b hb
 have hol:=(Sd b).2
 generalize outerT b=o at *
 obtain ⟨p,e⟩:=o
 dsimp only at hres q1 hol
 have q2:=frameS p e qn
 generalize frameT p e=fr at *
 obtain ⟨f,v,e2⟩:=fr
 dsimp only at hres q2
 ((conv=>whnf);repeat((first|refine aF ?_|refine aT ?_);(first|refine rG Γ hm ?_|refine rD Γ hm qq ?_);conv=>whnf))
 refine A0 9 (Co noP 0 0) E (.cons (.refl _) (.cons (.refl _) (.cons (.refl _) (.cons (.refl _) (.cons (.refl _) (.cons (.refl _) (.cons .nil (.cons (.refl _) (.cons (.refl _) .nil))))))))) ?_
 ((first|refine rG Γ hm ?_|refine rD Γ hm qq ?_);(conv=>whnf);repeat((first|refine aF ?_|refine aT ?_);(first|refine rG Γ hm ?_|refine rD Γ hm qq ?_);conv=>whnf))
 refine Ai (Aj [(0,9)] E F192 q1 E ⟨E,Y⟩ E ⟨.inl E,Y⟩) E E ?_
 ((first|refine rG Γ hm ?_|refine rD Γ hm qq ?_);(conv=>whnf);repeat((first|refine aF ?_|refine aT ?_);(first|refine rG Γ hm ?_|refine rD Γ hm qq ?_);conv=>whnf))
 refine Ai (Aj [(0,9)] E F193 q2 E ⟨E,Y⟩ E ⟨.inl E,Y⟩) E E ?_
 ((first|refine rG Γ hm ?_|refine rD Γ hm qq ?_);(conv=>whnf);repeat((first|refine aF ?_|refine aT ?_);(first|refine rG Γ hm ?_|refine rD Γ hm qq ?_);conv=>whnf))
 refine⟨fun h=>?_,fun h=>?_⟩
 ·rw[if_pos (by simpa using h)]at hres
  subst hres
  ((first|refine rG Γ hm ?_|refine rD Γ hm qq ?_);(conv=>whnf);repeat((first|refine aF ?_|refine aT ?_);(first|refine rG Γ hm ?_|refine rD Γ hm qq ?_);conv=>whnf))
  refine⟨qq,?_⟩
  ((conv=>whnf);repeat((first|refine aF ?_|refine aT ?_);(first|refine rG Γ hm ?_|refine rD Γ hm qq ?_);conv=>whnf))
  refine A0 5 zF E (.cons (.refl _) (.cons (.refl _) (.cons (.refl _) (.cons .nil .nil)))) ?_
  exact Ac E (.cons .tmp (.cons .tmp (.cons .tmp (.cons (.cell E E E E) (.cons .tmp .nil))))) E E
 rw[if_neg (by simpa using h)]at hres
 subst hres
 ((first|refine rG Γ hm ?_|refine rD Γ hm qq ?_);(conv=>whnf);repeat((first|refine aF ?_|refine aT ?_);(first|refine rG Γ hm ?_|refine rD Γ hm qq ?_);conv=>whnf))
 refine⟨qq,?_⟩
 ((conv=>whnf);repeat((first|refine aF ?_|refine aT ?_);(first|refine rG Γ hm ?_|refine rD Γ hm qq ?_);conv=>whnf))
 exact Ac E (.cons .tmp (.cons .tmp (.cons .tmp (.cons (.cell E E E E) (.cons .tmp .nil))))) E E
theorem Qh (l:List Device) (p:Device→Bool) (f:FuncId) (first cap:List SV) (hc:(SV.clo (.func f) first cap).inn []=true) (hf:∀ x∈l,Hn Tryz.prog f (first++[A1 x]++cap) (Ad (p x))) (hl:Am l) :
  Sy.Spec Tryz.prog 194 [.sl 5 A1 l,.clo (.func f) first cap] [] (Aa (Dn p l)) []:=Ab Γ hm 100 F194 Tryz.ntmps194 rfl fun F hF=>by
 unfold Am at hl
 have hin:∀ x:Device,B1 [] (first++[A1 x]++cap)=true:=fun x=>Cp hc rfl
 ((conv=>whnf);repeat((first|refine aF ?_|refine aT ?_);(first|refine rG Γ hm ?_|refine rD Γ hm qq ?_);conv=>whnf))
 refine Bc l.length (fun j=>Dy (fun _ x=>!(p x)) l j) (fun j=>[(0,.sl 5 A1 l),(1,.clo (.func f) first cap),(7,Aa l.length),(8,Aa j)]) (fun _=>[]) [] (Bd _ _) ⟨⟨E,E,A4 _,hc,E,E,E,E,Y⟩,Y,E,E⟩ ?_
 intro j hj hI
 ((first|refine rG Γ hm ?_|refine rD Γ hm qq ?_);(conv=>whnf);repeat((first|refine aF ?_|refine aT ?_);(first|refine rG Γ hm ?_|refine rD Γ hm qq ?_);conv=>whnf))
 refine⟨fun h=>?_,fun h=>?_⟩
 ·have h:=of_decide_eq_true h
  have hj2:j<l.length:=by omega
  ((first|refine rG Γ hm ?_|refine rD Γ hm qq ?_);(conv=>whnf);repeat((first|refine aF ?_|refine aT ?_);(first|refine rG Γ hm ?_|refine rD Γ hm qq ?_);conv=>whnf))
  refine⟨E,by omega,by omega,?_⟩
  ((conv=>whnf);repeat((first|refine aF ?_|refine aT ?_);(first|refine rG Γ hm ?_|refine rD Γ hm qq ?_);conv=>whnf))
  refine Dx (hf l[j] (List.getElem_mem hj2)) E E E (by simp only[hin];rfl) E E ?_
  ((first|refine rG Γ hm ?_|refine rD Γ hm qq ?_);(conv=>whnf);repeat((first|refine aF ?_|refine aT ?_);(first|refine rG Γ hm ?_|refine rD Γ hm qq ?_);conv=>whnf))
  refine⟨fun h2=>?_,fun h2=>?_⟩
  ·((first|refine rG Γ hm ?_|refine rD Γ hm qq ?_);(conv=>whnf);repeat((first|refine aF ?_|refine aT ?_);(first|refine rG Γ hm ?_|refine rD Γ hm qq ?_);conv=>whnf))
   refine Ac E (.cons .tmp .nil) (congrArg Aa ?_) E
   exact Eh hj2 (fun i hi hij=>by simpa using hI i hi hij) h2
  ·((first|refine rG Γ hm ?_|refine rD Γ hm qq ?_);(conv=>whnf);repeat((first|refine aF ?_|refine aT ?_);(first|refine rG Γ hm ?_|refine rD Γ hm qq ?_);conv=>whnf))
   refine⟨by unfold I64;omega,?_⟩
   ((conv=>whnf);repeat((first|refine aF ?_|refine aT ?_);(first|refine rG Γ hm ?_|refine rD Γ hm qq ?_);conv=>whnf))
   exact A9 [] hI hj2 (Ba hI hj2 (by simp[h2])) ⟨⟨E,E,A4 _,hc,E,E,E,E,Y⟩,Y,E,E⟩
 ·have h:=of_decide_eq_false h
  ((first|refine rG Γ hm ?_|refine rD Γ hm qq ?_);(conv=>whnf);repeat((first|refine aF ?_|refine aT ?_);(first|refine rG Γ hm ?_|refine rD Γ hm qq ?_);conv=>whnf))
  refine Ac E (.cons .tmp .nil) (congrArg Aa ?_) E
  exact E5 (fun i hi=>by simpa using hI i hi qn)
theorem Zn {n:Net} (hb:Af n=true) {d:Int} (hd:DomIn n d):0≤(n.domains[d.toNat]'hd.2).dev∧(n.domains[d.toNat]'hd.2).dev.toNat<n.devices.length:=by
 simp only[Af,Bool.and_eq_true]at hb
 have:=Wl hb.1.1.1.1.1.1.1.2 hd.2
 have:=Bk this
 omega
theorem Z5 {n:Net} (hb:Af n=true) {d:Int} (hd:DomIn n d):Ho n d=(n.devices[(n.domains[d.toNat]'hd.2).dev.toNat]'(Zn hb hd).2).vtep:=by
 rw[Ho,Ao hd.2,Ao (Zn hb hd).2]
theorem Z4 {n:Net} (hm:n.Num) (hb:Af n=true) {d:Int} (hd:DomIn n d):0≤Ho n d∧Ho n d<4294967296:=by
 rw[Z5 hb hd]
 exact hm.vtep _ (List.getElem_mem _)
theorem M8 (n:Net) (hb:Af n=true) (d:Int) (hd:DomIn n d):Sy.Spec Tryz.prog 144 [Aq n,Aa d] [] (Ce (Ho n d)) []:=Ab Γ hm 100 F144 Tryz.ntmps144 rfl fun F hF=>by
 have hv:=Z5 hb hd
 have h2:=Zn hb hd
 obtain ⟨x,hx⟩:∃ x,n.domains[d.toNat]'hd.2=x:=⟨_,rfl⟩
 rw[hx]at h2
 simp only[hx]at hv
 obtain ⟨y,hy⟩:∃ y,n.devices[x.dev.toNat]'h2.2=y:=⟨_,rfl⟩
 rw[hy]at hv
 rw[hv]
 ((conv=>whnf);repeat((first|refine aF ?_|refine aT ?_);(first|refine rG Γ hm ?_|refine rD Γ hm qq ?_);conv=>whnf))
 refine⟨E,hd.1,hd.2,?_⟩
 rw[hx]
 ((conv=>whnf);repeat((first|refine aF ?_|refine aT ?_);(first|refine rG Γ hm ?_|refine rD Γ hm qq ?_);conv=>whnf))
 refine⟨E,h2.1,h2.2,?_⟩
 rw[hy]
 ((conv=>whnf);repeat((first|refine aF ?_|refine aT ?_);(first|refine rG Γ hm ?_|refine rD Γ hm qq ?_);conv=>whnf))
 refine⟨qq,?_⟩
 ((conv=>whnf);repeat((first|refine aF ?_|refine aT ?_);(first|refine rG Γ hm ?_|refine rD Γ hm qq ?_);conv=>whnf))
 exact Ac E (.cons .tmp .nil) E E
theorem Adu (n:Net) (hn:n.Fin) (hm0:n.Num) (dom peer:Int) (f:FrameM) (h:FrameOK f) :
  Sy.Spec Tryz.prog 107 [Aq n,Aa dom,Aa peer,By f] [] (.tup [.sl 1 Ak (meshT n dom peer f).1,Aa (meshT n dom peer f).2]) []:=Ab Γ hm 100 F107 Tryz.ntmps107 rfl fun F hF=>by
 have hres:=meshT.eq_1 n dom peer f
 generalize meshT n dom peer f=res at *
 have hr:=Bi n hn
 have hpS:=It peer n.domains.length
 have hdS:=It dom n.domains.length
 ((conv=>whnf);repeat((first|refine aF ?_|refine aT ?_);(first|refine rG Γ hm ?_|refine rD Γ hm qq ?_);conv=>whnf))
 refine B0 4 8 (Aq n) E E E ?_
 refine B0 7 4 (By f) E E E ?_
 ((first|refine rG Γ hm ?_|refine rD Γ hm qq ?_);(conv=>whnf);repeat((first|refine aF ?_|refine aT ?_);(first|refine rG Γ hm ?_|refine rD Γ hm qq ?_);conv=>whnf))
 refine Ah hpS F140 E E E E E ?_
 cases hpl:Ag peer n.domains.length
 ·rw[if_pos (.inl hpl)]at hres
  subst hres
  ((first|refine rG Γ hm ?_|refine rD Γ hm qq ?_);(conv=>whnf);repeat((first|refine aF ?_|refine aT ?_);(first|refine rG Γ hm ?_|refine rD Γ hm qq ?_);conv=>whnf))
  refine Ap 8 1 Ak E ?_
  exact Ac E (.cons .tmp (.cons .tmp .nil)) E E
 ((first|refine rG Γ hm ?_|refine rD Γ hm qq ?_);(conv=>whnf);repeat((first|refine aF ?_|refine aT ?_);(first|refine rG Γ hm ?_|refine rD Γ hm qq ?_);conv=>whnf))
 refine Ah hdS F140 E E E E E ?_
 cases hdl:Ag dom n.domains.length
 ·rw[if_pos (.inr (.inl hdl))]at hres
  subst hres
  ((first|refine rG Γ hm ?_|refine rD Γ hm qq ?_);(conv=>whnf);repeat((first|refine aF ?_|refine aT ?_);(first|refine rG Γ hm ?_|refine rD Γ hm qq ?_);conv=>whnf))
  refine Ap 8 1 Ak E ?_
  exact Ac E (.cons .tmp (.cons .tmp .nil)) E E
 ((first|refine rG Γ hm ?_|refine rD Γ hm qq ?_);(conv=>whnf);repeat((first|refine aF ?_|refine aT ?_);(first|refine rG Γ hm ?_|refine rD Γ hm qq ?_);conv=>whnf))
 refine Ah hr F20 E E E E E ?_
 cases hbn:Af n
 ·rw[if_pos (.inr (.inr hbn))]at hres
  subst hres
  ((first|refine rG Γ hm ?_|refine rD Γ hm qq ?_);(conv=>whnf);repeat((first|refine aF ?_|refine aT ?_);(first|refine rG Γ hm ?_|refine rD Γ hm qq ?_);conv=>whnf))
  refine Ap 8 1 Ak E ?_
  exact Ac E (.cons .tmp (.cons .tmp .nil)) E E
 rw[if_neg (by simp[hbn,hpl,hdl])]at hres
 have hd:=Ic hdl
 have hp:=Ic hpl
 have hd0:=hd.1
 have hkd:=hd.2
 have e2:nth n.domains dom=n.domains[dom.toNat]:=Ao hkd
 have hpe:=hn.peers _ (List.getElem_mem hkd)
 have va:=Z4 hm0 hbn hd
 have vb:=Z4 hm0 hbn hp
 have qa:=M8 n hbn dom hd
 have qb:=M8 n hbn peer hp
 generalize Ho n dom=a at *
 generalize Ho n peer=c at *
 obtain ⟨a,rfl⟩:=Int.eq_ofNat_of_zero_le va.1
 obtain ⟨c,rfl⟩:=Int.eq_ofNat_of_zero_le vb.1
 rw[Int.toNat_natCast,Int.toNat_natCast]at hres
 obtain ⟨d,hdd⟩:∃ d,n.domains[dom.toNat]'hkd=d:=⟨_,rfl⟩
 rw[hdd]at e2 hpe
 rw[e2]at hres
 have qc:=Cb d.peers peer hpe
 have qw:=Alb a c d.vni f qn qn h
 ((first|refine rG Γ hm ?_|refine rD Γ hm qq ?_);(conv=>whnf);repeat((first|refine aF ?_|refine aT ?_);(first|refine rG Γ hm ?_|refine rD Γ hm qq ?_);conv=>whnf))
 refine⟨E,hd0,hkd,?_⟩
 rw[hdd]
 ((conv=>whnf);repeat((first|refine aF ?_|refine aT ?_);(first|refine rG Γ hm ?_|refine rD Γ hm qq ?_);conv=>whnf))
 refine Ah qc F53 E E E E E ?_
 cases hi:inB d.peers peer
 ·rw[if_pos hi]at hres
  subst hres
  ((first|refine rG Γ hm ?_|refine rD Γ hm qq ?_);(conv=>whnf);repeat((first|refine aF ?_|refine aT ?_);(first|refine rG Γ hm ?_|refine rD Γ hm qq ?_);conv=>whnf))
  refine Ap 8 1 Ak E ?_
  exact Ac E (.cons .tmp (.cons .tmp .nil)) E E
 rw[if_neg (by rw[hi];decide)]at hres
 subst hres
 ((first|refine rG Γ hm ?_|refine rD Γ hm qq ?_);(conv=>whnf);repeat((first|refine aF ?_|refine aT ?_);(first|refine rG Γ hm ?_|refine rD Γ hm qq ?_);conv=>whnf))
 refine An qa F144 E E E qq E ?_
 ((first|refine rG Γ hm ?_|refine rD Γ hm qq ?_);(conv=>whnf);repeat((first|refine aF ?_|refine aT ?_);(first|refine rG Γ hm ?_|refine rD Γ hm qq ?_);conv=>whnf))
 refine An qb F144 E E E qq E ?_
 ((first|refine rG Γ hm ?_|refine rD Γ hm qq ?_);(conv=>whnf);repeat((first|refine aF ?_|refine aT ?_);(first|refine rG Γ hm ?_|refine rD Γ hm qq ?_);conv=>whnf))
 refine⟨E,hd0,hkd,?_⟩
 rw[hdd]
 ((conv=>whnf);repeat((first|refine aF ?_|refine aT ?_);(first|refine rG Γ hm ?_|refine rD Γ hm qq ?_);conv=>whnf))
 refine An qw F143 E E E qq E ?_
 ((first|refine rG Γ hm ?_|refine rD Γ hm qq ?_);(conv=>whnf);repeat((first|refine aF ?_|refine aT ?_);(first|refine rG Γ hm ?_|refine rD Γ hm qq ?_);conv=>whnf))
 refine⟨qq,?_⟩
 ((conv=>whnf);repeat((first|refine aF ?_|refine aT ?_);(first|refine rG Γ hm ?_|refine rD Γ hm qq ?_);conv=>whnf))
 exact Ac E (.cons .tmp (.cons .tmp .nil)) E E
theorem endsC1 (dst:Int) (d:Device):Sy.Spec Tryz.prog 195 [A1 d,.ref 1 (Ce dst) 0] [] (Ad (decide (d.vtep=dst))) []:=Ab Γ hm 100 F195 Tryz.ntmps195 rfl fun F hF=>by
 ((conv=>whnf);repeat((first|refine aF ?_|refine aT ?_);(first|refine rG Γ hm ?_|refine rD Γ hm qq ?_);conv=>whnf))
 refine Ac E (.cons .tmp .nil) (congrArg Ad ?_) E
 rw[Bool.eq_iff_iff]
 simp
theorem endsC2 (dev vni:Int) (d:Domain):Sy.Spec Tryz.prog 196 [As d,.ref 1 (Aa dev) 0,.ref 1 (Aa vni) 0] [] (Ad (decide (d.dev=dev) && decide (d.vni=vni))) []:=Ab Γ hm 100 F196 Tryz.ntmps196 rfl fun F hF=>by
 ((conv=>whnf);repeat((first|refine aF ?_|refine aT ?_);(first|refine rG Γ hm ?_|refine rD Γ hm qq ?_);conv=>whnf))
 refine⟨fun h=>?_,fun h=>?_⟩
 ·have h1:d.dev=dev:=by simpa using h
  ((first|refine rG Γ hm ?_|refine rD Γ hm qq ?_);(conv=>whnf);repeat((first|refine aF ?_|refine aT ?_);(first|refine rG Γ hm ?_|refine rD Γ hm qq ?_);conv=>whnf))
  refine Ac E (.cons .tmp .nil) (congrArg Ad ?_) E
  rw[decide_eq_true h1,Bool.true_and,Bool.eq_iff_iff]
  simp
 ·have h1:¬ d.dev=dev:=by simpa using h
  ((first|refine rG Γ hm ?_|refine rD Γ hm qq ?_);(conv=>whnf);repeat((first|refine aF ?_|refine aT ?_);(first|refine rG Γ hm ?_|refine rD Γ hm qq ?_);conv=>whnf))
  refine Ac E (.cons .tmp .nil) (congrArg Ad ?_) E
  rw[decide_eq_false h1,Bool.false_and]
theorem endsC3 (n:Net) (hb:Af n=true) (src:Int) (k:Int) (hk:DomIn n k):Sy.Spec Tryz.prog 198 [Aa k,.ref 8 (Aq n) 0,.ref 1 (Ce src) 0] [] (Ad (decide (Ho n k=src))) []:=Ab Γ hm 100 F198 Tryz.ntmps198 rfl fun F hF=>by
 have q:=M8 n hb k hk
 ((conv=>whnf);repeat((first|refine aF ?_|refine aT ?_);(first|refine rG Γ hm ?_|refine rD Γ hm qq ?_);conv=>whnf))
 refine An q F144 E E E qq E ?_
 ((first|refine rG Γ hm ?_|refine rD Γ hm qq ?_);(conv=>whnf);repeat((first|refine aF ?_|refine aT ?_);(first|refine rG Γ hm ?_|refine rD Γ hm qq ?_);conv=>whnf))
 refine⟨qq,?_⟩
 ((conv=>whnf);repeat((first|refine aF ?_|refine aT ?_);(first|refine rG Γ hm ?_|refine rD Γ hm qq ?_);conv=>whnf))
 refine Ac E (.cons .tmp .nil) (congrArg Ad ?_) E
 rw[Bool.eq_iff_iff]
 simp
theorem endsS (n:Net) (hn:n.Fin) (hb:Af n=true) (src dst:Nat) (vni:Int) :
  Sy.Spec Tryz.prog 150 [Aq n,Ce src,Ce dst,Aa vni] [] (.tup [Aa (endsT n src dst vni).1,Aa (endsT n src dst vni).2]) []:=Ab Γ hm 100 F150 Tryz.ntmps150 rfl fun F hF=>by
 have hres:=endsT.eq_1 n src dst vni
 dsimp only at hres
 generalize endsT n src dst vni=res at *
 have q1:=Qh n.devices (fun d=>decide (d.vtep=(dst:Int))) 195 [] [.ref 1 (Ce dst) 0] rfl (fun d _=>⟨⟨_,_,F195⟩,endsC1 dst d⟩) hn.devices
 generalize Dn (fun d:Device=>decide (d.vtep=(dst:Int))) n.devices=dev at *
 have q2:=Et n.domains (fun d=>decide (d.dev=dev) && decide (d.vni=vni)) 196 [] [.ref 1 (Aa dev) 0,.ref 1 (Aa vni) 0] rfl (fun d _=>⟨⟨_,_,F196⟩,endsC2 dev vni d⟩) hn.domains
 have hlt:=Hb (fun d:Domain=>decide (d.dev=dev) && decide (d.vni=vni)) n.domains
 generalize Dn (fun d:Domain=>decide (d.dev=dev) && decide (d.vni=vni)) n.domains=dom at *
 ((conv=>whnf);repeat((first|refine aF ?_|refine aT ?_);(first|refine rG Γ hm ?_|refine rD Γ hm qq ?_);conv=>whnf))
 refine B0 4 8 (Aq n) E E E ?_
 refine B0 5 1 (Ce src) E E E ?_
 refine B0 6 1 (Ce dst) E E E ?_
 refine B0 7 1 (Aa vni) E E E ?_
 ((first|refine rG Γ hm ?_|refine rD Γ hm qq ?_);(conv=>whnf);repeat((first|refine aF ?_|refine aT ?_);(first|refine rG Γ hm ?_|refine rD Γ hm qq ?_);conv=>whnf))
 refine Ah q1 F194 E E E E E ?_
 ((first|refine rG Γ hm ?_|refine rD Γ hm qq ?_);(conv=>whnf);repeat((first|refine aF ?_|refine aT ?_);(first|refine rG Γ hm ?_|refine rD Γ hm qq ?_);conv=>whnf))
 refine B0 10 1 (Aa dev) E E E ?_
 ((first|refine rG Γ hm ?_|refine rD Γ hm qq ?_);(conv=>whnf);repeat((first|refine aF ?_|refine aT ?_);(first|refine rG Γ hm ?_|refine rD Γ hm qq ?_);conv=>whnf))
 refine Ah q2 F74 E E E E E ?_
 ((first|refine rG Γ hm ?_|refine rD Γ hm qq ?_);(conv=>whnf);repeat((first|refine aF ?_|refine aT ?_);(first|refine rG Γ hm ?_|refine rD Γ hm qq ?_);conv=>whnf))
 refine⟨fun h=>?_,fun h=>?_⟩
 ·rw[if_pos (.inl (of_decide_eq_true h))]at hres
  subst hres
  ((first|refine rG Γ hm ?_|refine rD Γ hm qq ?_);(conv=>whnf);repeat((first|refine aF ?_|refine aT ?_);(first|refine rG Γ hm ?_|refine rD Γ hm qq ?_);conv=>whnf))
  exact Ac E (.cons .tmp (.cons .tmp .nil)) E E
 have h1:=of_decide_eq_false h
 clear h
 ((first|refine rG Γ hm ?_|refine rD Γ hm qq ?_);(conv=>whnf);repeat((first|refine aF ?_|refine aT ?_);(first|refine rG Γ hm ?_|refine rD Γ hm qq ?_);conv=>whnf))
 refine⟨fun h=>?_,fun h=>?_⟩
 ·rw[if_pos (.inr (of_decide_eq_true h))]at hres
  subst hres
  ((first|refine rG Γ hm ?_|refine rD Γ hm qq ?_);(conv=>whnf);repeat((first|refine aF ?_|refine aT ?_);(first|refine rG Γ hm ?_|refine rD Γ hm qq ?_);conv=>whnf))
  exact Ac E (.cons .tmp (.cons .tmp .nil)) E E
 have h2:=of_decide_eq_false h
 clear h
 rw[if_neg (fun h=>h.elim h1 h2)]at hres
 have hd0:0≤dom:=by omega
 have hkd:dom.toNat<n.domains.length:=by omega
 have e2:nth n.domains dom=n.domains[dom.toNat]:=Ao hkd
 have hpe:=hn.peers _ (List.getElem_mem hkd)
 have hpin:∀ k∈(n.domains[dom.toNat]'hkd).peers,DomIn n k:=fun k hk=>Aa4 hb hkd hk
 obtain ⟨d,hdd⟩:∃ d,n.domains[dom.toNat]'hkd=d:=⟨_,rfl⟩
 rw[hdd]at e2 hpe hpin
 rw[e2]at hres
 have q3:=Ig d.peers (fun k=>decide (Ho n k=(src:Int))) 198 [] [.ref 8 (Aq n) 0,.ref 1 (Ce src) 0] rfl (fun k hk=>⟨⟨_,_,F198⟩,endsC3 n hb src k (hpin k hk)⟩) hpe
 have hlt2:=Hb (fun k:Int=>decide (Ho n k=(src:Int))) d.peers
 generalize Dn (fun k:Int=>decide (Ho n k=(src:Int))) d.peers=i at *
 ((first|refine rG Γ hm ?_|refine rD Γ hm qq ?_);(conv=>whnf);repeat((first|refine aF ?_|refine aT ?_);(first|refine rG Γ hm ?_|refine rD Γ hm qq ?_);conv=>whnf))
 refine⟨E,hd0,hkd,?_⟩
 rw[hdd]
 ((conv=>whnf);repeat((first|refine aF ?_|refine aT ?_);(first|refine rG Γ hm ?_|refine rD Γ hm qq ?_);conv=>whnf))
 refine Ah q3 F197 E E E E E ?_
 ((first|refine rG Γ hm ?_|refine rD Γ hm qq ?_);(conv=>whnf);repeat((first|refine aF ?_|refine aT ?_);(first|refine rG Γ hm ?_|refine rD Γ hm qq ?_);conv=>whnf))
 refine⟨fun h=>?_,fun h=>?_⟩
 ·rw[if_pos (of_decide_eq_true h)]at hres
  subst hres
  ((first|refine rG Γ hm ?_|refine rD Γ hm qq ?_);(conv=>whnf);repeat((first|refine aF ?_|refine aT ?_);(first|refine rG Γ hm ?_|refine rD Γ hm qq ?_);conv=>whnf))
  exact Ac E (.cons .tmp (.cons .tmp .nil)) E E
 have h3:=of_decide_eq_false h
 clear h
 rw[if_neg h3]at hres
 have hki:i.toNat<d.peers.length:=by omega
 rw[Ao hki]at hres
 subst hres
 ((first|refine rG Γ hm ?_|refine rD Γ hm qq ?_);(conv=>whnf);repeat((first|refine aF ?_|refine aT ?_);(first|refine rG Γ hm ?_|refine rD Γ hm qq ?_);conv=>whnf))
 refine⟨E,by omega,hki,?_⟩
 ((conv=>whnf);repeat((first|refine aF ?_|refine aT ?_);(first|refine rG Γ hm ?_|refine rD Γ hm qq ?_);conv=>whnf))
 exact Ac E (.cons .tmp (.cons .tmp .nil)) E E
theorem Adw (n:Net) (hn:n.Fin) (b:List UInt8) (hb:b.length<100000) :
  Sy.Spec Tryz.prog 112 [Aq n,.sl 1 Ak b] [] (.tup [Aa (comeT n b).1,Aa (comeT n b).2.1,By (comeT n b).2.2.1,Aa (comeT n b).2.2.2]) []:=Ab Γ hm 100 F112 Tryz.ntmps112 rfl fun F hF=>by
 have hres:=comeT.eq_1 n b
 generalize comeT n b=res at *
 have hr:=Bi n hn
 ((conv=>whnf);repeat((first|refine aF ?_|refine aT ?_);(first|refine rG Γ hm ?_|refine rD Γ hm qq ?_);conv=>whnf))
 refine B0 2 8 (Aq n) E E E ?_
 ((first|refine rG Γ hm ?_|refine rD Γ hm qq ?_);(conv=>whnf);repeat((first|refine aF ?_|refine aT ?_);(first|refine rG Γ hm ?_|refine rD Γ hm qq ?_);conv=>whnf))
 refine Ah hr F20 E E E E E ?_
 cases hbn:Af n
 ·rw[if_pos hbn]at hres
  subst hres
  ((first|refine rG Γ hm ?_|refine rD Γ hm qq ?_);(conv=>whnf);repeat((first|refine aF ?_|refine aT ?_);(first|refine rG Γ hm ?_|refine rD Γ hm qq ?_);conv=>whnf))
  refine A0 6 zF E (.cons (.refl _) (.cons (.refl _) (.cons (.refl _) (.cons .nil .nil)))) ?_
  exact Ac E (.cons .tmp (.cons .tmp (.cons (.cell E E E E) (.cons .tmp .nil)))) E E
 rw[if_neg (by rw[hbn];decide)]at hres
 have q1:=Af1 b hb
 have huo:=Uh b
 generalize Br b=u at *
 obtain ⟨src,dst,vni,f,e⟩:=u
 dsimp only at hres q1 huo
 have hsrc:=huo.2.2.2.src
 ((first|refine rG Γ hm ?_|refine rD Γ hm qq ?_);(conv=>whnf);repeat((first|refine aF ?_|refine aT ?_);(first|refine rG Γ hm ?_|refine rD Γ hm qq ?_);conv=>whnf))
 refine Ah q1 F149 E E E E E ?_
 ((first|refine rG Γ hm ?_|refine rD Γ hm qq ?_);(conv=>whnf);repeat((first|refine aF ?_|refine aT ?_);(first|refine rG Γ hm ?_|refine rD Γ hm qq ?_);conv=>whnf))
 refine⟨fun h=>?_,fun h=>?_⟩
 ·rw[if_pos (by simpa using h)]at hres
  subst hres
  ((first|refine rG Γ hm ?_|refine rD Γ hm qq ?_);(conv=>whnf);repeat((first|refine aF ?_|refine aT ?_);(first|refine rG Γ hm ?_|refine rD Γ hm qq ?_);conv=>whnf))
  refine A0 6 zF E (.cons (.refl _) (.cons (.refl _) (.cons (.refl _) (.cons .nil .nil)))) ?_
  exact Ac E (.cons .tmp (.cons .tmp (.cons (.cell E E E E) (.cons .tmp .nil)))) E E
 rw[if_neg (by simpa using h)]at hres
 clear h
 have q2:=endsS n hn hbn src dst vni
 generalize endsT n src dst vni=en at *
 obtain ⟨fr,dom⟩:=en
 dsimp only at hres q2
 ((first|refine rG Γ hm ?_|refine rD Γ hm qq ?_);(conv=>whnf);repeat((first|refine aF ?_|refine aT ?_);(first|refine rG Γ hm ?_|refine rD Γ hm qq ?_);conv=>whnf))
 refine Ah q2 F150 E E E E E ?_
 ((first|refine rG Γ hm ?_|refine rD Γ hm qq ?_);(conv=>whnf);repeat((first|refine aF ?_|refine aT ?_);(first|refine rG Γ hm ?_|refine rD Γ hm qq ?_);conv=>whnf))
 refine⟨fun h=>?_,fun h=>?_⟩
 ·rw[if_pos (of_decide_eq_true h)]at hres
  subst hres
  ((first|refine rG Γ hm ?_|refine rD Γ hm qq ?_);(conv=>whnf);repeat((first|refine aF ?_|refine aT ?_);(first|refine rG Γ hm ?_|refine rD Γ hm qq ?_);conv=>whnf))
  refine A0 6 zF E (.cons (.refl _) (.cons (.refl _) (.cons (.refl _) (.cons .nil .nil)))) ?_
  exact Ac E (.cons .tmp (.cons .tmp (.cons (.cell E E E E) (.cons .tmp .nil)))) E E
 rw[if_neg (of_decide_eq_false h)]at hres
 clear h
 have qg:=Jf f.src qn
 ((first|refine rG Γ hm ?_|refine rD Γ hm qq ?_);(conv=>whnf);repeat((first|refine aF ?_|refine aT ?_);(first|refine rG Γ hm ?_|refine rD Γ hm qq ?_);conv=>whnf))
 refine Ah qg F96 E E E E E ?_
 cases hg:E6 f.src
 rotate_left
 ·rw[if_pos hg]at hres
  subst hres
  ((first|refine rG Γ hm ?_|refine rD Γ hm qq ?_);(conv=>whnf);repeat((first|refine aF ?_|refine aT ?_);(first|refine rG Γ hm ?_|refine rD Γ hm qq ?_);conv=>whnf))
  refine A0 6 zF E (.cons (.refl _) (.cons (.refl _) (.cons (.refl _) (.cons .nil .nil)))) ?_
  exact Ac E (.cons .tmp (.cons .tmp (.cons (.cell E E E E) (.cons .tmp .nil)))) E E
 rw[if_neg (by rw[hg];decide)]at hres
 subst hres
 ((first|refine rG Γ hm ?_|refine rD Γ hm qq ?_);(conv=>whnf);repeat((first|refine aF ?_|refine aT ?_);(first|refine rG Γ hm ?_|refine rD Γ hm qq ?_);conv=>whnf))
 refine⟨qq,?_⟩
 ((conv=>whnf);repeat((first|refine aF ?_|refine aT ?_);(first|refine rG Γ hm ?_|refine rD Γ hm qq ?_);conv=>whnf))
 exact Ac E (.cons .tmp (.cons .tmp (.cons (.cell E E E E) (.cons .tmp .nil)))) E E
theorem Amc {n:Net} (hb:Af n=true) {d:Int} (hd:DomIn n d) (hi:0≤(n.domains[d.toNat]'hd.2).irb) :
  ∃ h:(n.domains[d.toNat]'hd.2).irb.toNat<n.irbs.length,(n.irbs[(n.domains[d.toNat]'hd.2).irb.toNat]'h).domain=d:=by
 simp only[Af,Bool.and_eq_true]at hb
 have:=allB_iff.1 hb.1.1.1.1.1.1.1.2 _ hd.2
 simp only[Km,Bool.and_eq_true,Bool.or_eq_true,beq_iff_eq]at this
 have h2:=this.1.2
 rcases h2 with h2 | ⟨h2,h3⟩
 ·omega
 ·have h4:=Bk h2
  have h5:(n.domains[d.toNat]'hd.2).irb.toNat<n.irbs.length:=by omega
  rw[Ao h5]at h3
  have:=hd.1
  exact⟨h5,by omega⟩
theorem Z6 (n:Net) (hn:n.Fin) (hm0:n.Num) (dom:Int) (m:Nat) :
  Sy.Spec Tryz.prog 102 [Aq n,Aa dom,A7 m] [] (.tup [Aa (routerT n dom m).1,Ad (routerT n dom m).2]) []:=Ab Γ hm 100 F102 Tryz.ntmps102 rfl fun F hF=>by
 have hres:=routerT.eq_1 n dom m
 generalize routerT n dom m=res at *
 have hr:=Bi n hn
 ((conv=>whnf);repeat((first|refine aF ?_|refine aT ?_);(first|refine rG Γ hm ?_|refine rD Γ hm qq ?_);conv=>whnf))
 refine⟨fun h=>?_,fun h=>?_⟩
 ·have hp:Ag dom n.domains.length=false:=by
   cases hx:Ag dom n.domains.length
   ·rfl
   ·have:=Bk hx;have:=of_decide_eq_true h;omega
  rw[if_pos (.inl hp)]at hres
  subst hres
  ((first|refine rG Γ hm ?_|refine rD Γ hm qq ?_);(conv=>whnf);repeat((first|refine aF ?_|refine aT ?_);(first|refine rG Γ hm ?_|refine rD Γ hm qq ?_);conv=>whnf))
  exact Ac E (.cons .tmp (.cons .tmp .nil)) E E
 have h0:0≤dom:=by have:=of_decide_eq_false h;omega
 clear h
 ((first|refine rG Γ hm ?_|refine rD Γ hm qq ?_);(conv=>whnf);repeat((first|refine aF ?_|refine aT ?_);(first|refine rG Γ hm ?_|refine rD Γ hm qq ?_);conv=>whnf))
 refine⟨fun h=>?_,fun h=>?_⟩
 ·have hp:Ag dom n.domains.length=false:=by
   cases hx:Ag dom n.domains.length
   ·rfl
   ·have:=Bk hx;have:=of_decide_eq_true h;omega
  rw[if_pos (.inl hp)]at hres
  subst hres
  ((first|refine rG Γ hm ?_|refine rD Γ hm qq ?_);(conv=>whnf);repeat((first|refine aF ?_|refine aT ?_);(first|refine rG Γ hm ?_|refine rD Γ hm qq ?_);conv=>whnf))
  exact Ac E (.cons .tmp (.cons .tmp .nil)) E E
 have h1:dom<n.domains.length:=by have:=of_decide_eq_false h;omega
 clear h
 have hpl:Ag dom n.domains.length=true:=Ir ⟨h0,h1⟩
 ((first|refine rG Γ hm ?_|refine rD Γ hm qq ?_);(conv=>whnf);repeat((first|refine aF ?_|refine aT ?_);(first|refine rG Γ hm ?_|refine rD Γ hm qq ?_);conv=>whnf))
 refine Ah hr F20 E E E E E ?_
 cases hbn:Af n
 ·rw[if_pos (.inr hbn)]at hres
  subst hres
  ((first|refine rG Γ hm ?_|refine rD Γ hm qq ?_);(conv=>whnf);repeat((first|refine aF ?_|refine aT ?_);(first|refine rG Γ hm ?_|refine rD Γ hm qq ?_);conv=>whnf))
  exact Ac E (.cons .tmp (.cons .tmp .nil)) E E
 rw[if_neg (by simp[hbn,hpl])]at hres
 have hd:=Ic hpl
 have e2:nth n.domains dom=n.domains[dom.toNat]'hd.2:=Ao hd.2
 have hir:=Amc hbn hd
 obtain ⟨d,hdd⟩:∃ d,n.domains[dom.toNat]'hd.2=d:=⟨_,rfl⟩
 simp only[hdd]at e2 hir
 rw[e2]at hres
 ((first|refine rG Γ hm ?_|refine rD Γ hm qq ?_);(conv=>whnf);repeat((first|refine aF ?_|refine aT ?_);(first|refine rG Γ hm ?_|refine rD Γ hm qq ?_);conv=>whnf))
 refine⟨E,hd.1,hd.2,?_⟩
 rw[hdd]
 ((conv=>whnf);repeat((first|refine aF ?_|refine aT ?_);(first|refine rG Γ hm ?_|refine rD Γ hm qq ?_);conv=>whnf))
 refine⟨fun h=>?_,fun h=>?_⟩
 ·rw[if_pos (.inl (of_decide_eq_true h))]at hres
  subst hres
  ((first|refine rG Γ hm ?_|refine rD Γ hm qq ?_);(conv=>whnf);repeat((first|refine aF ?_|refine aT ?_);(first|refine rG Γ hm ?_|refine rD Γ hm qq ?_);conv=>whnf))
  exact Ac E (.cons .tmp (.cons .tmp .nil)) E E
 have hi0:0≤d.irb:=by have:=of_decide_eq_false h;omega
 clear h
 obtain ⟨hi1,hi2⟩:=hir hi0
 have ha:=hm0.addr _ (List.getElem_mem hi1)
 rw[Ao hi1]at hres
 obtain ⟨x,hx⟩:∃ x,n.irbs[d.irb.toNat]'hi1=x:=⟨_,rfl⟩
 rw[hx]at ha hres
 obtain ⟨a,hae⟩:=Int.eq_ofNat_of_zero_le ha.1
 have qh:=Abt a qn
 rw[← hae]at qh
 ((first|refine rG Γ hm ?_|refine rD Γ hm qq ?_);(conv=>whnf);repeat((first|refine aF ?_|refine aT ?_);(first|refine rG Γ hm ?_|refine rD Γ hm qq ?_);conv=>whnf))
 refine⟨E,hi0,hi1,?_⟩
 rw[hx]
 ((conv=>whnf);repeat((first|refine aF ?_|refine aT ?_);(first|refine rG Γ hm ?_|refine rD Γ hm qq ?_);conv=>whnf))
 refine Ah qh F134 E E E E E ?_
 ((first|refine rG Γ hm ?_|refine rD Γ hm qq ?_);(conv=>whnf);repeat((first|refine aF ?_|refine aT ?_);(first|refine rG Γ hm ?_|refine rD Γ hm qq ?_);conv=>whnf))
 refine⟨fun h=>?_,fun h=>?_⟩
 ·have hne:Hp x.addr≠m:=fun e=>by
   rw[e]at h
   simp at h
  rw[if_pos (.inr hne)]at hres
  subst hres
  ((first|refine rG Γ hm ?_|refine rD Γ hm qq ?_);(conv=>whnf);repeat((first|refine aF ?_|refine aT ?_);(first|refine rG Γ hm ?_|refine rD Γ hm qq ?_);conv=>whnf))
  exact Ac E (.cons .tmp (.cons .tmp .nil)) E E
 ·have heq:Hp x.addr=m:=by
   have:(Hp x.addr:Int)=(m:Int):=by simpa using h
   omega
  rw[if_neg (fun h=>h.elim qn (fun h2=>h2 heq))]at hres
  subst hres
  ((first|refine rG Γ hm ?_|refine rD Γ hm qq ?_);(conv=>whnf);repeat((first|refine aF ?_|refine aT ?_);(first|refine rG Γ hm ?_|refine rD Γ hm qq ?_);conv=>whnf))
  exact Ac E (.cons .tmp (.cons .tmp .nil)) E E
theorem Wt {n:Net} {i:Int} (h:Ag i n.irbs.length=true):InIrbs n i:=by
 have:=Bk h
 exact⟨this.1,by omega⟩
theorem Al5 {p:PacketM} (h:PacketOK p):PacketOK (Ad5 p):=⟨h.tos,h.id,by have:=h.ttl;show p.ttl-1≤255;omega,h.proto,h.src,h.dst⟩
theorem Ad0 (p:PacketM):ipPutT (Ad5 p)=if 1480<p.body.length then ([],14) else (Tv (Ad5 p),0):=rfl
theorem Agm (n:Net) (hn:n.Fin) (hm0:n.Num) (irb:Int) (f:FrameM) (hf:FrameOK f) :
  Sy.Spec Tryz.prog 103 [Aq n,Aa irb,By f] [] (.tup [Aa (hopT n irb f).1,By (hopT n irb f).2.1,Aa (hopT n irb f).2.2]) []:=Ab Γ hm 100 F103 Tryz.ntmps103 rfl fun F hF=>by
 have hres:=hopT.eq_1 n irb f
 generalize hopT n irb f=res at *
 have hr:=Bi n hn
 have hb:=hf.body
 ((conv=>whnf);repeat((first|refine aF ?_|refine aT ?_);(first|refine rG Γ hm ?_|refine rD Γ hm qq ?_);conv=>whnf))
 refine⟨fun h=>?_,fun h=>?_⟩
 ·have hp:Ag irb n.irbs.length=false:=by
   cases hx:Ag irb n.irbs.length
   ·rfl
   ·have:=Bk hx;have:=of_decide_eq_true h;omega
  rw[if_pos (.inl hp)]at hres
  subst hres
  ((first|refine rG Γ hm ?_|refine rD Γ hm qq ?_);(conv=>whnf);repeat((first|refine aF ?_|refine aT ?_);(first|refine rG Γ hm ?_|refine rD Γ hm qq ?_);conv=>whnf))
  refine A0 7 zF E (.cons (.refl _) (.cons (.refl _) (.cons (.refl _) (.cons .nil .nil)))) ?_
  exact Ac E (.cons .tmp (.cons (.cell E E E E) (.cons .tmp .nil))) E E
 have h0:0≤irb:=by have:=of_decide_eq_false h;omega
 clear h
 ((first|refine rG Γ hm ?_|refine rD Γ hm qq ?_);(conv=>whnf);repeat((first|refine aF ?_|refine aT ?_);(first|refine rG Γ hm ?_|refine rD Γ hm qq ?_);conv=>whnf))
 refine⟨fun h=>?_,fun h=>?_⟩
 ·have hp:Ag irb n.irbs.length=false:=by
   cases hx:Ag irb n.irbs.length
   ·rfl
   ·have:=Bk hx;have:=of_decide_eq_true h;omega
  rw[if_pos (.inl hp)]at hres
  subst hres
  ((first|refine rG Γ hm ?_|refine rD Γ hm qq ?_);(conv=>whnf);repeat((first|refine aF ?_|refine aT ?_);(first|refine rG Γ hm ?_|refine rD Γ hm qq ?_);conv=>whnf))
  refine A0 7 zF E (.cons (.refl _) (.cons (.refl _) (.cons (.refl _) (.cons .nil .nil)))) ?_
  exact Ac E (.cons .tmp (.cons (.cell E E E E) (.cons .tmp .nil))) E E
 have h1:irb<n.irbs.length:=by have:=of_decide_eq_false h;omega
 clear h
 have hpl:Ag irb n.irbs.length=true:=Ir ⟨h0,h1⟩
 ((first|refine rG Γ hm ?_|refine rD Γ hm qq ?_);(conv=>whnf);repeat((first|refine aF ?_|refine aT ?_);(first|refine rG Γ hm ?_|refine rD Γ hm qq ?_);conv=>whnf))
 refine Ah hr F20 E E E E E ?_
 cases hbn:Af n
 ·rw[if_pos (.inr hbn)]at hres
  subst hres
  ((first|refine rG Γ hm ?_|refine rD Γ hm qq ?_);(conv=>whnf);repeat((first|refine aF ?_|refine aT ?_);(first|refine rG Γ hm ?_|refine rD Γ hm qq ?_);conv=>whnf))
  refine A0 7 zF E (.cons (.refl _) (.cons (.refl _) (.cons (.refl _) (.cons .nil .nil)))) ?_
  exact Ac E (.cons .tmp (.cons (.cell E E E E) (.cons .tmp .nil))) E E
 rw[if_neg (by simp[hbn,hpl])]at hres
 refine B0 3 8 (Aq n) E E E ?_
 refine B0 5 4 (By f) E E E ?_
 ((first|refine rG Γ hm ?_|refine rD Γ hm qq ?_);(conv=>whnf);repeat((first|refine aF ?_|refine aT ?_);(first|refine rG Γ hm ?_|refine rD Γ hm qq ?_);conv=>whnf))
 refine⟨fun h=>?_,fun h=>?_⟩
 ·rw[if_pos (by have:¬ (f.typ:Int)=2048:=(by simpa using h);omega)]at hres
  subst hres
  ((first|refine rG Γ hm ?_|refine rD Γ hm qq ?_);(conv=>whnf);repeat((first|refine aF ?_|refine aT ?_);(first|refine rG Γ hm ?_|refine rD Γ hm qq ?_);conv=>whnf))
  refine A0 7 zF E (.cons (.refl _) (.cons (.refl _) (.cons (.refl _) (.cons .nil .nil)))) ?_
  exact Ac E (.cons .tmp (.cons (.cell E E E E) (.cons .tmp .nil))) E E
 rw[if_neg (by have:(f.typ:Int)=2048:=(by simpa using h);omega)]at hres
 clear h
 have q1:=Afj f.body qn
 have hok:=@Vu f.body
 generalize ipTakeT f.body=tk at *
 obtain ⟨p,e⟩:=tk
 dsimp only at hres q1 hok
 ((first|refine rG Γ hm ?_|refine rD Γ hm qq ?_);(conv=>whnf);repeat((first|refine aF ?_|refine aT ?_);(first|refine rG Γ hm ?_|refine rD Γ hm qq ?_);conv=>whnf))
 refine Ah q1 F135 E E E E E ?_
 ((first|refine rG Γ hm ?_|refine rD Γ hm qq ?_);(conv=>whnf);repeat((first|refine aF ?_|refine aT ?_);(first|refine rG Γ hm ?_|refine rD Γ hm qq ?_);conv=>whnf))
 by_cases he:e=0
 rotate_left
 ·rw[if_pos he]at hres
  subst hres
  refine⟨fun h=>absurd (show e=0 by simpa using h) he,fun _=>?_⟩
  ((first|refine rG Γ hm ?_|refine rD Γ hm qq ?_);(conv=>whnf);repeat((first|refine aF ?_|refine aT ?_);(first|refine rG Γ hm ?_|refine rD Γ hm qq ?_);conv=>whnf))
  refine⟨fun _=>?_,fun h=>absurd (show e=0 by simpa using h) he⟩
  ((first|refine rG Γ hm ?_|refine rD Γ hm qq ?_);(conv=>whnf);repeat((first|refine aF ?_|refine aT ?_);(first|refine rG Γ hm ?_|refine rD Γ hm qq ?_);conv=>whnf))
  refine A0 7 zF E (.cons (.refl _) (.cons (.refl _) (.cons (.refl _) (.cons .nil .nil)))) ?_
  exact Ac E (.cons .tmp (.cons (.cell E E E E) (.cons .tmp .nil))) E E
 subst he
 rw[if_neg qy]at hres
 obtain ⟨hpo,hpb⟩:=hok rfl
 have hpt:=hpo.ttl
 have hpd:=hpo.dst
 have q2:=ipHopS p qn hpt
 (refine⟨fun _=>?_,fun h=>False.elim (by first | (exact absurd h qx) | (simp at h;done) | (simp at h;omega))⟩;((first|refine rG Γ hm ?_|refine rD Γ hm qq ?_);(conv=>whnf);repeat((first|refine aF ?_|refine aT ?_);(first|refine rG Γ hm ?_|refine rD Γ hm qq ?_);conv=>whnf)))
 by_cases ht:p.ttl≤1
 ·rw[if_pos ht]at hres
  subst hres
  rw[hop1,if_pos ht]at q2
  refine Ah q2 F136 E E E E E ?_
  ((first|refine rG Γ hm ?_|refine rD Γ hm qq ?_);(conv=>whnf);repeat((first|refine aF ?_|refine aT ?_);(first|refine rG Γ hm ?_|refine rD Γ hm qq ?_);conv=>whnf))
  refine A0 7 zF E (.cons (.refl _) (.cons (.refl _) (.cons (.refl _) (.cons .nil .nil)))) ?_
  exact Ac E (.cons .tmp (.cons (.cell E E E E) (.cons .tmp .nil))) E E
 rw[if_neg ht]at hres
 rw[hop1,if_neg ht]at q2
 refine Ah q2 F136 E E E E E ?_
 have q3:=Al1 n hn hbn irb p.dst (Wt hpl)
 have hth:=fun h=>@Abg n irb p.dst h
 generalize lookT n irb p.dst=lk at *
 obtain ⟨to,ok⟩:=lk
 dsimp only at hres q3 hth
 ((first|refine rG Γ hm ?_|refine rD Γ hm qq ?_);(conv=>whnf);repeat((first|refine aF ?_|refine aT ?_);(first|refine rG Γ hm ?_|refine rD Γ hm qq ?_);conv=>whnf))
 refine Ah q3 F137 E E E E E ?_
 cases ok
 ·rw[if_pos rfl]at hres
  subst hres
  ((first|refine rG Γ hm ?_|refine rD Γ hm qq ?_);(conv=>whnf);repeat((first|refine aF ?_|refine aT ?_);(first|refine rG Γ hm ?_|refine rD Γ hm qq ?_);conv=>whnf))
  refine A0 7 zF E (.cons (.refl _) (.cons (.refl _) (.cons (.refl _) (.cons .nil .nil)))) ?_
  exact Ac E (.cons .tmp (.cons (.cell E E E E) (.cons .tmp .nil))) E E
 rw[if_neg qx]at hres
 have hto:=hth rfl
 have hpp:=Ad0 p
 have q4:=Afk (Ad5 p) (Al5 hpo) (by show p.body.length<100000;omega)
 rw[hpp]at q4
 clear hpp
 by_cases hl:1480<p.body.length
 ·rw[if_pos hl]at hres q4
  subst hres
  ((first|refine rG Γ hm ?_|refine rD Γ hm qq ?_);(conv=>whnf);repeat((first|refine aF ?_|refine aT ?_);(first|refine rG Γ hm ?_|refine rD Γ hm qq ?_);conv=>whnf))
  refine Ah q4 F138 E E E E E ?_
  ((first|refine rG Γ hm ?_|refine rD Γ hm qq ?_);(conv=>whnf);repeat((first|refine aF ?_|refine aT ?_);(first|refine rG Γ hm ?_|refine rD Γ hm qq ?_);conv=>whnf))
  refine A0 7 zF E (.cons (.refl _) (.cons (.refl _) (.cons (.refl _) (.cons .nil .nil)))) ?_
  exact Ac E (.cons .tmp (.cons (.cell E E E E) (.cons .tmp .nil))) E E
 rw[if_neg hl]at hres q4
 have ha:=hm0.addr _ (List.getElem_mem hto.2)
 rw[Ao hto.2]at hres
 obtain ⟨x,hx⟩:∃ x,n.irbs[to.toNat]'hto.2=x:=⟨_,rfl⟩
 rw[hx]at ha hres
 obtain ⟨a,hae⟩:=Int.eq_ofNat_of_zero_le ha.1
 have qh:=Abt a qn
 rw[← hae]at qh
 have qd:=Abt p.dst hpd
 subst hres
 ((first|refine rG Γ hm ?_|refine rD Γ hm qq ?_);(conv=>whnf);repeat((first|refine aF ?_|refine aT ?_);(first|refine rG Γ hm ?_|refine rD Γ hm qq ?_);conv=>whnf))
 refine Ah q4 F138 E E E E E ?_
 ((first|refine rG Γ hm ?_|refine rD Γ hm qq ?_);(conv=>whnf);repeat((first|refine aF ?_|refine aT ?_);(first|refine rG Γ hm ?_|refine rD Γ hm qq ?_);conv=>whnf))
 refine⟨E,hto.1,hto.2,?_⟩
 rw[hx]
 ((conv=>whnf);repeat((first|refine aF ?_|refine aT ?_);(first|refine rG Γ hm ?_|refine rD Γ hm qq ?_);conv=>whnf))
 refine An qd F134 E E E qq E ?_
 ((first|refine rG Γ hm ?_|refine rD Γ hm qq ?_);(conv=>whnf);repeat((first|refine aF ?_|refine aT ?_);(first|refine rG Γ hm ?_|refine rD Γ hm qq ?_);conv=>whnf))
 refine⟨E,hto.1,hto.2,?_⟩
 rw[hx]
 ((conv=>whnf);repeat((first|refine aF ?_|refine aT ?_);(first|refine rG Γ hm ?_|refine rD Γ hm qq ?_);conv=>whnf))
 refine An qh F134 E E E qq E ?_
 ((first|refine rG Γ hm ?_|refine rD Γ hm qq ?_);(conv=>whnf);repeat((first|refine aF ?_|refine aT ?_);(first|refine rG Γ hm ?_|refine rD Γ hm qq ?_);conv=>whnf))
 refine⟨qq,?_⟩
 ((conv=>whnf);repeat((first|refine aF ?_|refine aT ?_);(first|refine rG Γ hm ?_|refine rD Γ hm qq ?_);conv=>whnf))
 exact Ac E (.cons .tmp (.cons (.cell E E E E) (.cons .tmp .nil))) E E
theorem Aeg (f:FrameM) (hb:f.body.length<100000):Sy.Spec Tryz.prog 151 [By f] [] (By f) []:=Ab Γ hm 100 F151 Tryz.ntmps151 rfl fun F hF=>by
 ((conv=>whnf);repeat((first|refine aF ?_|refine aT ?_);(first|refine rG Γ hm ?_|refine rD Γ hm qq ?_);conv=>whnf))
 refine Ai (Bw Γ.toTy (d:=7) (n:=f.body.length) Ak 0 E E E E E E E E qn qn E E E) E E ?_
 ((first|refine rG Γ hm ?_|refine rD Γ hm qq ?_);(conv=>whnf);repeat((first|refine aF ?_|refine aT ?_);(first|refine rG Γ hm ?_|refine rD Γ hm qq ?_);conv=>whnf))
 refine Ai (Sj Γ.toTy (l:=List.replicate f.body.length 0) (m:=f.body) E E E E E .sl) E E ?_
 ((first|refine rG Γ hm ?_|refine rD Γ hm qq ?_);(conv=>whnf);repeat((first|refine aF ?_|refine aT ?_);(first|refine rG Γ hm ?_|refine rD Γ hm qq ?_);conv=>whnf))
 refine Au 7 E ?_
 ((first|refine rG Γ hm ?_|refine rD Γ hm qq ?_);(conv=>whnf);repeat((first|refine aF ?_|refine aT ?_);(first|refine rG Γ hm ?_|refine rD Γ hm qq ?_);conv=>whnf))
 refine Ac E (.cons (.cell E E E E) .nil) ?_ E
 show SV.agg [_,_,_,.sl 1 Ak f.body]=SV.agg [_,_,_,.sl 1 Ak (f.body.take (List.replicate f.body.length (0:UInt8)).length++(List.replicate f.body.length (0:UInt8)).drop f.body.length)]
 have e:f.body.take (List.replicate f.body.length (0:UInt8)).length++(List.replicate f.body.length (0:UInt8)).drop f.body.length=f.body:=by
  rw[List.length_replicate,List.take_length,List.drop_eq_nil_of_le qy,List.append_nil]
 rw[e]
 rfl
theorem Zr (q:QueuedM) (hb:q.frame.body.length<100000):Sy.Spec Tryz.prog 114 [Bj q] [] (Bj q) []:=Ab Γ hm 100 F114 Tryz.ntmps114 rfl fun F hF=>by
 have qc:=Aeg q.frame hb
 ((conv=>whnf);repeat((first|refine aF ?_|refine aT ?_);(first|refine rG Γ hm ?_|refine rD Γ hm qq ?_);conv=>whnf))
 refine Ah qc F151 E E E E E ?_
 ((first|refine rG Γ hm ?_|refine rD Γ hm qq ?_);(conv=>whnf);repeat((first|refine aF ?_|refine aT ?_);(first|refine rG Γ hm ?_|refine rD Γ hm qq ?_);conv=>whnf))
 exact Ac E (.cons (.cell E E E E) .nil) E E
def Lo (l:List QueuedM):Prop:=∀ q∈l,q.frame.body.length<100000
theorem Amj (l:List QueuedM) (hl:l.length<1000000) (hb:Lo l):Sy.Spec Tryz.prog 113 [.sl 7 Bj l] [] (.osl 0) [(0,.row 7 Bj l)]:=Ab Γ hm 100 F113 Tryz.ntmps113 rfl fun F hF=>by
 ((conv=>whnf);repeat((first|refine aF ?_|refine aT ?_);(first|refine rG Γ hm ?_|refine rD Γ hm qq ?_);conv=>whnf))
 refine Cc 3 1000 7 Bj E E ?_
 refine A2 l.length (fun j=>[(3,.osl 1000),(6,.sl 7 Bj l),(7,Aa l.length),(8,Aa j)]) (fun j=>[(1000,.row 7 Bj (l.take j))]) [] ⟨⟨E,E,E,E,E,E,E,E,Y⟩,⟨.inl E,E,Y⟩,E,E⟩ ?_
 intro j hj
 ((first|refine rG Γ hm ?_|refine rD Γ hm qq ?_);(conv=>whnf);repeat((first|refine aF ?_|refine aT ?_);(first|refine rG Γ hm ?_|refine rD Γ hm qq ?_);conv=>whnf))
 refine⟨fun h=>?_,fun h=>?_⟩
 ·have hlt:j<l.length:=by have:=of_decide_eq_true h;omega
  have hj0:((j:Nat):Int).toNat<l.length:=by simpa using hlt
  obtain ⟨q,hq⟩:∃ q,l[j]=q:=⟨_,rfl⟩
  have e1:l[((j:Nat):Int).toNat]'hj0=q:=hq
  have hs:l.take (j+1)=l.take j++[q]:=by rw[List.take_succ_eq_append_getElem hlt,hq]
  have hqb:=hb q (by rw[← hq];exact List.getElem_mem hlt)
  have hll:(l.take j).length=j:=by rw[List.length_take];omega
  clear h
  ((first|refine rG Γ hm ?_|refine rD Γ hm qq ?_);(conv=>whnf);repeat((first|refine aF ?_|refine aT ?_);(first|refine rG Γ hm ?_|refine rD Γ hm qq ?_);conv=>whnf))
  refine⟨E,by omega,hj0,?_⟩
  rw[e1]
  ((conv=>whnf);repeat((first|refine aF ?_|refine aT ?_);(first|refine rG Γ hm ?_|refine rD Γ hm qq ?_);conv=>whnf))
  refine Ah (Zr q hqb) F114 E E E E E ?_
  ((first|refine rG Γ hm ?_|refine rD Γ hm qq ?_);(conv=>whnf);repeat((first|refine aF ?_|refine aT ?_);(first|refine rG Γ hm ?_|refine rD Γ hm qq ?_);conv=>whnf))
  refine Ai (Al Γ.toTy 16 E E E E E (.row E) (.lit (e:=Bj) (l:=[q]) E E) qy (by rw[hll];simp;omega) (by rw[hll];simp;omega)) E E ?_
  ((first|refine rG Γ hm ?_|refine rD Γ hm qq ?_);(conv=>whnf);repeat((first|refine aF ?_|refine aT ?_);(first|refine rG Γ hm ?_|refine rD Γ hm qq ?_);conv=>whnf))
  refine⟨by unfold I64;omega,?_⟩
  ((conv=>whnf);repeat((first|refine aF ?_|refine aT ?_);(first|refine rG Γ hm ?_|refine rD Γ hm qq ?_);conv=>whnf))
  exact Av [(1000,16)] hlt ⟨⟨E,E,E,E,E,E,E,E,Y⟩,⟨.inl (congrArg (Ob.row 7 Bj) hs),E,Y⟩,E,E⟩
 ·have hjj:j=l.length:=by have:=of_decide_eq_false h;omega
  subst hjj
  rw[List.take_length]
  ((first|refine rG Γ hm ?_|refine rD Γ hm qq ?_);(conv=>whnf);repeat((first|refine aF ?_|refine aT ?_);(first|refine rG Γ hm ?_|refine rD Γ hm qq ?_);conv=>whnf))
  exact done E (.cons .tmp .nil) [(0,1000)] [(0,.row 7 Bj l)] (fun _ h=>h) E E ⟨Y,⟨.inl E,E,Y⟩,E,E⟩
theorem Aa0 (l:List QueuedM) (q:QueuedM) (hl:l.length<1000000) (hb:Lo l) (hqb:q.frame.body.length<100000) :
  Sy.Spec Tryz.prog 99 [.sl 7 Bj l,Bj q] [] (.tup [.sl 7 Bj (pushT l q).1,Ad (pushT l q).2]) []:=Ab Γ hm 100 F99 Tryz.ntmps99 rfl fun F hF=>by
 have hres:=pushT.eq_1 l q
 generalize pushT l q=res at *
 ((conv=>whnf);repeat((first|refine aF ?_|refine aT ?_);(first|refine rG Γ hm ?_|refine rD Γ hm qq ?_);conv=>whnf))
 refine Ai (Aj [(0,55)] E F113 (Amj l hl hb) E Y E ⟨.inr E,Y⟩) E E ?_
 ((first|refine rG Γ hm ?_|refine rD Γ hm qq ?_);(conv=>whnf);repeat((first|refine aF ?_|refine aT ?_);(first|refine rG Γ hm ?_|refine rD Γ hm qq ?_);conv=>whnf))
 refine⟨fun h=>?_,fun h=>?_⟩
 ·rw[if_pos (by have:=of_decide_eq_true h;omega)]at hres
  subst hres
  ((first|refine rG Γ hm ?_|refine rD Γ hm qq ?_);(conv=>whnf);repeat((first|refine aF ?_|refine aT ?_);(first|refine rG Γ hm ?_|refine rD Γ hm qq ?_);conv=>whnf))
  refine Au 55 E ?_
  exact Ac E (.cons .tmp (.cons .tmp .nil)) E E
 ·rw[if_neg (by have:=of_decide_eq_false h;omega)]at hres
  subst hres
  ((first|refine rG Γ hm ?_|refine rD Γ hm qq ?_);(conv=>whnf);repeat((first|refine aF ?_|refine aT ?_);(first|refine rG Γ hm ?_|refine rD Γ hm qq ?_);conv=>whnf))
  refine Ah (Zr q hqb) F114 E E E E E ?_
  ((first|refine rG Γ hm ?_|refine rD Γ hm qq ?_);(conv=>whnf);repeat((first|refine aF ?_|refine aT ?_);(first|refine rG Γ hm ?_|refine rD Γ hm qq ?_);conv=>whnf))
  refine Ai (Al Γ.toTy 17 E E E E E (.row E) (.lit (e:=Bj) (l:=[q]) E E) qx (by simp;omega) (by simp;omega)) E E ?_
  refine Au 17 E ?_
  ((first|refine rG Γ hm ?_|refine rD Γ hm qq ?_);(conv=>whnf);repeat((first|refine aF ?_|refine aT ?_);(first|refine rG Γ hm ?_|refine rD Γ hm qq ?_);conv=>whnf))
  exact Ac E (.cons .tmp (.cons .tmp .nil)) E E
theorem Adc (l:List QueuedM) (at_:Int) (hl:l.length<1000000) (hb:Lo l) :
  Sy.Spec Tryz.prog 72 [.sl 7 Bj l,Aa at_] [] (.tup [Bj (takeT l at_).1,.sl 7 Bj (takeT l at_).2.1,Ad (takeT l at_).2.2]) []:=Ab Γ hm 100 F72 Tryz.ntmps72 rfl fun F hF=>by
 have hres:=takeT.eq_1 l at_
 generalize takeT l at_=res at *
 ((conv=>whnf);repeat((first|refine aF ?_|refine aT ?_);(first|refine rG Γ hm ?_|refine rD Γ hm qq ?_);conv=>whnf))
 refine⟨fun h=>?_,fun h=>?_⟩
 ·rw[if_pos (.inl (of_decide_eq_true h))]at hres
  subst hres
  ((first|refine rG Γ hm ?_|refine rD Γ hm qq ?_);(conv=>whnf);repeat((first|refine aF ?_|refine aT ?_);(first|refine rG Γ hm ?_|refine rD Γ hm qq ?_);conv=>whnf))
  refine Ai (Aj [(0,55)] E F113 (Amj l hl hb) E Y E ⟨.inr E,Y⟩) E E ?_
  refine Au 55 E ?_
  ((first|refine rG Γ hm ?_|refine rD Γ hm qq ?_);(conv=>whnf);repeat((first|refine aF ?_|refine aT ?_);(first|refine rG Γ hm ?_|refine rD Γ hm qq ?_);conv=>whnf))
  refine A0 4 [Aa 0,Aa 0,Aa 0,A7 0,A7 0,Aa 0,.sl 1 Ak []] E (.cons (.refl _) (.cons (.refl _) (.cons (.refl _) (.cons (.refl _) (.cons (.refl _) (.cons (.refl _) (.cons .nil .nil))))))) ?_
  exact Ac E (.cons (.cell E E E E) (.cons .tmp (.cons .tmp .nil))) E E
 have h0:0≤at_:=by have:=of_decide_eq_false h;omega
 clear h
 ((first|refine rG Γ hm ?_|refine rD Γ hm qq ?_);(conv=>whnf);repeat((first|refine aF ?_|refine aT ?_);(first|refine rG Γ hm ?_|refine rD Γ hm qq ?_);conv=>whnf))
 refine⟨fun h=>?_,fun h=>?_⟩
 ·rw[if_pos (.inr (of_decide_eq_true h))]at hres
  subst hres
  ((first|refine rG Γ hm ?_|refine rD Γ hm qq ?_);(conv=>whnf);repeat((first|refine aF ?_|refine aT ?_);(first|refine rG Γ hm ?_|refine rD Γ hm qq ?_);conv=>whnf))
  refine Ai (Aj [(0,55)] E F113 (Amj l hl hb) E Y E ⟨.inr E,Y⟩) E E ?_
  refine Au 55 E ?_
  ((first|refine rG Γ hm ?_|refine rD Γ hm qq ?_);(conv=>whnf);repeat((first|refine aF ?_|refine aT ?_);(first|refine rG Γ hm ?_|refine rD Γ hm qq ?_);conv=>whnf))
  refine A0 4 [Aa 0,Aa 0,Aa 0,A7 0,A7 0,Aa 0,.sl 1 Ak []] E (.cons (.refl _) (.cons (.refl _) (.cons (.refl _) (.cons (.refl _) (.cons (.refl _) (.cons (.refl _) (.cons .nil .nil))))))) ?_
  exact Ac E (.cons (.cell E E E E) (.cons .tmp (.cons .tmp .nil))) E E
 have h1:at_<l.length:=by have:=of_decide_eq_false h;omega
 clear h
 have hk:at_.toNat<l.length:=by omega
 have hne:l≠[]:=fun e=>by rw[e]at hk;simp at hk
 have hkk:((at_.toNat:Nat):Int)=at_:=by omega
 rw[if_neg qn,List.getElem?_eq_getElem hk,Option.getD_some]at hres
 obtain ⟨q,hq⟩:∃ q,l[at_.toNat]'hk=q:=⟨_,rfl⟩
 rw[hq]at hres
 have hqb:=hb q (by rw[← hq];exact List.getElem_mem hk)
 refine Amw 0 90 E hne ?_
 intro B off cap hcap
 refine run Γ hm 3 ?_
 conv=>whnf
 refine Bv (Ta 90 (.inl E) E E) qq E ?_
 ((first|refine rG Γ hm ?_|refine rD Γ hm qq ?_);(conv=>whnf);repeat((first|refine aF ?_|refine aT ?_);(first|refine rG Γ hm ?_|refine rD Γ hm qq ?_);conv=>whnf))
 refine⟨E,h0,hk,?_⟩
 rw[hq]
 ((conv=>whnf);repeat((first|refine aF ?_|refine aT ?_);(first|refine rG Γ hm ?_|refine rD Γ hm qq ?_);conv=>whnf))
 refine An (Zr q hqb) F114 E E E qq E ?_
 ((first|refine rG Γ hm ?_|refine rD Γ hm qq ?_);(conv=>whnf);repeat((first|refine aF ?_|refine aT ?_);(first|refine rG Γ hm ?_|refine rD Γ hm qq ?_);conv=>whnf))
 refine Bv (Mu (hi:=at_.toNat) Γ.toTy E E E E (congrArg (fun z=>SV.val (.int .i64 z)) hkk.symm) (congrArg (fun z=>SV.val (.int .i64 z)) hkk.symm) qn) qq E ?_
 refine Bv (Ta 90 (.inl E) E E) qq E ?_
 ((first|refine rG Γ hm ?_|refine rD Γ hm qq ?_);(conv=>whnf);repeat((first|refine aF ?_|refine aT ?_);(first|refine rG Γ hm ?_|refine rD Γ hm qq ?_);conv=>whnf))
 refine⟨by unfold I64;omega,?_⟩
 ((conv=>whnf);repeat((first|refine aF ?_|refine aT ?_);(first|refine rG Γ hm ?_|refine rD Γ hm qq ?_);conv=>whnf))
 refine Bv (Cj (lo:=at_.toNat+1) (hi:=l.length) Γ.toTy E E E E (.inr ⟨_,_,E,congrArg (fun z=>SV.val (.int .i64 z)) qn⟩) (.inl ⟨E,E⟩) qn (Nat.le_refl _)) qq E ?_
 have hll:((l.take l.length).drop (at_.toNat+1)).length=l.length-(at_.toNat+1):=by rw[List.length_drop,List.length_take];omega
 refine Bv (Mw Γ.toTy 90 E E E E E E (Nat.le_of_lt hk) E (by rw[hll];omega) (by rw[hll];omega)) qq E ?_
 have he:l.take at_.toNat++(l.take l.length).drop (at_.toNat+1)=l.eraseIdx at_.toNat:=by rw[List.take_length,List.eraseIdx_eq_take_drop_succ]
 have hel:(l.take at_.toNat++(l.take l.length).drop (at_.toNat+1)).length<1000000:=by rw[he,List.length_eraseIdx];split<;>omega
 have heb:Lo (l.take at_.toNat++(l.take l.length).drop (at_.toNat+1)):=by rw[he];exact fun x hx=>hb x (List.mem_of_mem_eraseIdx hx)
 ((first|refine rG Γ hm ?_|refine rD Γ hm qq ?_);(conv=>whnf);repeat((first|refine aF ?_|refine aT ?_);(first|refine rG Γ hm ?_|refine rD Γ hm qq ?_);conv=>whnf))
 refine Bv (Aj [(0,55)] E F113 (Amj _ hel heb) E Y E ⟨.inr E,Y⟩) qq E ?_
 ((first|refine rG Γ hm ?_|refine rD Γ hm qq ?_);(conv=>whnf);repeat((first|refine aF ?_|refine aT ?_);(first|refine rG Γ hm ?_|refine rD Γ hm qq ?_);conv=>whnf))
 refine⟨qq,?_⟩
 ((conv=>whnf);repeat((first|refine aF ?_|refine aT ?_);(first|refine rG Γ hm ?_|refine rD Γ hm qq ?_);conv=>whnf))
 refine Au 55 E ?_
 refine Ac E (.cons (.cell E E E E) (.cons .tmp (.cons .tmp .nil))) ?_ E
 subst hres
 show SV.tup [_,.sl 7 Bj (l.eraseIdx at_.toNat),_]=SV.tup [_,.sl 7 Bj (l.take at_.toNat++(l.take l.length).drop (at_.toNat+1)),_]
 rw[he]
 rfl
def D3 {α:Type} (q:α→Bool) (l:List α):Nat→Nat
 | 0=>0
 | j+1=>match l[j]? with
  | some x=>if q x=true then D3 q l j+1 else D3 q l j
  | none=>D3 q l j
def dfC {α:Type} (q:α→Bool) (l:List α):Nat→List α
 | 0=>l
 | j+1=>match l[j]? with
  | some x=>if q x=true then (dfC q l j).set (D3 q l j) x else dfC q l j
  | none=>dfC q l j
theorem Uc {α:Type} (q:α→Bool) (l:List α) (j:Nat):D3 q l j≤j:=by
 induction j with
 | zero=>exact Nat.le_refl _
 | succ j ih =>
  simp only[D3]
  split
  ·split<;>omega
  ·omega
theorem Oh {α:Type} (q:α→Bool) (l:List α) (j:Nat):(dfC q l j).length=l.length:=by
 induction j with
 | zero=>rfl
 | succ j ih =>
  simp only[dfC]
  split
  ·split
   ·rw[List.length_set];exact ih
   ·exact ih
  ·exact ih
theorem Afs {α:Type} (q:α→Bool) (l:List α) (j k:Nat) (h:j≤k):(dfC q l j)[k]? = l[k]?:=by
 induction j with
 | zero=>rfl
 | succ j ih =>
  simp only[dfC]
  split
  ·split
   ·rw[List.getElem?_set_ne (by have:=Uc q l j;omega)];exact ih qn
   ·exact ih qn
  ·exact ih qn
theorem Acc {α:Type} (q:α→Bool) (l:List α) (j:Nat) (h:j≤l.length):(dfC q l j).take (D3 q l j)=(l.take j).filter q:=by
 induction j with
 | zero=>rfl
 | succ j ih =>
  have hj:j<l.length:=by omega
  have ih:=ih qn
  have hc:=Uc q l j
  simp only[dfC,D3,List.getElem?_eq_getElem hj]
  rw[List.take_add_one,List.getElem?_eq_getElem hj,List.filter_append]
  by_cases hq:q l[j]=true
  ·rw[if_pos hq,if_pos hq]
   have hlt:D3 q l j<((dfC q l j).set (D3 q l j) l[j]).length:=by rw[List.length_set,Oh];omega
   rw[List.take_add_one,List.getElem?_eq_getElem hlt,List.getElem_set_self]
   rw[List.take_set_of_le (Nat.le_refl _),ih]
   simp[hq]
  ·rw[if_neg hq,if_neg hq,ih]
   simp[hq]
theorem X9 {α:Type} (q:α→Bool) (l:List α) (i:Nat) (hi:i≤l.length) (h:∀ k (hk:k<l.length),k<i→q l[k]=true):dfC q l i=l∧D3 q l i=i:=by
 induction i with
 | zero=>exact⟨rfl,rfl⟩
 | succ i ih =>
  obtain ⟨h1,h2⟩:=ih qn (fun k hk hki=>h k hk qn)
  have hil:i<l.length:=by omega
  simp only[dfC,D3,List.getElem?_eq_getElem hil]
  rw[if_pos (h i hil qn),if_pos (h i hil qn),h1,h2]
  exact⟨List.set_getElem_self hil,E⟩
theorem Oa {α:Type} (p:α→Bool) (l:List α):(Dn p l=-1∧∀ x∈l,p x=false)∨∃ (i:Nat) (hi:i<l.length),Dn p l=i∧p l[i]=true∧∀ k (hk:k<l.length),k<i→p l[k]=false:=by
 unfold Dn
 cases h:l.findIdx? p with
 | none=>exact .inl ⟨rfl,by simpa using h⟩
 | some i =>
  rw[List.findIdx?_eq_some_iff_getElem]at h
  obtain ⟨hi,h1,h2⟩:=h
  exact .inr ⟨i,hi,E,h1,fun k hk hki=>by simpa using h2 k hki⟩
theorem Lh (l:List EntryM) (hl:l.length<2147483648):Sy.Spec Tryz.prog 65 [.sl 3 At l] [] (.osl 0) [(0,.row 3 At l)]:=Ab Γ hm 100 F65 Tryz.ntmps65 rfl fun F hF=>by
 ((conv=>whnf);repeat((first|refine aF ?_|refine aT ?_);(first|refine rG Γ hm ?_|refine rD Γ hm qq ?_);conv=>whnf))
 refine Dc E (.inl E) E E E .sl E E ?_
 intro b hb
 cases b
 ·((first|refine rG Γ hm ?_|refine rD Γ hm qq ?_);(conv=>whnf);repeat((first|refine aF ?_|refine aT ?_);(first|refine rG Γ hm ?_|refine rD Γ hm qq ?_);conv=>whnf))
  refine Ai (Al Γ.toTy 7 E E E E E (.lit (e:=At) (l:=[]) E E) .sl qy (by simp;omega) (by simp;omega)) E E ?_
  ((first|refine rG Γ hm ?_|refine rD Γ hm qq ?_);(conv=>whnf);repeat((first|refine aF ?_|refine aT ?_);(first|refine rG Γ hm ?_|refine rD Γ hm qq ?_);conv=>whnf))
  exact done E (.cons .tmp .nil) [(0,7)] [(0,.row 3 At l)] (fun _ h=>h) E E ⟨Y,⟨.inl E,E,Y⟩,E,E⟩
 ·have h0:l=[]:=List.eq_nil_of_length_eq_zero (hb rfl)
  subst h0
  ((first|refine rG Γ hm ?_|refine rD Γ hm qq ?_);(conv=>whnf);repeat((first|refine aF ?_|refine aT ?_);(first|refine rG Γ hm ?_|refine rD Γ hm qq ?_);conv=>whnf))
  refine Cc 2 1000 3 At E E ?_
  exact done E (.cons .tmp .nil) [(0,1000)] [(0,.row 3 At [])] (fun _ h=>h) E E ⟨Y,⟨.inl E,E,Y⟩,E,E⟩
theorem Ji (l:List EntryM) (p:EntryM→Bool) (f:FuncId) (first cap:List SV) (hc:(SV.clo (.func f) first cap).inn []=true) (hf:∀ x∈l,Hn Tryz.prog f (first++[At x]++cap) (Ad (p x))) (hl:Am l) :
  Sy.Spec Tryz.prog 125 [.sl 3 At l,.clo (.func f) first cap] [] (Aa (Dn p l)) []:=Ab Γ hm 100 F125 Tryz.ntmps125 rfl fun F hF=>by
 unfold Am at hl
 have hin:∀ x:EntryM,B1 [] (first++[At x]++cap)=true:=fun x=>Cp hc rfl
 ((conv=>whnf);repeat((first|refine aF ?_|refine aT ?_);(first|refine rG Γ hm ?_|refine rD Γ hm qq ?_);conv=>whnf))
 refine Bc l.length (fun j=>Dy (fun _ x=>!(p x)) l j) (fun j=>[(0,.sl 3 At l),(1,.clo (.func f) first cap),(7,Aa l.length),(8,Aa j)]) (fun _=>[]) [] (Bd _ _) ⟨⟨E,E,A4 _,hc,E,E,E,E,Y⟩,Y,E,E⟩ ?_
 intro j hj hI
 ((first|refine rG Γ hm ?_|refine rD Γ hm qq ?_);(conv=>whnf);repeat((first|refine aF ?_|refine aT ?_);(first|refine rG Γ hm ?_|refine rD Γ hm qq ?_);conv=>whnf))
 refine⟨fun h=>?_,fun h=>?_⟩
 ·have h:=of_decide_eq_true h
  have hj2:j<l.length:=by omega
  ((first|refine rG Γ hm ?_|refine rD Γ hm qq ?_);(conv=>whnf);repeat((first|refine aF ?_|refine aT ?_);(first|refine rG Γ hm ?_|refine rD Γ hm qq ?_);conv=>whnf))
  refine⟨E,by omega,by omega,?_⟩
  ((conv=>whnf);repeat((first|refine aF ?_|refine aT ?_);(first|refine rG Γ hm ?_|refine rD Γ hm qq ?_);conv=>whnf))
  refine Dx (hf l[j] (List.getElem_mem hj2)) E E E (by simp only[hin];rfl) E E ?_
  ((first|refine rG Γ hm ?_|refine rD Γ hm qq ?_);(conv=>whnf);repeat((first|refine aF ?_|refine aT ?_);(first|refine rG Γ hm ?_|refine rD Γ hm qq ?_);conv=>whnf))
  refine⟨fun h2=>?_,fun h2=>?_⟩
  ·((first|refine rG Γ hm ?_|refine rD Γ hm qq ?_);(conv=>whnf);repeat((first|refine aF ?_|refine aT ?_);(first|refine rG Γ hm ?_|refine rD Γ hm qq ?_);conv=>whnf))
   refine Ac E (.cons .tmp .nil) (congrArg Aa ?_) E
   exact Eh hj2 (fun i hi hij=>by simpa using hI i hi hij) h2
  ·((first|refine rG Γ hm ?_|refine rD Γ hm qq ?_);(conv=>whnf);repeat((first|refine aF ?_|refine aT ?_);(first|refine rG Γ hm ?_|refine rD Γ hm qq ?_);conv=>whnf))
   refine⟨by unfold I64;omega,?_⟩
   ((conv=>whnf);repeat((first|refine aF ?_|refine aT ?_);(first|refine rG Γ hm ?_|refine rD Γ hm qq ?_);conv=>whnf))
   exact A9 [] hI hj2 (Ba hI hj2 (by simp[h2])) ⟨⟨E,E,A4 _,hc,E,E,E,E,Y⟩,Y,E,E⟩
 ·have h:=of_decide_eq_false h
  ((first|refine rG Γ hm ?_|refine rD Γ hm qq ?_);(conv=>whnf);repeat((first|refine aF ?_|refine aT ?_);(first|refine rG Γ hm ?_|refine rD Γ hm qq ?_);conv=>whnf))
  refine Ac E (.cons .tmp .nil) (congrArg Aa ?_) E
  exact E5 (fun i hi=>by simpa using hI i hi qn)
theorem Qt (l:List EntryM) (p:EntryM→Bool) (f:FuncId) (first cap:List SV) (hc:(SV.clo (.func f) first cap).inn []=true) (hc0:(SV.clo (.func f) first cap).inn [0]=true) (hf:∀ x∈l,Hn Tryz.prog f (first++[At x]++cap) (Ad (p x))) (hl:Am l) :
  Sy.Spec Tryz.prog 115 [.osl 0,.clo (.func f) first cap] [(0,.row 3 At l)] (.osl 1) [(0,.non),(1,.row 3 At (l.filter fun x=>!(p x)))]:=Ab Γ hm 100 F115 Tryz.ntmps115 rfl fun F hF=>by
 have qi:=Ji l p f first cap hc hf hl
 unfold Am at hl
 have hin:∀ x:EntryM,B1 [] (first++[At x]++cap)=true:=fun x=>Cp hc rfl
 ((conv=>whnf);repeat((first|refine aF ?_|refine aT ?_);(first|refine rG Γ hm ?_|refine rD Γ hm qq ?_);conv=>whnf))
 refine Aft [0] qi F125 E (.cons (.row E E) (.cons (.refl _) .nil)) (by simp only[B1,hc,Bool.and_true];rfl) E E ?_
 rcases Oa p l with ⟨h1,h2⟩ | ⟨i,hi,h1,h2,h3⟩
 ·rw[h1]
  have e1:(l.filter fun x=>!(p x))=l:=List.filter_eq_self.2 (fun x hx=>by simp[h2 x hx])
  rw[e1]
  ((first|refine rG Γ hm ?_|refine rD Γ hm qq ?_);(conv=>whnf);repeat((first|refine aF ?_|refine aT ?_);(first|refine rG Γ hm ?_|refine rD Γ hm qq ?_);conv=>whnf))
  refine Aex 0 1000 [0,4] E E qx (by simp;exact⟨E,E⟩) ?_
  exact done E (.cons .tmp .nil) [(0,0),(1,1000)] _ (fun _ h=>h) E E ⟨Y,⟨.inl E,E,.inl E,E,Y⟩,E,E⟩
 obtain ⟨f1,f2⟩:=X9 (fun x=>!(p x)) l i qn (fun k hk hki=>by simp[h3 k hk hki])
 have g1:dfC (fun x=>!(p x)) l (i+1+0)=l:=by
  show dfC (fun x=>!(p x)) l (i+1)=l
  simp only[dfC,List.getElem?_eq_getElem hi]
  rw[if_neg (by simp[h2]),f1]
 have g2:D3 (fun x=>!(p x)) l (i+1+0)=i:=by
  show D3 (fun x=>!(p x)) l (i+1)=i
  simp only[D3,List.getElem?_eq_getElem hi]
  rw[if_neg (by simp[h2]),f2]
 rw[h1]
 ((first|refine rG Γ hm ?_|refine rD Γ hm qq ?_);(conv=>whnf);repeat((first|refine aF ?_|refine aT ?_);(first|refine rG Γ hm ?_|refine rD Γ hm qq ?_);conv=>whnf))
 refine⟨by unfold I64;omega,?_⟩
 ((conv=>whnf);repeat((first|refine aF ?_|refine aT ?_);(first|refine rG Γ hm ?_|refine rD Γ hm qq ?_);conv=>whnf))
 refine A2 (l.length-(i+1)) (fun j=>[(0,.osl 0),(1,.clo (.func f) first cap),(5,Aa (D3 (fun x=>!(p x)) l (i+1+j))),(6,Aa ((i+1+j:Nat)))]) (fun j=>[(0,.row 3 At (dfC (fun x=>!(p x)) l (i+1+j)))]) []
  ⟨⟨rfl,rfl,A4 _,hc0,congrArg Aa (congrArg Int.ofNat g2),rfl,congrArg (fun z=>SV.val (.int .i64 z)) qn,rfl,trivial⟩,⟨.inl (congrArg (Ob.row 3 At) g1),rfl,trivial⟩,rfl,rfl⟩ ?_
 intro j hj
 have hcl:=Uc (fun x=>!(p x)) l (i+1+j)
 have hdl:=Oh (fun x=>!(p x)) l (i+1+j)
 have hget:=Afs (fun x=>!(p x)) l (i+1+j) (i+1+j) (Nat.le_refl _)
 have s1:∀ h:i+1+j<l.length,D3 (fun x=>!(p x)) l (i+1+(j+1))=if (!(p l[i+1+j]))=true then D3 (fun x=>!(p x)) l (i+1+j)+1 else D3 (fun x=>!(p x)) l (i+1+j):=fun hlt=>by
  show D3 (fun x=>!(p x)) l (i+1+j+1)=_
  simp only[D3,List.getElem?_eq_getElem hlt]
 have s2:∀ h:i+1+j<l.length,dfC (fun x=>!(p x)) l (i+1+(j+1))=if (!(p l[i+1+j]))=true then (dfC (fun x=>!(p x)) l (i+1+j)).set (D3 (fun x=>!(p x)) l (i+1+j)) l[i+1+j] else dfC (fun x=>!(p x)) l (i+1+j):=fun hlt=>by
  show dfC (fun x=>!(p x)) l (i+1+j+1)=_
  simp only[dfC,List.getElem?_eq_getElem hlt]
 have htk:=fun h=>Acc (fun x=>!(p x)) l (i+1+j) h
 obtain ⟨D,hD⟩:∃ D,dfC (fun x=>!(p x)) l (i+1+j)=D:=⟨_,rfl⟩
 obtain ⟨K,hK⟩:∃ K,D3 (fun x=>!(p x)) l (i+1+j)=K:=⟨_,rfl⟩
 rw[hD]at hdl hget s2 htk ⊢
 rw[hK]at hcl s1 s2 htk ⊢
 ((first|refine rG Γ hm ?_|refine rD Γ hm qq ?_);(conv=>whnf);repeat((first|refine aF ?_|refine aT ?_);(first|refine rG Γ hm ?_|refine rD Γ hm qq ?_);conv=>whnf))
 refine⟨fun h=>?_,fun h=>?_⟩
 ·have hlt:i+1+j<l.length:=by have:=of_decide_eq_true h;omega
  have hfx:=hf l[i+1+j] (List.getElem_mem hlt)
  have s1:=s1 hlt
  have s2:=s2 hlt
  rw[List.getElem?_eq_getElem hlt,List.getElem?_eq_getElem qn]at hget
  have hget:=Option.some.inj hget
  obtain ⟨x,hx⟩:∃ x,l[i+1+j]=x:=⟨_,rfl⟩
  rw[hx]at hfx s1 s2 hget
  ((first|refine rG Γ hm ?_|refine rD Γ hm qq ?_);(conv=>whnf);repeat((first|refine aF ?_|refine aT ?_);(first|refine rG Γ hm ?_|refine rD Γ hm qq ?_);conv=>whnf))
  refine⟨by omega,by simp;omega,?_⟩
  ((conv=>whnf);repeat((first|refine aF ?_|refine aT ?_);(first|refine rG Γ hm ?_|refine rD Γ hm qq ?_);conv=>whnf))
  refine⟨E,by omega,?_⟩
  rw[show D[((i+1+j:Nat):Int).toNat]'qn=x from hget]
  ((conv=>whnf);repeat((first|refine aF ?_|refine aT ?_);(first|refine rG Γ hm ?_|refine rD Γ hm qq ?_);conv=>whnf))
  refine Dx hfx E E E (by simp only[hin];rfl) E E ?_
  cases hpx:p x
  ·rw[hpx]at s1 s2
   ((first|refine rG Γ hm ?_|refine rD Γ hm qq ?_);(conv=>whnf);repeat((first|refine aF ?_|refine aT ?_);(first|refine rG Γ hm ?_|refine rD Γ hm qq ?_);conv=>whnf))
   refine⟨by omega,by simp;omega,?_⟩
   ((conv=>whnf);repeat((first|refine aF ?_|refine aT ?_);(first|refine rG Γ hm ?_|refine rD Γ hm qq ?_);conv=>whnf))
   refine⟨E,by omega,x,E,E,?_⟩
   ((conv=>whnf);repeat((first|refine aF ?_|refine aT ?_);(first|refine rG Γ hm ?_|refine rD Γ hm qq ?_);conv=>whnf))
   refine⟨by unfold I64;omega,?_⟩
   ((conv=>whnf);repeat((first|refine aF ?_|refine aT ?_);(first|refine rG Γ hm ?_|refine rD Γ hm qq ?_);conv=>whnf))
   refine⟨by unfold I64;omega,?_⟩
   ((conv=>whnf);repeat((first|refine aF ?_|refine aT ?_);(first|refine rG Γ hm ?_|refine rD Γ hm qq ?_);conv=>whnf))
   exact Av [] qn ⟨⟨E,E,A4 _,hc0,congrArg Aa (congrArg Int.ofNat s1),E,congrArg (fun z=>SV.val (.int .i64 z)) qn,E,Y⟩,⟨.inl (congrArg (Ob.row 3 At) s2),E,Y⟩,E,E⟩
  ·rw[hpx]at s1 s2
   ((first|refine rG Γ hm ?_|refine rD Γ hm qq ?_);(conv=>whnf);repeat((first|refine aF ?_|refine aT ?_);(first|refine rG Γ hm ?_|refine rD Γ hm qq ?_);conv=>whnf))
   refine⟨by unfold I64;omega,?_⟩
   ((conv=>whnf);repeat((first|refine aF ?_|refine aT ?_);(first|refine rG Γ hm ?_|refine rD Γ hm qq ?_);conv=>whnf))
   exact Av [] qn ⟨⟨E,E,A4 _,hc0,congrArg Aa (congrArg Int.ofNat s1),E,congrArg (fun z=>SV.val (.int .i64 z)) qn,E,Y⟩,⟨.inl (congrArg (Ob.row 3 At) s2),E,Y⟩,E,E⟩
 ·have hend:i+1+j=l.length:=by have:=of_decide_eq_false h;omega
  have hne:D≠[]:=fun h=>by rw[h]at hdl;simp at hdl;omega
  have htk:=htk qn
  rw[show l.take (i+1+j)=l from List.take_of_length_le qn]at htk
  refine Afz 0 [0] E hne (by simp;rfl) ?_
  intro b cap' hcap
  ((first|refine rG Γ hm ?_|refine rD Γ hm qq ?_);(conv=>whnf);repeat((first|refine aF ?_|refine aT ?_);(first|refine rG Γ hm ?_|refine rD Γ hm qq ?_);conv=>whnf))
  refine Ai (Ch Γ.toTy E E E E (.inr ⟨_,_,E,E⟩) (.inl ⟨E,E⟩) qn qn) E E ?_
  ((first|refine rG Γ hm ?_|refine rD Γ hm qq ?_);(conv=>whnf);repeat((first|refine aF ?_|refine aT ?_);(first|refine rG Γ hm ?_|refine rD Γ hm qq ?_);conv=>whnf))
  refine Ai (Ih Γ.toTy 0 (k:=K) E E E E qx E E E qn qn) E E ?_
  ((first|refine rG Γ hm ?_|refine rD Γ hm qq ?_);(conv=>whnf);repeat((first|refine aF ?_|refine aT ?_);(first|refine rG Γ hm ?_|refine rD Γ hm qq ?_);conv=>whnf))
  refine Ai (Ch Γ.toTy E E E E (.inl ⟨E,E⟩) (.inr ⟨_,_,E,E⟩) qn qn) E E ?_
  ((first|refine rG Γ hm ?_|refine rD Γ hm qq ?_);(conv=>whnf);repeat((first|refine aF ?_|refine aT ?_);(first|refine rG Γ hm ?_|refine rD Γ hm qq ?_);conv=>whnf))
  refine Ud 0 1000 [4] K E E (by rw[List.length_take];omega) (fun i hi=>?_) ?_
  ·rw[List.mem_singleton]at hi
   subst hi
   show SV.val (.slice (some (if cap'=0 then ⟨b,0,none⟩ else ⟨b,0 * 3,none⟩)) (K-0) (cap'-0))=_
   split<;>simp
  refine done E (.cons .tmp .nil) [(0,0),(1,1000)] _ (fun _ h=>h) E E ⟨Y,⟨.inl E,E,.inl ?_,E,Y⟩,E,E⟩
  rw[← htk]
  exact congrArg (Ob.row 3 At) (by rw[List.take_take,Nat.min_self])
theorem Xa (l:List EntryM) (i:Nat) (hi:i<l.length) (hl:Am l) :
  Sy.Spec Tryz.prog 168 [.osl 0,Aa i,Aa ((i+1:Nat):Int)] [(0,.row 3 At l)] (.osl 1) [(0,.non),(1,.row 3 At (l.take i++l.drop (i+1)))]:=Ab Γ hm 100 F168 Tryz.ntmps168 rfl fun F hF=>by
 unfold Am at hl
 have hne:l≠[]:=fun h=>by rw[h]at hi;simp at hi
 ((conv=>whnf);repeat((first|refine aF ?_|refine aT ?_);(first|refine rG Γ hm ?_|refine rD Γ hm qq ?_);conv=>whnf))
 refine Afz 0 [0,8] E hne (by simp;exact⟨E,E⟩) ?_
 intro b cap hcap
 ((first|refine rG Γ hm ?_|refine rD Γ hm qq ?_);(conv=>whnf);repeat((first|refine aF ?_|refine aT ?_);(first|refine rG Γ hm ?_|refine rD Γ hm qq ?_);conv=>whnf))
 refine Ai (W4 Γ.toTy E E E E E E E qn qn hcap) E E ?_
 ((first|refine rG Γ hm ?_|refine rD Γ hm qq ?_);(conv=>whnf);repeat((first|refine aF ?_|refine aT ?_);(first|refine rG Γ hm ?_|refine rD Γ hm qq ?_);conv=>whnf))
 refine⟨fun h=>absurd h (by simp;omega),fun _=>?_⟩
 ((first|refine rG Γ hm ?_|refine rD Γ hm qq ?_);(conv=>whnf);repeat((first|refine aF ?_|refine aT ?_);(first|refine rG Γ hm ?_|refine rD Γ hm qq ?_);conv=>whnf))
 refine Bv (Ch Γ.toTy E E E E (.inl ⟨E,E⟩) (.inr ⟨_,_,E,E⟩) qn qn) qq E ?_
 ((first|refine rG Γ hm ?_|refine rD Γ hm qq ?_);(conv=>whnf);repeat((first|refine aF ?_|refine aT ?_);(first|refine rG Γ hm ?_|refine rD Γ hm qq ?_);conv=>whnf))
 refine Bv (Ch (hi:=l.length) Γ.toTy E E E E (.inr ⟨_,_,E,E⟩) (.inl ⟨E,E⟩) qn qn) qq E ?_
 ((first|refine rG Γ hm ?_|refine rD Γ hm qq ?_);(conv=>whnf);repeat((first|refine aF ?_|refine aT ?_);(first|refine rG Γ hm ?_|refine rD Γ hm qq ?_);conv=>whnf))
 have hif:(if cap=0 then (⟨b,0,none⟩:Addr) else ⟨b,0 * 3,none⟩)=⟨b,0,none⟩:=by split<;>simp
 refine Bv (T0 Γ.toTy 0 (n:=l.length) (i:=i) (j:=i+1) E E E (congrArg (fun z=>SV.val (.slice (some z) i cap)) hif) E E E E qn qn) qq E ?_
 ((first|refine rG Γ hm ?_|refine rD Γ hm qq ?_);(conv=>whnf);repeat((first|refine aF ?_|refine aT ?_);(first|refine rG Γ hm ?_|refine rD Γ hm qq ?_);conv=>whnf))
 refine⟨qq,?_⟩
 ((conv=>whnf);repeat((first|refine aF ?_|refine aT ?_);(first|refine rG Γ hm ?_|refine rD Γ hm qq ?_);conv=>whnf))
 refine Ai (Ch (lo:=i+(l.length-(i+1))) (hi:=l.length) Γ.toTy E E E E (.inr ⟨_,_,E,E⟩) (.inr ⟨_,_,E,E⟩) qn qn) E E ?_
 ((first|refine rG Γ hm ?_|refine rD Γ hm qq ?_);(conv=>whnf);repeat((first|refine aF ?_|refine aT ?_);(first|refine rG Γ hm ?_|refine rD Γ hm qq ?_);conv=>whnf))
 have hll:(l.take i++l.drop (i+1)).length=i+(l.length-(i+1)):=by rw[List.length_append,List.length_take,List.length_drop];omega
 refine Ai (Ih Γ.toTy 0 (k:=i+(l.length-(i+1))) E E E E qx E E E qn qn) E E ?_
 ((first|refine rG Γ hm ?_|refine rD Γ hm qq ?_);(conv=>whnf);repeat((first|refine aF ?_|refine aT ?_);(first|refine rG Γ hm ?_|refine rD Γ hm qq ?_);conv=>whnf))
 refine Ud 0 1000 [6] (i+(l.length-(i+1))) E E (by rw[List.length_take];omega) (by simp;rfl) ?_
 refine done E (.cons .tmp .nil) [(0,0),(1,1000)] _ (fun _ h=>h) E E ⟨Y,⟨.inl E,E,.inl ?_,E,Y⟩,E,E⟩
 exact congrArg (Ob.row 3 At) (by rw[List.take_take,Nat.min_self];exact(List.take_of_length_le qn).symm)
end Go.Sy.YtnlacjgkdjnhmaaGreat
