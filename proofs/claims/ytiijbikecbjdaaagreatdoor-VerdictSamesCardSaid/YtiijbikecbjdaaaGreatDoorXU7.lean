/-
  R6 A6 R7 R8 K0 E7 E8 E9 E10 E11 E12 E13 E14 E15 A7 E21 E29 I6 S0 I15 I20 VD0 E16 E17 E18 E20 E22 E23 E24: parts of a proof, joined by program.
-/
import Derived.Test.YtiijbikecbjdaaaGreatDoorXU6
import Derived.Test.YtiijbikecbjdaaaGreatDoorXU5
import Derived.Test.YtiijbikecbjdaaaGreatDoorXU4
set_option linter.all false
set_option linter.unusedVariables false
set_option linter.unusedSimpArgs false
set_option linter.deprecated false
namespace Go.Sy.YtiijbikecbjdaaaGreatDoor
open Go.Proofs
attribute [local irreducible] Go.Sy.G Go.Sy.DR
set_option maxRecDepth 100000
set_option maxHeartbeats 4000000
def Axg (n:Nat):SV:=Aa n
def Ln (l:List Nat):List UInt8:=l.flatMap λ n=>[UInt8.ofNat (n / 256),UInt8.ofNat n]
theorem Afs (l:List Nat):(Ln l).length=2 * l.length:=by
 induction l with
 | nil=>rfl
 | cons a l ih=>simp only[Ln,uB,yE,yN,xB]at ih ⊢;omega
theorem Alg (l:List Nat) (n:Nat):Ln (l++[n])=Ln l++[UInt8.ofNat (n / 256),UInt8.ofNat n]:=by simp[Ln]
theorem Aic (a b:Int) (h:0≤a∧a≤b):Sp 216 [Aa a,Aa b] (Ab true):=cT F216 Tryz.ntmps216 λ F hF=>by
 conv=>whnf
 refine⟨λ _=>?_,λ h2=>yB (zT h2) q_⟩
 refine oO ?_
 refine Aq E (.cons .tmp .nil) ?_ E
 exact zG Ab (zR h.2).symm
theorem Ax1 (l:List Nat) (hl:l.length<100000):Sq 217 [.val (.slice none 0 0),.sl 1 Axg l] [] (.osl 0) [(0,.row 1 Ah (Ln l))]:=cT F217 Tryz.ntmps217 λ F hF=>by
 conv=>whnf
 refine B9 0 1000 1 Ah E E ?_
 refine A9 l.length (λ j=>[(0,.osl 1000),(7,.sl 1 Axg l),(8,Aa l.length),(9,Aa j)]) (λ j=>[(1000,.row 1 Ah (Ln (l.take j)))]) [] ⟨⟨E,E,E,E,E,E,E,E,Y⟩,⟨.inl E,E,Y⟩,E,E⟩ ?_
 intro j hj
 have hpl:=Afs (l.take j)
 refine oO ?_
 constructor<;>intro h
 ·have hlt:j<l.length:=by simpa using h
  have e1:l[(j:Int).toNat]'q_=l[j]:=rfl
  have hsucc:Ln (l.take (j+1))=Ln (l.take j)++[UInt8.ofNat (l[j] / 256),UInt8.ofNat l[j]]:=by
   rw[zW hlt,Alg]
  obtain ⟨n,hn⟩:∃ n,l[j]=n:=⟨_,rfl⟩
  rw[hn]at e1 hsucc
  have htb:=Hx n
  refine oO ?_
  refine⟨E,by omega,by omega,?_⟩
  rw[e1]
  conv=>whnf
  refine⟨by omega,?_⟩
  conv=>whnf
  refine Af (Ae Γ.toTy 20 E E E E E (.row E) (.lit (e:=Ah) (l:=[UInt8.ofNat (n / 256),UInt8.ofNat n]) E htb) y_ (by simp[hpl];omega) (by simp[hpl];omega)) E E ?_
  refine oO ?_
  refine iW ?_
  exact A2 [(1000,20)] hlt ⟨⟨E,E,E,E,E,E,E,E,Y⟩,⟨.inl (zG (Ob.row 1 Ah) hsucc),E,Y⟩,E,E⟩
 ·have hjl:j=l.length:=by
   have:¬ j<l.length:=by simpa using h
   omega
  subst hjl
  rw[yG]
  refine oO ?_
  exact done E (.cons .tmp .nil) [(0,1000)] [(0,.row 1 Ah (Ln l))] (λ _ h=>h) E E ⟨Y,⟨.inl E,E,Y⟩,E,E⟩
theorem u8_of (n:Nat):IntKind.u8.wrap (n:Int)=((UInt8.ofNat n).toNat:Int):=by
 rw[IntKind.wrap_u8]
 simp
theorem Acd {x:Int} (h0:0≤x) (h1:x<18446744073709551616):IntKind.u64.wrap x=x:=by rw[IntKind.wrap_u64];omega
theorem Ahb (ip:Nat) (h:ip<4294967296):Sp 158 [A6 ip] (Bf (Kf ip)):=cT F158 Tryz.ntmps158 λ F hF=>by
 conv=>whnf
 refine Aq E (.cons .tmp .nil) ?_ E
 refine zG (λ z=>SV.val (.int .u64 z)) ?_
 have e:IntKind.u64.wrap (ip:Int)=ip:=Acd q_ q_
 rw[e]
 have hb:=bits_or_u64_nat 2199023255552 ip j_ q_
 rw[show ((2199023255552:Nat):Int)=2199023255552 from rfl]at hb
 rw[hb,Kf,yL]
 have h2:=xD (i:=32) (b:=ip) q_ 512
 rw[show 2 ^ 32 * 512=2199023255552 from rfl]at h2
 rw[← h2]
theorem tagIsS (d s:Nat) (t:Int) (body:List UInt8) (ht:t≠33024):Sp 160 [Ayl d s t body] (Ab false):=cT F160 Tryz.ntmps160 λ F hF=>by
 conv=>whnf
 refine Aq E (.cons .tmp .nil) ?_ E
 exact zG Ab (zL.2 ht).symm
theorem A0a (v:Nat) (hv:v<9223372036854775808):bits .or .i64 (IntKind.i64.wrap (0 * 2 ^ min (Int.toNat 12) IntKind.i64.bits)) (v:Int)=v:=by
 have h:=Ed 0 v j_ hv
 rw[Nat.zero_or]at h
 exact h
theorem Azy (d s t v:Nat) (body:List UInt8) (ht:t≠33024) (ht2:t≤65535) (hv:v≤4094) (hb:body.length≤1500) :
  Sp 89 [Ayl d s t body,Aa v,Aa 0] (.tup [Ayl d s 33024 ([UInt8.ofNat (v / 256),UInt8.ofNat v,UInt8.ofNat (t / 256),UInt8.ofNat t]++body),Aa 0]):=cT F89 Tryz.ntmps89 λ F hF=>by
 have hor:=A0a v q_
 have tb1:=Hx v
 have tb2:=Hx t
 conv=>whnf
 refine c0 (tagIsS d s t body q_) F160 ?_
 (refine oF ?_;refine bF ?_)
 refine⟨λ h=>yB (zK h) q_,λ _=>?_⟩
 (refine oF ?_;refine bF ?_;refine bF ?_)
 refine⟨λ h=>yB (zK h) q_,λ _=>?_⟩
 refine oO ?_
 refine⟨λ h=>yB (zK h) q_,λ _=>?_⟩
 refine oO ?_
 refine⟨by omega,?_⟩
 conv=>whnf
 rw[hor]
 refine⟨by omega,?_⟩
 conv=>whnf
 refine⟨by omega,?_⟩
 conv=>whnf
 refine Br (Ae Γ.toTy 70 E E E E E (.lit (e:=Ah) (l:=[UInt8.ofNat (v / 256),UInt8.ofNat v,UInt8.ofNat (t / 256),UInt8.ofNat t]) E ?_) .sl y_ (by simp;omega) (by simp;omega)) z_ E ?_
 ·have h1:=List.cons.inj tb1
  have h2:=List.cons.inj tb2
  have h3:=List.cons.inj h1.2
  have h4:=List.cons.inj h2.2
  simp only[xV,vY]
  rw[h1.1,h3.1,h2.1,h4.1]
 refine oD ?_
 refine kW ?_
 refine Ag 70 E ?_
 exact dN
end Go.Sy.YtiijbikecbjdaaaGreatDoor
namespace Go.Sy.YtiijbikecbjdaaaGreatDoor
open Go.Proofs
def Kz (l:List UInt8):Nat:=l.foldl (λ n c=>n * 256+c.toNat) 0
theorem Age (l:List UInt8) (c:UInt8):Kz (l++[c])=Kz l * 256+c.toNat:=by
 rw[Kz,xF];rfl
theorem Ou:∀ (k:Nat) (l:List UInt8),l.length=k→Kz l<256 ^ k
 | 0,l,h=>by rw[vN.1 h];decide
 | k+1,l,h=>by
  have hne:l≠[]:=λ e=>by rw[e]at h;cases h
  have e:=uE hne
  have h1:=Ou k l.dropLast (by rw[uN];omega)
  have h2:=(l.getLast hne).toNat_lt
  rw[← e,Age,tW]
  omega
theorem Asl (l:List UInt8) {j:Nat} (h:j<l.length):Kz (l.take (j+1))=Kz (l.take j) * 256+l[j].toNat:=by
 rw[zW h,Age]
theorem Azt (m:Nat) (c:UInt8) (h:m<1099511627776) :
  bits .or .u64 (IntKind.u64.wrap ((m:Int) * 2 ^ min (Int.toNat 8) IntKind.u64.bits)) (IntKind.u64.wrap (c.toNat:Int))=((m * 256+c.toNat:Nat):Int):=by
 have hc:=c.toNat_lt
 have e1:IntKind.u64.wrap ((m:Int) * 2 ^ min (Int.toNat 8) IntKind.u64.bits)=((m * 256:Nat):Int):=by
  show IntKind.u64.wrap ((m:Int) * 256)=_
  rw[IntKind.wrap_u64];omega
 have e2:IntKind.u64.wrap (c.toNat:Int)=(c.toNat:Int):=by rw[IntKind.wrap_u64];omega
 rw[e1,e2,bits_or_u64_nat _ _ q_ q_]
 congr 1
 have h:=xD (i:=8) (b:=c.toNat) q_ m
 rw[vH m 256]
 exact h.symm
def Iu (m:Nat):Bool:=decide (m / 1099511627776 % 2=1)
theorem A07 (m k:Nat):m &&& 2 ^ k=if m / 2 ^ k % 2=1 then 2 ^ k else 0:=by
 apply Nat.eq_of_testBit_eq
 intro i
 rw[Nat.testBit_and,Nat.testBit_two_pow]
 by_cases hi:k=i
 ·subst hi
  rw[zR rfl,vZ,Nat.testBit_eq_decide_div_mod_eq]
  split
  ·rename_i h;rw[zR h,Nat.testBit_two_pow_self]
  ·rename_i h;rw[zI h,Nat.zero_testBit]
 ·rw[zI hi,wL]
  split
  ·rw[Nat.testBit_two_pow,zI hi]
  ·rw[Nat.zero_testBit]
theorem Ahe (m:Nat) (h:m<18446744073709551616):(bits .and .u64 (m:Int) 1099511627776 != 0)=Iu m:=by
 have e:=bits_and_u64_nat m 1099511627776 h j_
 rw[show ((1099511627776:Nat):Int)=1099511627776 from rfl]at e
 rw[e,show (1099511627776:Nat)=2 ^ 40 from rfl,A07,Iu,show (1099511627776:Nat)=2 ^ 40 from rfl]
 split
 ·rename_i h;rw[zR h];rfl
 ·rename_i h;rw[zI h];rfl
end Go.Sy.YtiijbikecbjdaaaGreatDoor
namespace Go.Sy.YtiijbikecbjdaaaGreatDoor
open Go.Proofs
attribute [local irreducible] Go.Sy.G Go.Sy.DR
set_option maxRecDepth 20000
set_option maxHeartbeats 4000000
theorem e_link {n:Net} (h:Ac n=true) {i:Nat} (hi:i<n.links.length):(0≤n.links[i].a∧n.links[i].a.toNat<n.ports.length)∧(0≤n.links[i].b∧n.links[i].b.toNat<n.ports.length):=by
 simp only[Ac,zH]at h
 have:=allB_iff.1 h.1.1.1.1.2 i hi
 simp only[Xv,An,zH,zQ]at this
 omega
theorem K6 {n:Net} {i:Int} (h:0≤D3 n i):(0≤i∧i.toNat<n.ports.length)∧Ac n=true∧(D3 n i).toNat<n.ports.length:=by
 unfold D3 at h ⊢
 split at h
 ·rename_i hc
  rw[zE hc]
  have hk:i.toNat<n.ports.length:=by omega
  have e1:nth n.ports i=n.ports[i.toNat]:=Aj hk
  rw[e1]at hc h ⊢
  have hq:=Km hc.2.2 hk hc.2.1
  have e2:nth n.links n.ports[i.toNat].link=n.links[n.ports[i.toNat].link.toNat]:=Aj hq.1
  have hl:=e_link hc.2.2 hq.1
  rw[e2]at h ⊢
  refine⟨by omega,hc.2.2,?_⟩
  split
  ·exact hl.2.2
  ·exact hl.1.2
 ·omega
def Ab8 (n:Net) (i v:Int):Int:=if v=(nth n.ports i).native then (nth n.ports (D3 n i)).native else if inB (nth n.ports (D3 n i)).tagged v=true then v else 0
def crossT (n:Net) (i v:Int):Int × Int × Bool :=
 if 0≤D3 n i∧D0 (nth n.ports i) v=true∧Ab8 n i v≠0 then (D3 n i,Ab8 n i v,true) else (0,0,false)
theorem Al0 (n:Net) (hn:n.Fin) (i v:Int):Sp 254 [Al n,Aa i,Aa v] (.tup [Aa (crossT n i v).1,Aa (crossT n i v).2.1,Ab (crossT n i v).2.2]):=cT F254 Tryz.ntmps254 λ F hF=>by
 have q:=Xs n hn i
 have hth:=K6 (n:=n) (i:=i)
 have hc:=crossT.eq_1 n i v
 unfold Ab8 at hc
 generalize crossT n i v=r at *
 obtain ⟨far,hfar⟩:∃ far,D3 n i=far:=⟨_,rfl⟩
 rw[hfar]at q hth hc
 refine fW ?_
 refine c0 q F287 ?_
 refine fU ?_
 constructor<;>intro h
 ·have h1:far<0:=zK h
  rw[zD q_]at hc
  subst hc
  refine fU ?_
  exact dN
 have h1:0≤far:=qB h
 obtain ⟨⟨hi0,hk⟩,hb,hfk⟩:=hth h1
 have e1:nth n.ports i=n.ports[i.toNat]:=Aj hk
 have e2:nth n.ports far=n.ports[far.toNat]:=Aj hfk
 rw[e1,e2]at hc
 have ht1:=hn.tagged _ (zJ hk)
 have ht2:=hn.tagged _ (zJ hfk)
 obtain ⟨p,hp⟩:∃ p,n.ports[i.toNat]=p:=⟨_,rfl⟩
 obtain ⟨o,ho⟩:∃ o,n.ports[far.toNat]=o:=⟨_,rfl⟩
 rw[hp]at hc ht1
 rw[ho]at hc ht2
 have hms:=Xo p v ht1
 have hcs:=Do o.tagged v ht2
 refine A7 3 8 (Al n) E E E ?_
 refine fU ?_
 refine⟨E,hi0,hk,?_⟩
 rw[hp]
 refine fW ?_
 refine c0 hms F119 ?_
 cases hm2:D0 p v
 ·rw[zD (by simp[hm2])]at hc
  subst hc
  refine fU ?_
  exact dN
 refine fU ?_
 refine⟨E,h1,hfk,?_⟩
 rw[ho]
 refine fW ?_
 refine⟨E,hi0,hk,?_⟩
 rw[hp]
 refine fW ?_
 constructor<;>intro h
 ·have h2:v=p.native:=by simpa using h
  rw[zE h2]at hc
  refine fU ?_
  constructor<;>intro h
  ·have h3:o.native=0:=by simpa using h
   rw[zD (λ hh=>hh.2.2 h3)]at hc
   subst hc
   refine fU ?_
   exact dN
  ·have h3:o.native≠0:=by simpa using h
   rw[zE ⟨h1,hm2,h3⟩]at hc
   subst hc
   refine fU ?_
   exact dN
 have h2:¬ v=p.native:=by simpa using h
 rw[zD h2]at hc
 refine fU ?_
 refine c0 hcs F73 ?_
 cases hin:inB o.tagged v
 ·rw[hin,zD y_]at hc
  subst hc
  refine fU ?_
  exact dN
 rw[hin,zE rfl]at hc
 refine fU ?_
 constructor<;>intro h
 ·have h3:v=0:=by simpa using h
  rw[zD (λ hh=>hh.2.2 h3)]at hc
  subst hc
  refine fU ?_
  exact dN
 ·have h3:v≠0:=by simpa using h
  rw[zE ⟨h1,hm2,h3⟩]at hc
  subst hc
  refine fU ?_
  exact dN
def linkDomT (n:Net) (i v:Int):Int × Bool:=if (crossT n i v).2.2=true then (De n (nth n.ports (crossT n i v).1).dev (crossT n i v).2.1,true) else (0,false)
theorem Yi {n:Net} {i v:Int} (h:(crossT n i v).2.2=true):0≤(crossT n i v).1∧(crossT n i v).1.toNat<n.ports.length:=by
 unfold crossT at h ⊢
 split at h
 ·rename_i hc
  rw[zE hc]
  exact⟨hc.1,(K6 hc.1).2.2⟩
 ·cases h
theorem Xt (n:Net) (hn:n.Fin) (i v:Int):Sp 186 [Al n,Aa i,Aa v] (.tup [Aa (linkDomT n i v).1,Ab (linkDomT n i v).2]):=cT F186 Tryz.ntmps186 λ F hF=>by
 have q:=Al0 n hn i v
 have hth:=Yi (n:=n) (i:=i) (v:=v)
 have hc:=linkDomT.eq_1 n i v
 generalize linkDomT n i v=r at *
 generalize crossT n i v=x at *
 obtain ⟨far,to,ok⟩:=x
 refine fW ?_
 refine c0 q F254 ?_
 cases ok
 ·rw[zD y_]at hc
  subst hc
  refine fU ?_
  exact dN
 rw[zE rfl]at hc
 have hf:=hth rfl
 dsimp only at hf hc
 have e2:nth n.ports far=n.ports[far.toNat]:=Aj hf.2
 rw[e2]at hc
 obtain ⟨o,ho⟩:∃ o,n.ports[far.toNat]'hf.2=o:=⟨_,rfl⟩
 rw[ho]at hc
 have q2:=Jc n hn o.dev to
 subst hc
 refine A7 3 8 (Al n) E E E ?_
 refine fU ?_
 refine⟨E,hf.1,hf.2,?_⟩
 rw[ho]
 refine fW ?_
 refine cD q2 F129 ?_
 refine fU ?_
 refine⟨z_,?_⟩
 refine fW ?_
 exact dN
theorem Lt (l:List Int) (p:Int→Bool) (f:FuncId) (first cap:List SV) (hc:(SV.clo (.func f) first cap).inn []=true) (hf:∀ x∈l,D9 Tryz.prog f (first++[Aa x]++cap) (Ab (p x))) (hl:Ak l) :
  Sp 352 [.sl 1 Aa l,.clo (.func f) first cap] (Aa (Co p l)):=cT F352 Tryz.ntmps352 λ F hF=>by
 unfold Ak at hl
 have hin:∀ x:Int,By [] (first++[Aa x]++cap)=true:=λ x=>Cs hc rfl
 conv=>whnf
 refine A5 l.length (λ j=>Hc (λ _ x=>!(p x)) l j) (λ j=>[(0,.sl 1 Aa l),(1,.clo (.func f) first cap),(7,Aa l.length),(8,Aa j)]) (λ _=>[]) [] (Bj _ _) ⟨⟨E,E,A8 _,hc,E,E,E,E,Y⟩,Y,E,E⟩ ?_
 intro j hj hI
 refine oO ?_
 constructor<;>intro h
 ·have h:=zK h
  have hj2:j<l.length:=by omega
  refine oO ?_
  refine⟨E,by omega,by omega,?_⟩
  conv=>whnf
  refine Dj (hf l[j] (zJ hj2)) E E E (by simp only[hin];rfl) E E ?_
  refine oO ?_
  constructor<;>intro h2
  ·refine oO ?_
   refine Aq E (.cons .tmp .nil) (zG Aa ?_) E
   exact Cr hj2 (λ i hi hij=>by simpa using hI i hi hij) h2
  ·refine oO ?_
   refine iW ?_
   exact A4 [] hI hj2 (Bh hI hj2 (by simp[h2])) ⟨⟨E,E,A8 _,hc,E,E,E,E,Y⟩,Y,E,E⟩
 ·have h:=zT h
  refine oO ?_
  refine Aq E (.cons .tmp .nil) (zG Aa ?_) E
  exact C7 (λ i hi=>by simpa using hI i hi q_)
theorem Yk (l:List Int) (p:Int→Bool) (f:FuncId) (first cap:List SV) (hc:(SV.clo (.func f) first cap).inn []=true) (hf:∀ x∈l,D9 Tryz.prog f (first++[Aa x]++cap) (Ab (p x))) (hl:Ak l) :
  Sp 396 [.sl 1 Aa l,.clo (.func f) first cap] (Ab (decide (0≤Co p l))):=cT F396 Tryz.ntmps396 λ F hF=>by
 have h0:By [] [.sl 1 Aa l,.clo (.func f) first cap]=true:=by simp only[By,hc];rfl
 conv=>whnf
 refine Kx (Lt l p f first cap hc hf hl) F352 E E (by simp only[h0];rfl) E E ?_
 refine oO ?_
 exact dN
theorem Ad5 (l:List Irb) (p:Irb→Bool) (f:FuncId) (first cap:List SV) (hc:(SV.clo (.func f) first cap).inn []=true) (hf:∀ x∈l,D9 Tryz.prog f (first++[B3 x]++cap) (Ab (p x))) (hl:Ak l) :
  Sp 320 [.sl 5 B3 l,.clo (.func f) first cap] (Aa (Co p l)):=cT F320 Tryz.ntmps320 λ F hF=>by
 unfold Ak at hl
 have hin:∀ x:Irb,By [] (first++[B3 x]++cap)=true:=λ x=>Cs hc rfl
 refine fW ?_
 refine A5 l.length (λ j=>Hc (λ _ x=>!(p x)) l j) (λ j=>[(0,.sl 5 B3 l),(1,.clo (.func f) first cap),(7,Aa l.length),(8,Aa j)]) (λ _=>[]) [] (Bj _ _) ⟨⟨E,E,A8 _,hc,E,E,E,E,Y⟩,Y,E,E⟩ ?_
 intro j hj hI
 refine fU ?_
 constructor<;>intro h
 ·have h:=zK h
  have hj2:j<l.length:=by omega
  refine fU ?_
  refine⟨E,by omega,by omega,?_⟩
  refine fW ?_
  refine Dj (hf l[j] (zJ hj2)) E E E (by simp only[hin];rfl) E E ?_
  refine fU ?_
  constructor<;>intro h2
  ·refine fU ?_
   refine Aq E (.cons .tmp .nil) (zG Aa ?_) E
   exact Cr hj2 (λ i hi hij=>by simpa using hI i hi hij) h2
  ·refine fU ?_
   refine iL ?_
   refine fW ?_
   exact A4 [] hI hj2 (Bh hI hj2 (by simp[h2])) ⟨⟨E,E,A8 _,hc,E,E,E,E,Y⟩,Y,E,E⟩
 ·have h:=zT h
  refine fU ?_
  refine Aq E (.cons .tmp .nil) (zG Aa ?_) E
  exact C7 (λ i hi=>by simpa using hI i hi q_)
theorem Jn (l:List Irb) (p:Irb→Bool) (f:FuncId) (first cap:List SV) (hc:(SV.clo (.func f) first cap).inn []=true) (hf:∀ x∈l,D9 Tryz.prog f (first++[B3 x]++cap) (Ab (p x))) (hl:Ak l) :
  Sp 256 [.sl 5 B3 l,.clo (.func f) first cap] (Ab (decide (0≤Co p l))):=cT F256 Tryz.ntmps256 λ F hF=>by
 have h0:By [] [.sl 5 B3 l,.clo (.func f) first cap]=true:=by simp only[By,hc];rfl
 refine fW ?_
 refine Kx (Ad5 l p f first cap hc hf hl) F320 E E (by simp only[h0];rfl) E E ?_
 refine fU ?_
 exact dN
theorem Azn (v:Vrf) (hv:Ak v.imports) (t:Int):Sp 395 [Aa t,.ref 5 (Ca v) 0] (Ab (inB v.imports t)):=cT F395 Tryz.ntmps395 λ F hF=>by
 have q:=Do v.imports t hv
 conv=>whnf
 refine c0 q F73 ?_
 refine oO ?_
 exact dN
def Aps (n:Net) (i k:Int):Bool:=i == k || (nth n.vrfs i).dev == (nth n.vrfs k).dev && decide (0≤Co (inB (nth n.vrfs k).imports) (nth n.vrfs i).exports)
theorem Anp (n:Net) (hn:n.Fin) (hb:Ac n=true) (i k:Int) (hi:0≤i∧i.toNat<n.vrfs.length) (hk:0≤k∧k.toNat<n.vrfs.length) :
  Sp 376 [Al n,Aa i,Aa k] (Ab (Aps n i k)):=cT F376 Tryz.ntmps376 λ F hF=>by
 have hr:=Ax n hn
 rw[hb]at hr
 have him:=hn.imports _ (zJ hk.2)
 have hex:=hn.exports _ (zJ hi.2)
 rw[Aps,Aj hi.2,Aj hk.2]
 obtain ⟨a,ha⟩:∃ a,n.vrfs[i.toNat]'hi.2=a:=⟨_,rfl⟩
 obtain ⟨b,hbb⟩:∃ b,n.vrfs[k.toNat]'hk.2=b:=⟨_,rfl⟩
 rw[ha]at hex ⊢
 rw[hbb]at him ⊢
 have q:=Yk a.exports (inB b.imports) 395 [] [.ref 5 (Ca b) 0] rfl (λ t _=>⟨⟨_,_,F395⟩,Azn b him t⟩) hex
 conv=>whnf
 refine⟨λ h=>yB (zK h) q_,λ _=>?_⟩
 refine oO ?_
 refine⟨λ h=>yB (zK h) q_,λ _=>?_⟩
 refine oO ?_
 refine⟨λ h=>yB (zK h) q_,λ _=>?_⟩
 refine oO ?_
 refine⟨λ h=>yB (zK h) q_,λ _=>?_⟩
 refine oO ?_
 refine c0 hr F24 ?_
 refine oF ?_
 refine⟨E,hi.1,hi.2,?_⟩
 rw[ha]
 conv=>whnf
 refine⟨E,hk.1,hk.2,?_⟩
 rw[hbb]
 conv=>whnf
 refine kW ?_
 constructor<;>intro h
 ·rw[h,tN]
  refine oO ?_
  exact dN
 rw[h,uP]
 refine oO ?_
 constructor<;>intro h
 ·rw[h,zZ]
  refine A7 8 5 (Ca b) E E E ?_
  refine oO ?_
  refine c0 q F396 ?_
  refine oO ?_
  exact dN
 ·rw[h,yA]
  refine oO ?_
  exact dN
def Mt (n:Net) (i:Int):Int:=(nth n.domains (nth n.irbs i).domain).dev
theorem A1r {n:Net} (h:Ac n=true) {i:Nat} (hi:i<n.irbs.length):Apv n i n.irbs[i]=true:=by
 simp only[Ac,zH]at h
 exact allB_iff.1 h.2 i hi
theorem Ei {n:Net} (h:Ac n=true) {i:Nat} (hi:i<n.irbs.length) :
  (0≤n.irbs[i].domain∧n.irbs[i].domain.toNat<n.domains.length)∧(0≤n.irbs[i].vrf∧n.irbs[i].vrf.toNat<n.vrfs.length)∧(0≤n.irbs[i].bits∧n.irbs[i].bits≤32):=by
 have:=A1r h hi
 simp only[Apv,An,zH,zQ]at this
 omega
theorem K1 (n:Net) (hb:Ac n=true) (i:Int) (hi:0≤i∧i.toNat<n.irbs.length):Sp 337 [Al n,Aa i] (Aa (Mt n i)):=cT F337 Tryz.ntmps337 λ F hF=>by
 have hf:=(Ei hb hi.2).1
 rw[Mt,Aj hi.2]
 obtain ⟨x,hx⟩:∃ x,n.irbs[i.toNat]'hi.2=x:=⟨_,rfl⟩
 rw[hx]at hf ⊢
 rw[Aj hf.2]
 obtain ⟨d,hd⟩:∃ d,n.domains[x.domain.toNat]'hf.2=d:=⟨_,rfl⟩
 rw[hd]
 conv=>whnf
 refine⟨E,hi.1,hi.2,?_⟩
 rw[hx]
 conv=>whnf
 refine⟨E,hf.1,hf.2,?_⟩
 rw[hd]
 conv=>whnf
 refine kW ?_
 exact dN
def Are (n:Net) (i k:Int):Bool:=Mt n i == Mt n k && Aps n (nth n.irbs k).vrf (nth n.irbs i).vrf
theorem Aor (n:Net) (hn:n.Fin) (hb:Ac n=true) (i k:Int) (hi:0≤i∧i.toNat<n.irbs.length) (hk:0≤k∧k.toNat<n.irbs.length) :
  Sp 339 [Al n,Aa i,Aa k] (Ab (Are n i k)):=cT F339 Tryz.ntmps339 λ F hF=>by
 have q1:=K1 n hb i hi
 have q2:=K1 n hb k hk
 have f1:=(Ei hb hi.2).2.1
 have f2:=(Ei hb hk.2).2.1
 have q3:=Anp n hn hb _ _ f2 f1
 rw[Are,Aj hi.2,Aj hk.2]
 obtain ⟨x,hx⟩:∃ x,n.irbs[i.toNat]'hi.2=x:=⟨_,rfl⟩
 obtain ⟨y,hy⟩:∃ y,n.irbs[k.toNat]'hk.2=y:=⟨_,rfl⟩
 rw[hx,hy]at q3
 rw[hx,hy]
 generalize Mt n i=di at *
 generalize Mt n k=dk at *
 conv=>whnf
 refine cD q1 F337 ?_
 refine oD ?_
 refine cD q2 F337 ?_
 refine oD ?_
 constructor<;>intro h
 ·rw[h,zZ]
  refine oD ?_
  refine⟨E,hk.1,hk.2,?_⟩
  rw[hy]
  conv=>whnf
  refine⟨E,hi.1,hi.2,?_⟩
  rw[hx]
  conv=>whnf
  refine cD q3 F376 ?_
  refine oD ?_
  refine kW ?_
  exact dN
 ·rw[h,yA]
  refine oD ?_
  refine kW ?_
  exact dN
abbrev Ark (a b:Int):SV:=.agg [A6 a,Aa b]
theorem Atp (a b:Int) (h:0≤b∧b≤32):Sp 227 [Ark a b] (Ab true):=cT F227 Tryz.ntmps227 λ F hF=>by
 conv=>whnf
 refine⟨λ _=>?_,λ h2=>yB (zT h2) q_⟩
 refine oO ?_
 refine Aq E (.cons .tmp .nil) (zG Ab ?_) E
 simp;omega
def Akz (b:Int):Int:=IntKind.u32.wrap (IntKind.u32.wrap (1 * 2 ^ (min (32-b).toNat IntKind.u32.bits))-1)
theorem Aw1 (a b:Int) (h:0≤b∧b≤32):Sp 228 [Ark a b] (A6 (Akz b)):=cT F228 Tryz.ntmps228 λ F hF=>by
 conv=>whnf
 refine iW ?_
 refine⟨by omega,?_⟩
 conv=>whnf
 exact dN
def Ami (a b x:Int):Bool:=bits .andNot .u32 (bits .xor .u32 a x) (Akz b) == 0
theorem Afc (a b x:Int) (h:0≤b∧b≤32):Sp 338 [Ark a b,A6 x] (Ab (Ami a b x)):=cT F338 Tryz.ntmps338 λ F hF=>by
 have q1:=Atp a b h
 have q2:=Aw1 a b h
 rw[Ami]
 generalize Akz b=r at *
 conv=>whnf
 refine cD q1 F227 ?_
 (refine oD ?_;refine aT ?_;refine oD ?_)
 refine cD q2 F228 ?_
 refine oD ?_
 refine kW ?_
 exact dN
def Ado (c:Int→Int→Int) (l:List Int) (j:Nat):Int:=((l.drop 1).take j).foldl (λ m x=>if 0<c x m then x else m) (nth l 0)
theorem Agw (c:Int→Int→Int) (l:List Int) (j:Nat) (h:j+1<l.length):Ado c l (j+1)=if 0<c l[j+1] (Ado c l j) then l[j+1] else Ado c l j:=by
 have hl:j<(l.drop 1).length:=by rw[yM];omega
 rw[Ado,zW hl,xF]
 have e:(l.drop 1)[j]=l[j+1]:=by rw[vC];congr 1;omega
 simp only[uD,uX,e]
 rfl
theorem Xp (c:Int→Int→Int) (l:List Int) (h:0<l.length):∀ j,j+1≤l.length→Ado c l j∈l
 | 0,_=>by
  rw[Ado,List.take_zero,uX,Aj (l:=l) (i:=0) (by simpa using h)]
  exact zJ _
 | j+1,hj=>by
  rw[Agw c l j q_]
  split
  ·exact zJ _
  ·exact Xp c l h j q_
theorem Axp (l:List Int) (c:Int→Int→Int) (f:FuncId) (first cap:List SV) (hc:(SV.clo (.func f) first cap).inn []=true) (h0:0<l.length) (hl:Ak l)
  (hf:∀ x∈l,∀ y∈l,D9 Tryz.prog f (first++[Aa x,Aa y]++cap) (Aa (c x y))) :
  Sp 341 [.sl 1 Aa l,.clo (.func f) first cap] (Aa (Ado c l (l.length-1))):=cT F341 Tryz.ntmps341 λ F hF=>by
 unfold Ak at hl
 have hin:∀ x y:Int,By [] (first++[Aa x,Aa y]++cap)=true:=λ x y=>Cs hc rfl
 have hmem:=Xp c l h0
 have hsucc:=Agw c l
 have hz:Ado c l 0=l[0]:=by rw[Ado,List.take_zero,uX,Aj (l:=l) (i:=0) (by simpa using h0)];rfl
 generalize Ado c l=m at *
 conv=>whnf
 refine⟨λ h=>yB (zK h) q_,λ _=>?_⟩
 refine oO ?_
 refine⟨E,by omega,by simpa using h0,?_⟩
 conv=>whnf
 refine A9 (l.length-1) (λ j=>[(0,.sl 1 Aa l),(1,.clo (.func f) first cap),(5,Aa (m j)),(6,Aa ((j:Int)+1))]) (λ _=>[]) []
  ⟨⟨rfl,rfl,A8 _,hc,zG Aa hz,rfl,rfl,rfl,trivial⟩,trivial,rfl,rfl⟩ ?_
 intro j hj
 have hmj:=hmem j q_
 have hsj:=hsucc j
 refine oO ?_
 constructor<;>intro h
 ·have hlt:j+1<l.length:=qA h
  have hsj:=hsj hlt
  have hk:((j:Int)+1).toNat<l.length:=by omega
  have e1:l[((j:Int)+1).toNat]'hk=l[j+1]:=by congr 1
  obtain ⟨x,hx⟩:∃ x,l[j+1]=x:=⟨_,rfl⟩
  have hxm:x∈l:=hx ▸ zJ hlt
  rw[hx]at e1 hsj
  refine oO ?_
  refine⟨E,by omega,hk,?_⟩
  rw[e1]
  conv=>whnf
  refine Dj (hf x hxm (m j) hmj) E E E (by simp only[hin];rfl) E E ?_
  refine oO ?_
  constructor<;>intro h2
  ·rw[zE (zK h2)]at hsj
   refine oO ?_
   refine⟨E,by omega,hk,?_⟩
   rw[e1]
   conv=>whnf
   refine iW ?_
   exact A2 [] q_ ⟨⟨E,E,A8 _,hc,zG Aa hsj,E,zG Aa q_,E,Y⟩,Y,E,E⟩
  ·rw[zD (zT h2)]at hsj
   refine oO ?_
   refine iW ?_
   exact A2 [] q_ ⟨⟨E,E,A8 _,hc,zG Aa hsj,E,zG Aa q_,E,Y⟩,Y,E,E⟩
 ·have:j=l.length-1:=qB h
  subst this
  refine oO ?_
  exact dN
def Ait (n:Net) (irb i:Int):Int:=if (nth n.irbs i).vrf=(nth n.irbs irb).vrf then 1 else 0
abbrev InIrbs (n:Net) (i:Int):Prop:=0≤i∧i.toNat<n.irbs.length
theorem Alz (n:Net) (irb i:Int) (hi:InIrbs n i) (hk:InIrbs n irb):Sp 340 [Aa i,.ref 8 (Al n) 0,.ref 1 (Aa irb) 0] (Aa (Ait n irb i)):=cT F340 Tryz.ntmps340 λ F hF=>by
 rw[Ait,Aj hi.2,Aj hk.2]
 obtain ⟨x,hx⟩:∃ x,n.irbs[i.toNat]'hi.2=x:=⟨_,rfl⟩
 obtain ⟨y,hy⟩:∃ y,n.irbs[irb.toNat]'hk.2=y:=⟨_,rfl⟩
 rw[hx,hy]
 conv=>whnf
 refine⟨E,hi.1,hi.2,?_⟩
 rw[hx]
 conv=>whnf
 refine⟨E,hk.1,hk.2,?_⟩
 rw[hy]
 conv=>whnf
 refine kW ?_
 constructor<;>intro h
 ·rw[zE (by simpa using h)]
  refine oO ?_
  exact dN
 ·rw[zD (by simpa using h)]
  refine oO ?_
  exact dN
def Aux (n:Net) (irb a b:Int):Int:=if (nth n.irbs a).bits≠(nth n.irbs b).bits then (nth n.irbs a).bits-(nth n.irbs b).bits else Ait n irb a-Ait n irb b
theorem Arm (n:Net) (irb i:Int):0≤Ait n irb i∧Ait n irb i≤1:=by
 unfold Ait;split<;>omega
theorem Axt (n:Net) (hb:Ac n=true) (irb a b:Int) (hk:InIrbs n irb) (ha:InIrbs n a) (hb2:InIrbs n b) :
  Sp 342 [Aa a,Aa b,.ref 8 (Al n) 0,.ref 1 (.clo (.func 340) [] [.ref 8 (Al n) 0,.ref 1 (Aa irb) 0]) 0] (Aa (Aux n irb a b)):=cT F342 Tryz.ntmps342 λ F hF=>by
 have fa:=(Ei hb ha.2).2.2
 have fb:=(Ei hb hb2.2).2.2
 have q1:=Alz n irb a ha hk
 have q2:=Alz n irb b hb2 hk
 have l1:=Arm n irb a
 have l2:=Arm n irb b
 rw[Aux,Aj ha.2,Aj hb2.2]
 obtain ⟨x,hx⟩:∃ x,n.irbs[a.toNat]'ha.2=x:=⟨_,rfl⟩
 obtain ⟨y,hy⟩:∃ y,n.irbs[b.toNat]'hb2.2=y:=⟨_,rfl⟩
 rw[hx]at fa ⊢
 rw[hy]at fb ⊢
 generalize Ait n irb a=oa at *
 generalize Ait n irb b=ob at *
 conv=>whnf
 refine⟨E,ha.1,ha.2,?_⟩
 rw[hx]
 conv=>whnf
 refine⟨E,hb2.1,hb2.2,?_⟩
 rw[hy]
 conv=>whnf
 refine kW ?_
 constructor<;>intro h
 ·rw[zE (by simpa using h)]
  refine oO ?_
  refine iW ?_
  exact dN
 ·rw[zD (by simpa using h)]
  refine oO ?_
  refine Aqq ⟨⟨_,_,F340⟩,q1⟩ E E E E z_ E ?_
  refine oD ?_
  refine Aqq ⟨⟨_,_,F340⟩,q2⟩ E E E E z_ E ?_
  refine oD ?_
  refine iW ?_
  refine kW ?_
  exact dN
def Y6 (n:Net) (irb dst:Int) (i:Nat):Bool:=Mt n i == Mt n irb && (nth n.irbs i).addr == dst
def Yy (n:Net) (irb dst:Int) (i:Nat):Bool:=Ami (nth n.irbs i).addr (nth n.irbs i).bits dst && Are n irb i
def Qu (n:Net) (irb dst:Int):List Int:=Lw (Yy n irb dst) n.irbs.length
def lookT (n:Net) (irb dst:Int):Int × Bool :=
 if (List.range n.irbs.length).any (Y6 n irb dst)=true then (0,false)
 else if Qu n irb dst=[] then (0,false) else (Ado (Aux n irb) (Qu n irb dst) ((Qu n irb dst).length-1),true)
theorem Ars (n:Net) (hn:n.Fin) (hb:Ac n=true) (irb dst:Int) (hk:InIrbs n irb):Sp 279 [Al n,Aa irb,A6 dst] (.tup [Aa (lookT n irb dst).1,Ab (lookT n irb dst).2]):=cT F279 Tryz.ntmps279 λ F hF=>by
 have hlk:=lookT.eq_1 n irb dst
 generalize lookT n irb dst=r at *
 have hsi:=hn.irbs
 unfold Ak at hsi
 have qk:=K1 n hb irb hk
 conv=>whnf
 refine A7 3 8 (Al n) E E E ?_
 refine A7 4 1 (Aa irb) E E E ?_
 refine B9 8 1000 1 Aa E E ?_
 refine A5 n.irbs.length (λ j=>∀ i,i<j→Y6 n irb dst i=false) (λ j=>[(2,A6 dst),(3,.ref 8 (Al n) 0),(4,.ref 1 (Aa irb) 0),(8,.osl 1000),(13,.sl 5 B3 n.irbs),(14,Aa n.irbs.length),(15,Aa j)]) (λ j=>[(1000,.row 1 Aa (Lw (Yy n irb dst) j))]) [] (λ i hi=>yB hi q_)
  ⟨⟨rfl,rfl,rfl,rfl,rfl,rfl,rfl,rfl,rfl,rfl,rfl,rfl,rfl,rfl,trivial⟩,⟨.inl rfl,rfl,trivial⟩,rfl,rfl⟩ ?_
 intro j hj hI
 refine oO ?_
 constructor<;>intro h
 ·have hlt:j<n.irbs.length:=by simpa using h
  have hij:InIrbs n (j:Int):=⟨by omega,by simpa using hlt⟩
  have qj:=K1 n hb j hij
  have hsucc:=Aeg (Yy n irb dst) j
  have hfl:=H2 (Yy n irb dst) j
  have hta:Y6 n irb dst j=(Mt n j == Mt n irb && (nth n.irbs j).addr == dst):=rfl
  have hwa:Yy n irb dst j=(Ami (nth n.irbs j).addr (nth n.irbs j).bits dst && Are n irb j):=rfl
  have enj:nth n.irbs (j:Int)=n.irbs[j]:=Aj (l:=n.irbs) (i:=(j:Int)) (by simpa using hlt)
  have hf:=(Ei hb hlt).2.2
  have e1:n.irbs[(j:Int).toNat]'q_=n.irbs[j]:=rfl
  rw[enj]at hta hwa
  obtain ⟨x,hx⟩:∃ x,n.irbs[j]=x:=⟨_,rfl⟩
  rw[hx]at e1 hta hwa hf
  have q1:=Afc x.addr x.bits dst hf
  have q2:=Aor n hn hb irb j hk hij
  rw[hwa]at hsucc
  obtain ⟨u,hu⟩:∃ u,Lw (Yy n irb dst) j=u:=⟨_,rfl⟩
  rw[hu]at hsucc hfl ⊢
  refine oO ?_
  refine⟨E,by omega,by omega,?_⟩
  rw[e1]
  conv=>whnf
  refine cD qj F337 ?_
  refine oD ?_
  refine cD qk F337 ?_
  refine oD ?_
  constructor<;>intro h2
  ·rw[h2,zZ]at hta
   refine oD ?_
   refine kW ?_
   constructor<;>intro h3
   ·have:(List.range n.irbs.length).any (Y6 n irb dst)=true:=uV.2 ⟨j,by simpa using hlt,hta.trans h3⟩
    rw[zE this]at hlk
    subst hlk
    refine oO ?_
    exact dN
   ·have hnt:=hta.trans h3
    refine oO ?_
    refine c0 q1 F338 ?_
    refine oO ?_
    constructor<;>intro h4
    ·rw[h4,zZ]at hsucc
     refine oO ?_
     refine c0 q2 F339 ?_
     refine oO ?_
     constructor<;>intro h5
     ·rw[zE h5]at hsucc
      refine oO ?_
      refine Af (Ae Γ.toTy 47 E E E E E (.row E) (.lit (e:=Aa) (l:=[(j:Int)]) E E) y_ (by simp;omega) (by simp;omega)) E E ?_
      refine oO ?_
      refine iW ?_
      exact A4 [(1000,47)] hI hlt (λ i hi=>if e:i=j then (by rw[e];exact hnt) else hI i q_) ⟨⟨E,E,E,E,E,E,E,E,E,E,E,E,E,E,Y⟩,⟨.inl (zG (Ob.row 1 Aa) hsucc),E,Y⟩,E,E⟩
     ·rw[zD (by simp[h5])]at hsucc
      refine oO ?_
      refine iW ?_
      exact A4 [] hI hlt (λ i hi=>if e:i=j then (by rw[e];exact hnt) else hI i q_) ⟨⟨E,E,E,E,E,E,E,E,E,E,E,E,E,E,Y⟩,⟨.inl (zG (Ob.row 1 Aa) hsucc),E,Y⟩,E,E⟩
    ·rw[zD (by simp[h4])]at hsucc
     refine oF ?_
     refine iW ?_
     exact A4 [] hI hlt (λ i hi=>if e:i=j then (by rw[e];exact hnt) else hI i q_) ⟨⟨E,E,E,E,E,E,E,E,E,E,E,E,E,E,Y⟩,⟨.inl (zG (Ob.row 1 Aa) hsucc),E,Y⟩,E,E⟩
  ·have hnt:Y6 n irb dst j=false:=by rw[hta,h2,yA]
   refine oD ?_
   refine⟨z_,?_⟩
   ((conv=>whnf);refine aF ?_;refine rg ?_;conv=>whnf)
   refine c0 q1 F338 ?_
   refine oO ?_
   constructor<;>intro h4
   ·rw[h4,zZ]at hsucc
    refine oO ?_
    refine c0 q2 F339 ?_
    refine oO ?_
    constructor<;>intro h5
    ·rw[zE h5]at hsucc
     refine oO ?_
     refine Af (Ae Γ.toTy 47 E E E E E (.row E) (.lit (e:=Aa) (l:=[(j:Int)]) E E) y_ (by simp;omega) (by simp;omega)) E E ?_
     refine oO ?_
     refine iW ?_
     exact A4 [(1000,47)] hI hlt (λ i hi=>if e:i=j then (by rw[e];exact hnt) else hI i q_) ⟨⟨E,E,E,E,E,E,E,E,E,E,E,E,E,E,Y⟩,⟨.inl (zG (Ob.row 1 Aa) hsucc),E,Y⟩,E,E⟩
    ·rw[zD (by simp[h5])]at hsucc
     refine oO ?_
     refine iW ?_
     exact A4 [] hI hlt (λ i hi=>if e:i=j then (by rw[e];exact hnt) else hI i q_) ⟨⟨E,E,E,E,E,E,E,E,E,E,E,E,E,E,Y⟩,⟨.inl (zG (Ob.row 1 Aa) hsucc),E,Y⟩,E,E⟩
   ·rw[zD (by simp[h4])]at hsucc
    refine oF ?_
    refine iW ?_
    exact A4 [] hI hlt (λ i hi=>if e:i=j then (by rw[e];exact hnt) else hI i q_) ⟨⟨E,E,E,E,E,E,E,E,E,E,E,E,E,E,Y⟩,⟨.inl (zG (Ob.row 1 Aa) hsucc),E,Y⟩,E,E⟩
 ·have:j=n.irbs.length:=qB h
  subst this
  have hno:¬ (List.range n.irbs.length).any (Y6 n irb dst)=true:=λ h=>by
   obtain ⟨i,h1,h2⟩:=uV.1 h
   rw[hI i (by simpa using h1)]at h2
   cases h2
  rw[zD hno]at hlk
  have hin:∀ y∈Qu n irb dst,InIrbs n y:=λ y hy=>by
   have:=(Uf (p:=Yy n irb dst) (j:=n.irbs.length)).1 hy
   exact⟨this.1,by omega⟩
  have hwl:=H2 (Yy n irb dst) n.irbs.length
  have hwe:Lw (Yy n irb dst) n.irbs.length=Qu n irb dst:=rfl
  rw[hwe]at hwl ⊢
  have q:∀ h0:0<(Qu n irb dst).length,_:=λ h0=>Axp (Qu n irb dst) (Aux n irb) 342 [] [.ref 8 (Al n) 0,.ref 1 (.clo (.func 340) [] [.ref 8 (Al n) 0,.ref 1 (Aa irb) 0]) 0] rfl h0 (by unfold Ak;omega) (λ y hy z hz=>⟨⟨_,_,F342⟩,Axt n hb irb y z hk (hin y hy) (hin z hz)⟩)
  generalize Qu n irb dst=l at *
  refine Ag 1000 E ?_
  refine oO ?_
  constructor<;>intro h3
  ·have h4:l=[]:=by simpa using h3
   rw[zE h4]at hlk
   subst hlk
   refine oO ?_
   exact dN
  ·have h4:¬ l=[]:=by simpa using h3
   rw[zD h4]at hlk
   have q:=q (xO.2 h4)
   subst hlk
   refine oO ?_
   refine A7 11 1 (.clo (.func 340) [] [.ref 8 (Al n) 0,.ref 1 (Aa irb) 0]) E E E ?_
   refine oO ?_
   refine c0 q F341 ?_
   refine oO ?_
   exact dN
theorem Aig (n:Net) (hn:n.Fin) (hb:Ac n=true) (irb dst:Int) (hk:InIrbs n irb):Sp 255 [Al n,Aa irb,A6 dst] (.tup [Aa (lookT n irb dst).1,Ab (lookT n irb dst).2]):=cT F255 Tryz.ntmps255 λ F hF=>by
 have hr:=Ax n hn
 rw[hb]at hr
 have q:=Ars n hn hb irb dst hk
 generalize lookT n irb dst=r at *
 refine fW ?_
 refine⟨λ h=>yB (zK h) q_,λ _=>?_⟩
 refine fU ?_
 refine⟨λ h=>yB (zK h) q_,λ _=>?_⟩
 refine fU ?_
 refine c0 hr F24 ?_
 refine fU ?_
 refine c0 q F279 ?_
 refine fU ?_
 exact dN
theorem S5 {n:Net} {irb dst:Int} (h:(lookT n irb dst).2=true):InIrbs n (lookT n irb dst).1:=by
 unfold lookT at h ⊢
 split at h
 ·cases h
 rename_i h1
 rw[zD h1]
 split at h
 ·cases h
 rename_i h2
 rw[zD h2]
 have hm:=Xp (Aux n irb) (Qu n irb dst) (xO.2 h2) ((Qu n irb dst).length-1) (by have:=xO.2 h2;omega)
 have:=(Uf (p:=Yy n irb dst) (j:=n.irbs.length)).1 hm
 exact⟨this.1,by omega⟩
end Go.Sy.YtiijbikecbjdaaaGreatDoor
namespace Go.Sy.YtiijbikecbjdaaaGreatDoor
open Go.Proofs
set_option maxRecDepth 20000
set_option maxHeartbeats 4000000
theorem T9 {x:Int} (h0:0≤x) (h1:x<4294967297):IntKind.i64.wrap x=x:=by
 rw[IntKind.wrap_i64];omega
theorem Asm {x:Int} (h0:0≤x) (h1:x<4294967296):IntKind.u32.wrap x=x:=by
 rw[IntKind.wrap_u32];omega
theorem Ago (b:Int) (h:0≤b∧b≤32):Akz b=((2 ^ (32-b).toNat-1:Nat):Int):=by
 obtain ⟨k,hk,hk2⟩:∃ k:Nat,(32-b).toNat=k∧k≤32:=⟨_,rfl,by omega⟩
 have h1:min (32-b).toNat IntKind.u32.bits=k:=by show min (32-b).toNat 32=k;omega
 have hp:=wS (n:=2) j_ hk2
 have e32:(2:Nat) ^ 32=4294967296:=rfl
 rw[e32]at hp
 have h0:=wU (n:=k)
 rw[Akz,h1,hk,IntKind.wrap_u32,IntKind.wrap_u32,show (2:Int) ^ k=((2 ^ k:Nat):Int) by rw[uK];rfl]
 generalize 2 ^ k=q at *
 omega
theorem Ayc (a b x:Int) (hb:0≤b∧b≤32) (ha:0≤a∧a<4294967296) (hx:0≤x∧x<4294967296):Ami a b x=true↔Ib a b≤x∧x≤Lr a b:=by
 obtain ⟨a,rfl⟩:=xA ha.1
 obtain ⟨x,rfl⟩:=xA hx.1
 obtain ⟨k,hk,hk2⟩:∃ k:Nat,(32-b).toNat=k∧k≤32:=⟨_,rfl,by omega⟩
 have h0:=wU (n:=k)
 rw[Ami,Ago b hb,hk,Axq a x k q_ q_ hk2,decide_eq_true_iff,Atb a x (2 ^ k) q_,Jw a k b hb hk,Zq a k b hb hk]
 omega
theorem Xw (a b:Int) (ha:0≤a∧a<4294967296):0≤Lr a b∧Lr a b<4294967296:=by
 by_cases hb:0≤b∧b≤32
 ·obtain ⟨a,rfl⟩:=xA ha.1
  obtain ⟨k,hk,hk2⟩:∃ k:Nat,(32-b).toNat=k∧k≤32:=⟨_,rfl,by omega⟩
  have h0:=wU (n:=k)
  rw[Zq a k b hb hk]
  have hd:a-a % 2 ^ k=2 ^ k * (a / 2 ^ k):=by have:=vR a (2 ^ k);omega
  have h32:2 ^ k * 2 ^ (32-k)=4294967296:=by
   rw[← Nat.pow_add,show k+(32-k)=32 by omega]
  have:a / 2 ^ k<2 ^ (32-k):=by rw[Nat.div_lt_iff_lt_mul q_,vH,h32];omega
  have:2 ^ k * (a / 2 ^ k)+2 ^ k≤2 ^ k * 2 ^ (32-k):=by
   rw[← Nat.mul_succ];exact Nat.mul_le_mul_left _ this
  omega
 ·rw[Lr,zD hb];omega
theorem Ahk (a b:Int) (ha:0≤a∧a<4294967296):0≤Ib a b∧Ib a b<4294967296:=by
 by_cases hb:0≤b∧b≤32
 ·obtain ⟨a,rfl⟩:=xA ha.1
  rw[Jw a _ b hb rfl]
  omega
 ·rw[Ib,zD hb];omega
end Go.Sy.YtiijbikecbjdaaaGreatDoor
namespace Go.Sy.YtiijbikecbjdaaaGreatDoor
open Go.Proofs
attribute [local irreducible] Go.Sy.G Go.Sy.DR
set_option maxRecDepth 20000
set_option maxHeartbeats 4000000
theorem At5 {n:Net} {irb dst:Int} (h:(lookT n irb dst).2=true):Yy n irb dst (lookT n irb dst).1.toNat=true:=by
 unfold lookT at h ⊢
 split at h
 ·cases h
 rename_i h1
 rw[zD h1]
 split at h
 ·cases h
 rename_i h2
 rw[zD h2]
 have hm:=Xp (Aux n irb) (Qu n irb dst) (xO.2 h2) ((Qu n irb dst).length-1) (by have:=xO.2 h2;omega)
 exact((Uf (p:=Yy n irb dst) (j:=n.irbs.length)).1 hm).2.2
theorem Atc (x:Int) (i:Irb):Sp 321 [B3 i,.ref 1 (A6 x) 0] (Ab (i.addr == x)):=cT F321 Tryz.ntmps321 λ F hF=>by
 refine fW ?_
 exact dN
theorem Atd (x:Int) (i:Irb):Sp 257 [B3 i,.ref 1 (A6 x) 0] (Ab (i.addr == x)):=cT F257 Tryz.ntmps257 λ F hF=>by
 refine fW ?_
 exact dN
def Ow (n:Net) (a:Int):Bool:=decide (0≤Co (λ i:Irb=>i.addr == a) n.irbs)
def pastI (n:Net) (a led:Int):Int:=if Ow n a=true then a+1 else Lr (nth n.irbs led).addr (nth n.irbs led).bits+1
theorem Am1 (n:Net) (hn:n.Fin) (hu:C8 n) (a led:Int) (ha:0≤a∧a<4294967296) (hl:Ow n a=false→InIrbs n led) :
  Sp 258 [Al n,A6 a,Aa led] (Aa (pastI n a led)):=cT F258 Tryz.ntmps258 λ F hF=>by
 have hlk:=pastI.eq_1 n a led
 generalize pastI n a led=res at *
 have q7:=Jn n.irbs (λ i:Irb=>i.addr == a) 321 [] [.ref 1 (A6 a) 0] rfl (λ i _=>⟨⟨_,_,F321⟩,Atc a i⟩) hn.irbs
 have ht:decide (0≤Co (λ i:Irb=>i.addr == a) n.irbs)=Ow n a:=rfl
 rw[ht]at q7
 generalize Ow n a=tk at *
 refine fW ?_
 refine A7 3 8 (Al n) E E E ?_
 refine A7 4 1 (A6 a) E E E ?_
 refine fU ?_
 refine c0 q7 F256 ?_
 cases tk
 rotate_left
 ·rw[zE rfl]at hlk
  subst hlk
  refine fU ?_
  rw[T9 q_ q_]
  refine iL ?_
  refine fW ?_
  exact dN
 rw[zD y_]at hlk
 have hli:=hl rfl
 rw[Aj hli.2]at hlk
 have hui:=hu _ (zJ hli.2)
 obtain ⟨x,hx⟩:∃ x,n.irbs[led.toNat]'hli.2=x:=⟨_,rfl⟩
 rw[hx]at hlk hui
 obtain ⟨y,hy⟩:=xA hui.1
 have q:=Z0 y x.bits q_
 have hle:=Xw x.addr x.bits hui
 rw[← hy]at q
 generalize Lr x.addr x.bits=z at *
 subst hlk
 refine fU ?_
 refine⟨E,hli.1,hli.2,?_⟩
 rw[hx]
 refine fW ?_
 first | refine cD q F171 ?_ | refine c0 q F171 ?_
 refine fU ?_
 rw[T9 q_ q_]
 refine iL ?_
 refine fW ?_
 exact dN
theorem Aw2 {n:Net} (hu:C8 n) (hb:Ac n=true) {irb a:Int} (ha:0≤a∧a<4294967296) (h:Ow n a=false→(lookT n irb a).2=true) :
  a<pastI n a (lookT n irb a).1∧pastI n a (lookT n irb a).1≤4294967296:=by
 rw[pastI]
 split
 ·omega
 rename_i ht
 have h2:=h (by simpa using ht)
 have hw:=At5 h2
 have hi:=S5 h2
 have e:((lookT n irb a).1.toNat:Int)=(lookT n irb a).1:=by have:=hi.1;omega
 rw[Yy,zH,e]at hw
 rw[Aj hi.2]at hw ⊢
 have hui:=hu _ (zJ hi.2)
 have hbi:=(Ei hb hi.2).2.2
 have h3:=(Ayc _ _ _ hbi hui ha).1 hw.1
 have h4:=Xw _ (n.irbs[(lookT n irb a).1.toNat]'hi.2).bits hui
 omega
def addrGo (n:Net) (irb to e:Int) (x:Int):Int × Bool :=
 if x≤e then
  if (lookT n irb x).2=true∧(lookT n irb x).1=to∧Ow n x=false then (x,true)
  else if (lookT n irb x).2=false∧Ow n x=false then (0,false)
  else if x<pastI n x (lookT n irb x).1 then addrGo n irb to e (pastI n x (lookT n irb x).1) else (0,false)
 else (0,false)
 termination_by (e+1-x).toNat
 decreasing_by omega
def addrT (n:Net) (irb to:Int):Int × Bool :=
 if (0≤irb∧irb<n.irbs.length)∧(0≤to∧to<n.irbs.length)∧Ac n=true then
  addrGo n irb to (Lr (nth n.irbs to).addr (nth n.irbs to).bits) (Ib (nth n.irbs to).addr (nth n.irbs to).bits) else (0,false)
theorem Aez (n:Net) (hn:n.Fin) (hu:C8 n) (irb to:Int):Sp 187 [Al n,Aa irb,Aa to] (.tup [A6 (addrT n irb to).1,Ab (addrT n irb to).2]):=cT F187 Tryz.ntmps187 λ F hF=>by
 have hlk:=addrT.eq_1 n irb to
 generalize addrT n irb to=res at *
 have hr:=Ax n hn
 have hsi:=hn.irbs
 unfold Ak at hsi
 refine fW ?_
 constructor<;>intro h
 ·rw[zD (qA h)]at hlk
  subst hlk
  refine fU ?_
  exact dN
 have h1:¬ irb<0:=zT h
 refine fU ?_
 constructor<;>intro h
 ·rw[zD (qA h)]at hlk
  subst hlk
  refine fU ?_
  exact dN
 have h2:¬ to<0:=zT h
 refine A7 3 8 (Al n) E E E ?_
 refine fU ?_
 constructor<;>intro h
 ·rw[zD (qA h)]at hlk
  subst hlk
  refine fU ?_
  exact dN
 have h3:irb<n.irbs.length:=qB h
 refine fU ?_
 constructor<;>intro h
 ·rw[zD (qA h)]at hlk
  subst hlk
  refine fU ?_
  exact dN
 have h4:to<n.irbs.length:=qB h
 refine fU ?_
 refine c0 hr F24 ?_
 cases hb:Ac n
 ·rw[zD (by simp[hb])]at hlk
  subst hlk
  refine fU ?_
  exact dN
 rw[zE ⟨⟨by omega,h3⟩,⟨by omega,h4⟩,hb⟩]at hlk
 have hti:InIrbs n to:=⟨by omega,by omega⟩
 have hii:InIrbs n irb:=⟨by omega,by omega⟩
 rw[Aj hti.2]at hlk
 have hui:=hu _ (zJ hti.2)
 obtain ⟨x,hx⟩:∃ x,n.irbs[to.toNat]'hti.2=x:=⟨_,rfl⟩
 rw[hx]at hlk hui
 obtain ⟨y,hy⟩:=xA hui.1
 have q1:=Afd y x.bits q_
 have q2:=Z0 y x.bits q_
 have hf:=Ahk x.addr x.bits hui
 have hle:=Xw x.addr x.bits hui
 rw[← hy]at q1 q2
 generalize Lr x.addr x.bits=e at *
 generalize Ib x.addr x.bits=s at *
 refine fU ?_
 refine⟨E,hti.1,hti.2,?_⟩
 rw[hx]
 refine fW ?_
 refine cD q1 F170 ?_
 refine fU ?_
 refine cD q2 F171 ?_
 refine fU ?_
 refine⟨z_,?_⟩
 refine fW ?_
 refine B6 (λ z:Int=>0≤z∧z≤4294967296∧res=addrGo n irb to e z) (λ z=>[(1,Aa irb),(2,Aa to),(3,.ref 8 (Al n) 0),(9,Aa z),(10,Aa e)]) (λ _=>[]) (λ z=>(e+1-z).toNat) s [] ⟨hf.1,by omega,hlk⟩
  ⟨⟨rfl,rfl,rfl,rfl,rfl,rfl,zG Aa (T9 (x:=s) q_ q_).symm,rfl,zG Aa (T9 (x:=e) q_ q_).symm,rfl,trivial⟩,trivial,rfl,rfl⟩ ?_
 clear hlk
 rintro z ⟨hz0,hz1,hlk⟩
 refine fU ?_
 constructor<;>intro h
 ·have h5:z≤e:=zK h
  rw[addrGo,zE h5]at hlk
  have hz2:0≤z∧z<4294967296:=by omega
  have q6:=Aig n hn hb irb z hii
  have hgt:=Aw2 (irb:=irb) hu hb hz2
  have hth:=S5 (n:=n) (irb:=irb) (dst:=z)
  have q8:=λ led hl=>Am1 n hn hu z led hz2 hl
  have q7:=Jn n.irbs (λ i:Irb=>i.addr == z) 257 [] [.ref 1 (A6 z) 0] rfl (λ i _=>⟨⟨_,_,F257⟩,Atd z i⟩) hn.irbs
  have ht:decide (0≤Co (λ i:Irb=>i.addr == z) n.irbs)=Ow n z:=rfl
  rw[ht]at q7
  clear ht
  generalize Ow n z=tk at *
  generalize lookT n irb z=ld at *
  obtain ⟨led,ok⟩:=ld
  dsimp only at *
  refine fU ?_
  rw[Asm hz2.1 hz2.2]
  refine c0 q6 F255 ?_
  refine A7 11 1 (A6 z) E E E ?_
  refine fU ?_
  refine c0 q7 F256 ?_
  cases ok
  ·cases tk
   ·rw[zD y_,zE ⟨rfl,rfl⟩]at hlk
    subst hlk
    refine fU ?_
    exact dN
   ·rw[zD y_,zD y_,zE (hgt (λ h=>by cases h)).1]at hlk
    have hg:=hgt (λ h=>by cases h)
    have q:=q8 led (λ h=>by cases h)
    generalize pastI n z led=nx at *
    refine fU ?_
    refine c0 q F258 ?_
    refine fU ?_
    exact Av nx [] ⟨by omega,hg.2,hlk⟩ q_ ⟨⟨E,E,E,E,E,E,E,E,E,E,Y⟩,Y,E,E⟩
  ·have q:=q8 led (λ _=>hth rfl)
   have hg:=hgt (λ _=>rfl)
   cases tk
   ·by_cases hto:led=to
    ·subst hto
     rw[zE ⟨rfl,rfl,rfl⟩]at hlk
     subst hlk
     refine fU ?_
     constructor<;>intro h
     ·refine fU ?_
      exact dN
     ·simp at h
    ·rw[zD (by simp[hto]),zD y_,zE hg.1]at hlk
     generalize pastI n z led=nx at *
     refine fU ?_
     refine⟨λ h=>yB (by simpa using h) hto,λ h=>?_⟩
     refine fU ?_
     refine c0 q F258 ?_
     refine fU ?_
     exact Av nx [] ⟨by omega,hg.2,hlk⟩ q_ ⟨⟨E,E,E,E,E,E,E,E,E,E,Y⟩,Y,E,E⟩
   ·rw[zD y_,zD y_,zE hg.1]at hlk
    generalize pastI n z led=nx at *
    refine fU ?_
    constructor<;>intro h
    ·refine fU ?_
     refine c0 q F258 ?_
     refine fU ?_
     exact Av nx [] ⟨by omega,hg.2,hlk⟩ q_ ⟨⟨E,E,E,E,E,E,E,E,E,E,Y⟩,Y,E,E⟩
    ·refine fU ?_
     refine c0 q F258 ?_
     refine fU ?_
     exact Av nx [] ⟨by omega,hg.2,hlk⟩ q_ ⟨⟨E,E,E,E,E,E,E,E,E,E,Y⟩,Y,E,E⟩
 ·have h5:¬ z≤e:=zT h
  rw[addrGo,zD h5]at hlk
  subst hlk
  refine fU ?_
  exact dN
end Go.Sy.YtiijbikecbjdaaaGreatDoor
namespace Go.Sy.YtiijbikecbjdaaaGreatDoor
open Go.Proofs
theorem J6 (a b:ByteArray):(a == b)=true↔a=b:=by
 cases a with
 | mk a =>
  cases b with
  | mk b =>
   show (a == b)=true↔_
   simp
instance:LawfulBEq ByteArray where
 eq_of_beq h:=(J6 _ _).1 h
 rfl:=(J6 _ _).2 rfl
def Axy (c:UInt8):Bool:=decide (97≤c.toNat) && decide (c.toNat≤122)
def A1n:List UInt8→Bool
 | []=>false
 | c::l=>Axy c && l.all λ c=>Axy c || Jp c
def Ay (s:ByteArray):Bool:=A1n s.data.toList && decide (s.size≤12)
def Xq (s:ByteArray) (i:Nat):Bool:=decide (digI (Bn s (3 * i))≤15) && decide (digI (Bn s (3 * i+1))≤15) && (decide (5≤i) || decide ((Bn s (3 * i+2)).toNat=58))
def Un (s:ByteArray):Nat→Int
 | 0=>0
 | i+1=>Un s i * 256+digI (Bn s (3 * i)) * 16+digI (Bn s (3 * i+1))
def macR (s:ByteArray):Int × Bool:=if s.size=17∧(List.range 6).all (Xq s)=true then (Un s 6,true) else (0,false)
def Qf (m:Int):Bool:=decide (m % 281474976710656 / 4294967296=512)
def statB (m:Int):Bool:=decide (m≤281474976710655) && !(Qf m) && !(Iu m.toNat)
def H1 (one:ByteArray→Int × Bool):List Int→List ByteArray→List Int × Bool
 | out,[]=>(out,true)
 | out,p::r=>if (one p).2=false∨out.length=16∨(∃ x,out.getLast? = some x∧(one p).1≤x) then ([],false) else H1 one (out++[(one p).1]) r
def Hh (one:ByteArray→Int × Bool) (s:ByteArray):List Int × Bool:=H1 one [] (Cp 44 s)
def A04:ByteArray:=⟨#[45]⟩
def listR (most:Int) (s:ByteArray):List Int × Bool:=if s=A04 then ([],true) else Hh (λ p=>numR p 1 most) s
def Dr (s:ByteArray):List Int × Bool:=Hh Dh s
def prefixR (s:ByteArray):(Int × Int) × Bool :=
 if (cutT 47 s).2.2=false∨(Dh (cutT 47 s).1).2=false∨(smallT (cutT 47 s).2.1 32).2=false then ((0,0),false) else (((Dh (cutT 47 s).1).1,(smallT (cutT 47 s).2.1 32).1),true)
def subnetB (a bits:Int):Bool:=decide (1≤bits) && decide (bits≤30) && decide (a≠Ib a bits) && decide (a≠Lr a bits)
def Bm:List (Bool × Int)→Int
 | []=>0
 | (b,e)::l=>if b=true then e else Bm l
def Ar (cur:Int) (b:Bool) (e:Int):Int:=if b=true∧cur=0 then e else cur
def kindL (s:ByteArray):Int :=
 if s=⟨#[100,101,118,105,99,101]⟩ then 1 else if s=⟨#[112,111,114,116]⟩ then 2 else if s=⟨#[108,105,110,107]⟩ then 3 else if s=⟨#[115,116,97,116,105,99]⟩ then 4
 else if s=⟨#[118,116,101,112]⟩ then 5 else if s=⟨#[118,110,105]⟩ then 6 else if s=⟨#[102,108,111,111,100]⟩ then 7 else if s=⟨#[118,114,102]⟩ then 8 else if s=⟨#[105,114,98]⟩ then 9 else 0
def E6:ByteArray:=⟨#[97,99,99,101,115,115]⟩
def Es:ByteArray:=⟨#[116,114,117,110,107]⟩
def wdT (w:List ByteArray) (i:Nat):ByteArray:=(w[i]?).getD ⟨#[]⟩
def manyB (k:Int) (w:List ByteArray):Bool :=
 if k=0 then false
 else if k=2 then (if w.length<6 then false else if wdT w 4=E6 then decide (w.length=6) else if wdT w 4=Es then decide (w.length=7) else decide (w.length≤7))
 else if k=3∨k=4∨k=8∨k=9 then decide (w.length=5) else if k=5 then decide (w.length=3) else decide (w.length=4)
def membersB (vlan:Int) (tagged:List Int):Bool:=(decide (0<vlan) || !tagged.isEmpty) && !(tagged.contains vlan)
def lineZ:LineM:=⟨0,0,⟨#[]⟩,⟨#[]⟩,⟨#[]⟩,⟨#[]⟩,⟨#[]⟩,0,0,0,0,0,0,[],[],[],[]⟩
def Cq (s:ByteArray):Int × Bool:=numR s 1 4094
def Ot (s:ByteArray):Int × Bool:=numR s 1 16777215
def Dv (w:List ByteArray):Int × List Int × List (Bool × Int) :=
 if wdT w 4=E6 then ((Cq (wdT w 5)).1,[],[(!(Cq (wdT w 5)).2,21)])
 else if wdT w 4=Es then
  (if wdT w 5=A04 then (0,(listR 4094 (wdT w 6)).1,[(!(listR 4094 (wdT w 6)).2,21)])
   else ((Cq (wdT w 5)).1,(listR 4094 (wdT w 6)).1,[(!(Cq (wdT w 5)).2,21),(!(listR 4094 (wdT w 6)).2,21)]))
 else (0,[],[])
def Bz (w:List ByteArray) (row:Int):LineM × List (Bool × Int) :=
 let n:=λ i=>(!(Ay (wdT w i)),(20:Int))
 let k:=kindL (wdT w 0)
 if k=1 then ({ lineZ with row:=row,kind:=1,dev:=wdT w 1,num:=(numR (wdT w 2) 0 65535).1,mac:=(macR (wdT w 3)).1 },[n 1,(!(numR (wdT w 2) 0 65535).2,21),(!((macR (wdT w 3)).2 && statB (macR (wdT w 3)).1),21)])
 else if k=2 then ({ lineZ with row:=row,kind:=2,dev:=wdT w 1,port:=wdT w 2,cost:=(numR (wdT w 3) 1 65535).1,vlan:=(Dv w).1,tagged:=(Dv w).2.1 },
  [n 1,n 2,(!(numR (wdT w 3) 1 65535).2,21),(decide (wdT w 4≠E6) && decide (wdT w 4≠Es),20)]++(Dv w).2.2++[(!(membersB (Dv w).1 (Dv w).2.1),21)])
 else if k=3 then ({ lineZ with row:=row,kind:=3,dev:=wdT w 1,port:=wdT w 2,peer:=wdT w 3,far:=wdT w 4 },[n 1,n 2,n 3,n 4])
 else if k=4 then ({ lineZ with row:=row,kind:=4,dev:=wdT w 1,vlan:=(Cq (wdT w 2)).1,mac:=(macR (wdT w 3)).1,port:=wdT w 4 },[n 1,(!(Cq (wdT w 2)).2,21),(!((macR (wdT w 3)).2 && statB (macR (wdT w 3)).1),21),n 4])
 else if k=5 then ({ lineZ with row:=row,kind:=5,dev:=wdT w 1,addr:=(Dh (wdT w 2)).1 },[n 1,(!((Dh (wdT w 2)).2 && decide ((Dh (wdT w 2)).1≠0)),21)])
 else if k=6 then ({ lineZ with row:=row,kind:=6,dev:=wdT w 1,vlan:=(Cq (wdT w 2)).1,num:=(Ot (wdT w 3)).1 },[n 1,(!(Cq (wdT w 2)).2,21),(!(Ot (wdT w 3)).2,21)])
 else if k=7 then ({ lineZ with row:=row,kind:=7,dev:=wdT w 1,num:=(Ot (wdT w 2)).1,addrs:=(Dr (wdT w 3)).1 },[n 1,(!(Ot (wdT w 2)).2,21),(!((Dr (wdT w 3)).2 && decide ((Dr (wdT w 3)).1.head? ≠ some 0)),21)])
 else if k=8 then ({ lineZ with row:=row,kind:=8,dev:=wdT w 1,name:=wdT w 2,imports:=(listR 65535 (wdT w 3)).1,exports:=(listR 65535 (wdT w 4)).1 },[n 1,n 2,(!(listR 65535 (wdT w 3)).2,21),(!(listR 65535 (wdT w 4)).2,21)])
 else ({ lineZ with row:=row,kind:=9,dev:=wdT w 1,vlan:=(Cq (wdT w 2)).1,name:=wdT w 3,addr:=(prefixR (wdT w 4)).1.1,bits:=(prefixR (wdT w 4)).1.2 },
  [n 1,(!(Cq (wdT w 2)).2,21),n 3,(!((prefixR (wdT w 4)).2 && subnetB (prefixR (wdT w 4)).1.1 (prefixR (wdT w 4)).1.2),21)])
def Ce (w:List ByteArray) (row:Int):LineM × Int :=
 if w=[]∨manyB (kindL (wdT w 0)) w=false then (lineZ,22) else if Bm (Bz w row).2≠0 then (lineZ,Bm (Bz w row).2) else ((Bz w row).1,0)
def Ia (cur:List UInt8):List ByteArray:=if cur=[] then [] else [mkT cur]
def Em:List UInt8→List UInt8→List ByteArray
 | cur,[]=>Ia cur
 | cur,c::r=>if c=35 then Ia cur else if c=32∨c=9 then Ia cur++Em [] r else Em (cur++[c]) r
def Aj1 (c:UInt8):Bool:=decide (32<c.toNat) && decide (c.toNat≤126) && decide (c.toNat≠35)
def wordB (s:ByteArray):Bool:=decide (0<s.size) && decide (s.size≤40) && s.data.toList.all Aj1
def wordsT (row:ByteArray):List ByteArray × Int:=if (Em [] row.data.toList).all wordB=true then (Em [] row.data.toList,0) else ([],20)
def Kr:Nat→List ByteArray→List LineM→List LineM × Int × Int
 | _,[],out=>(out,0,0)
 | i,r::rs,out =>
  if (wordsT r).2≠0 then ([],(i:Int)+1,(wordsT r).2) else if (wordsT r).1=[] then Kr (i+1) rs out
  else if (Ce (wordsT r).1 ((i:Int)+1)).2≠0 then ([],(i:Int)+1,(Ce (wordsT r).1 ((i:Int)+1)).2) else Kr (i+1) rs (out++[(Ce (wordsT r).1 ((i:Int)+1)).1])
def textT (b:List UInt8):List LineM × Int × Int:=if (rowsT b).2≠0 then ([],0,(rowsT b).2) else Kr 0 (rowsT b).1 []
def Ld (a b:LineM):Bool :=
 a.row == b.row && (a.kind == b.kind && (a.dev == b.dev && (a.port == b.port && (a.peer == b.peer && (a.far == b.far && (a.name == b.name && (a.mac == b.mac && (a.addr == b.addr && (a.bits == b.bits &&
 (a.vlan == b.vlan && (a.num == b.num && (a.cost == b.cost && (a.tagged == b.tagged && (a.imports == b.imports && (a.exports == b.exports && a.addrs == b.addrs)))))))))))))))
def Cg (n lo hi:Int):Bool:=decide (lo≤n) && decide (n≤hi)
abbrev D5 (l:List Int) (hi:Int):Bool:=Ac3 l hi
def J4 (l:List Int):Bool:=(List.range l.length).all (λ i=>decide (l.getD i 0≠0) && (i == 0 || decide (l.getD (i-1) 0<l.getD i 0))) && (decide (0<l.length) && decide (l.length≤16))
def Bo (l:LineM):LineM × Bool :=
 let u:LineM:={ lineZ with row:=l.row,kind:=l.kind,dev:=l.dev }
 if l.kind=1 then ({ u with num:=l.num,mac:=l.mac },Cg l.num 0 65535 && statB l.mac)
 else if l.kind=2 then ({ u with port:=l.port,cost:=l.cost,vlan:=l.vlan,tagged:=l.tagged },Ay l.port && (Cg l.cost 1 65535 && (Cg l.vlan 0 4094 && (D5 l.tagged 4094 && membersB l.vlan l.tagged))))
 else if l.kind=3 then ({ u with port:=l.port,peer:=l.peer,far:=l.far },Ay l.port && (Ay l.peer && Ay l.far))
 else if l.kind=4 then ({ u with vlan:=l.vlan,mac:=l.mac,port:=l.port },Cg l.vlan 1 4094 && (statB l.mac && Ay l.port))
 else if l.kind=5 then ({ u with addr:=l.addr },decide (l.addr≠0))
 else if l.kind=6 then ({ u with vlan:=l.vlan,num:=l.num },Cg l.vlan 1 4094 && Cg l.num 1 16777215)
 else if l.kind=7 then ({ u with num:=l.num,addrs:=l.addrs },Cg l.num 1 16777215 && J4 l.addrs)
 else if l.kind=8 then ({ u with name:=l.name,imports:=l.imports,exports:=l.exports },Ay l.name && (D5 l.imports 65535 && D5 l.exports 65535))
 else if l.kind=9 then ({ u with vlan:=l.vlan,name:=l.name,addr:=l.addr,bits:=l.bits },Cg l.vlan 1 4094 && (Ay l.name && subnetB l.addr l.bits))
 else (u,false)
def Cm (l:LineM):Bool:=(Bo l).2 && (Ay l.dev && Ld (Bo l).1 l)
end Go.Sy.YtiijbikecbjdaaaGreatDoor
namespace Go.Sy.YtiijbikecbjdaaaGreatDoor
open Go.Proofs
attribute [local irreducible] Go.Sy.G Go.Sy.DR
structure Bx (Q:Prop):Prop where out:Q
theorem sE {α:Sort _} {a b:α} {K:Prop} (e:a=b) (h:K):a=b∧K:=⟨e,h⟩
theorem xE {α:Sort _} {a b:α} {K:a=b→Prop} (e:a=b) (h:K e):∃ e:a=b,K e:=⟨e,h⟩
theorem sL {a b:Int} {K:Prop} (e:a≤b) (h:K):a≤b∧K:=⟨e,h⟩
theorem xL {a b:Int} {K:a≤b→Prop} (e:a≤b) (h:K e):∃ e:a≤b,K e:=⟨e,h⟩
theorem sM {a b:Nat} {K:Prop} (e:a≤b) (h:K):a≤b∧K:=⟨e,h⟩
theorem sT {a b:Nat} {K:Prop} (e:a<b) (h:K):a<b∧K:=⟨e,h⟩
theorem xT {a b:Nat} {K:a<b→Prop} (e:a<b) (h:K e):∃ e:a<b,K e:=⟨e,h⟩
theorem sN {a b:Int} {K:Prop} (e:a≠b) (h:K):a≠b∧K:=⟨e,h⟩
theorem sI {a:Int} {K:Prop} (e:I64 a) (h:K):I64 a∧K:=⟨e,h⟩
theorem ct {p q:Prop} {b:Bool} (h:q) (e:b=true→False:=by
 intro _h
 first | exact yB _h j_ | exact uZ (Eq.trans (Eq.symm (by with_reducible assumption)) _h) | (simp at _h;done) | (simp at _h;omega)):(b=true→p)∧(b=false→q):=⟨λ x=>(e x).elim,λ _=>h⟩
theorem cf {p q:Prop} {b:Bool} (h:p) (e:b=false→False:=by
 intro _h
 first | exact yB _h j_ | exact uZ (Eq.trans (Eq.symm _h) (by with_reducible assumption)) | (simp at _h;done) | (simp at _h;omega)):(b=true→p)∧(b=false→q):=⟨λ _=>h,λ x=>(e x).elim⟩
theorem S {P Q:Prop} (h:Q) (e:Bx Q→P:=by
 intro hb
 first | refine rg ?_ | refine rd z_ ?_ | skip
 conv=>whnf
 repeat (first
  | ((first | refine aF ?_ | refine aT ?_ | refine ct ?_ | refine cf ?_);(first | refine rg ?_ | refine rd z_ ?_);(conv=>whnf))
  | ((first | refine⟨(by kernel_rfl:Ajj _ _=true),?_⟩ | refine sI (by unfold I64;omega) ?_);(conv=>whnf)))
 exact hb.out):P:=e ⟨h⟩
theorem T {P Q:Prop} (h:Q) (e:Bx Q→P:=by
 intro hb
 refine S ?_
 repeat ((first | refine sE (by exact rfl) ?_ | refine sL (by first | omega | decide) ?_ | refine xL (by first | omega | decide) ?_ | refine sT (by first | omega | decide) ?_ | refine xT (by first | omega | decide) ?_ | refine sM (by first | omega | decide) ?_ | refine sN (by first | omega | decide) ?_ | refine xE (by exact rfl) ?_);refine S ?_)
 exact hb.out):P:=e ⟨h⟩
theorem D {P:Prop} (h:P:=by
 apply Aq
 ·exact E
 ·(repeat (first | exact ResVs.nil | (apply ResVs.cons;(first | exact .tmp | exact .cell rfl rfl rfl rfl))))
 ·exact E
 ·exact E):P:=h
theorem U {P:Prop} (h:P:=by
 refine⟨?_,?_,E,E⟩
 ·repeat (first | exact trivial | exact rfl | refine⟨rfl,rfl,?_⟩)
 ·repeat (first | exact trivial | refine⟨.inl rfl,rfl,?_⟩ | refine⟨.inr rfl,rfl,?_⟩)):P:=h
theorem doneE {P:Program} {fn:Func} {F:Fr} {R:SV} {H':Obs} {Γ:Go.Sy.Ty P} {n:Nat} {bn:List Nat} {hbn:∀ k,F.k0 k≠.new→k∈bn} {k:List KI} {s:SS} {rs:List ResultVar} (hf:fn.results=rs.toArray) {xs:List SV} (hx:ResVs Γ.get s rs xs)
  (hR:R.ren (Bd [])=Af8 xs) (hRn:R.inn (Obs.keys H')=true) (hsub:Sub ⟨P,Γ,F,n,Us P fn F R H',bn,hbn⟩ s [] [] H'):G ⟨P,Γ,F,n,Us P fn F R H',bn,hbn⟩ (.code .ret::k) s:=done hf hx [] H' (λ _ h=>h) hR hRn hsub
theorem doneF {P:Program} {fn:Func} {F:Fr} {R:SV} {H':Obs} {Γ:Go.Sy.Ty P} {n:Nat} {bn:List Nat} {hbn:∀ k,F.k0 k≠.new→k∈bn} {s:SS} {rs:List ResultVar} (hf:fn.results=rs.toArray) {xs:List SV} (hx:ResVs Γ.get s rs xs)
  (hR:R.ren (Bd [])=Af8 xs) (hRn:R.inn (Obs.keys H')=true) (hsub:Sub ⟨P,Γ,F,n,Us P fn F R H',bn,hbn⟩ s [] [] H'):G ⟨P,Γ,F,n,Us P fn F R H',bn,hbn⟩ [] s:=A1 hf hx [] H' (λ _ h=>h) hR hRn hsub
theorem E0 {P:Prop} (h:P:=by
 first | apply doneE | apply doneF
 ·exact E
 ·(repeat (first | exact ResVs.nil | (apply ResVs.cons;(first | exact .tmp | exact .cell rfl rfl rfl rfl))))
 ·exact E
 ·exact E
 ·exact U):P:=h
theorem W {P:Prop} (h:P:=by
 repeat (first | exact trivial | exact rfl | refine⟨rfl,?_⟩)):P:=h
theorem V {P:Prop} (h:P:=by
 repeat (first | exact trivial | refine⟨.inl rfl,?_⟩ | refine⟨.inr rfl,?_⟩)):P:=h
theorem C {P:Program} {f:FuncId} {fn:Func} {c:Code} {A:List SV} {R:SV} {Z Q:Prop} (hs:Sy.Spec P f A [] R []) (hf:Fun P f fn c) (h:Q) (e:Sy.Spec P f A [] R []→Fun P f fn c→Bx Q→Z:=by
 intro hs hf hb
 first | refine Kx hs hf rfl rfl rfl rfl rfl ?_ | refine Ay0 hs hf rfl rfl rfl z_ rfl ?_
 refine T ?_
 exact hb.out):Z:=e hs hf ⟨h⟩
theorem X {C:Cx} {k:List KI} {s:SS} {all:Array Oper} {o:Oper} {rest:List Oper} {V:Up} {Q:Prop} (hg:Good C.P o s V) (h:Q) (hd:Tk C.n o=true:=by exact rfl) (hw:D6 C.n all o s=some true:=by exact rfl) (e:Bx Q→G C (.ops all rest::k) (s.upd o.dst V):=by
 intro hb
 refine T ?_
 exact hb.out):G C (.ops all (o::rest)::k) s:=Af hg hd hw (e ⟨h⟩)
theorem Xd {C:Cx} {k:List KI} {s:SS} {all:Array Oper} {done:List Stp} {o:Oper} {rest:List Oper} {V:Up} {Q:Prop} (hg:Good C.P o s V) (h:Q) (hi:all[done.length]? = some o:=by kernel_rfl) (hw:D6 C.n all o s=some true:=by exact rfl) (hn:(I2 o || Ms o)=false:=by exact rfl) (e:Bx Q→DR C k all (done++[⟨done.length,o,V,true⟩]) rest (s.upd o.dst V):=by
 intro hb
 refine T ?_
 exact hb.out):DR C k all done (o::rest) s:=Br hg hi hw (e ⟨h⟩) hn
theorem Xe {C:Cx} {k:List KI} {s:SS} {all:Array Oper} {done:List Stp} {o:Oper} {rest:List Oper} {V:Up} {Q:Prop} (hg:Good C.P o s V) (h:Q) (hk:KeepL s V.objs:=by exact W) (hi:all[done.length]? = some o:=by kernel_rfl) (hw:D6 C.n all o s=some true:=by exact rfl) (hn:(I2 o || Ms o)=false:=by exact rfl) (e:Bx Q→DR C k all (done++[⟨done.length,o,⟨V.v,V.rd++V.ws,[]⟩,true⟩]) rest (s.upd o.dst ⟨V.v,V.rd++V.ws,[]⟩):=by
 intro hb
 refine T ?_
 exact hb.out):DR C k all done (o::rest) s:=stepD2 hg hk hi hw (e ⟨h⟩) hn
end Go.Sy.YtiijbikecbjdaaaGreatDoor
namespace Go.Sy.YtiijbikecbjdaaaGreatDoor
open Go.Proofs
attribute [local irreducible] Go.Sy.G Go.Sy.DR
set_option maxRecDepth 100000
set_option maxHeartbeats 4000000
theorem As3 {s:ByteArray} (h:s.size=0):s=⟨#[]⟩:=by
 have h2:s.data.toList.length=0:=h
 exact Aek (zU h2)
theorem At9 (s:ByteArray) (hs:s.size≤1000000):Sp 45 [Ao s] (Ab (wordB s)):=cT F45 Tryz.ntmps45 λ F hF=>by
 have hsz:s.data.toList.length=s.size:=rfl
 have hw:=wordB.eq_1 s
 obtain ⟨r,hr⟩:∃ r,wordB s=r:=⟨_,rfl⟩
 rw[hr]at hw ⊢
 refine T ?_
 refine A5 s.size (λ j=>Hc (λ _ c=>Aj1 c) s.data.toList j) (λ j=>[(0,Ao s),(5,Aa s.size),(6,Aa j)]) (λ _=>[]) [] (Bj _ _) U ?_
 intro j hj hI
 refine T ?_
 constructor<;>intro h
 ·have hlt:j<s.data.toList.length:=qA h
  have hb:Bn s j=s.data.toList[j]:=Acb hlt
  have hno:=λ h=>@all_at' _ Aj1 s.data.toList j hlt h
  have hnx:=λ h=>Bh (p:=λ _ c=>Aj1 c) hI hlt h
  rw[← hb]at hno hnx
  clear h
  have hx:Aj1 (Bn s j)=(decide (32<(Bn s j).toNat) && decide ((Bn s j).toNat≤126) && decide ((Bn s j).toNat≠35)):=rfl
  by_cases h1:32<(Bn s j).toNat
  ·by_cases h2:(Bn s j).toNat≤126
   ·by_cases h3:(Bn s j).toNat=35
    ·rw[hno (by rw[hx];simp[h3]),wL]at hw
     subst hw
     refine T ?_
     exact D
    ·refine T ?_
     exact A4 [] hI q_ (hnx (by rw[hx];simp[h1,h2,h3])) U
   ·rw[hno (by rw[hx];simp[h2]),wL]at hw
    subst hw
    refine T ?_
    exact D
  ·rw[hno (by rw[hx];simp[h1]),wL]at hw
   subst hw
   refine T ?_
   exact D
 ·have hje:j=s.size:=qB h
  subst hje
  rw[Zy hI (yC _),vZ]at hw
  clear h
  by_cases h0:s.size=0
  ·have hs:=As3 h0
   have he:(s == (⟨#[]⟩:ByteArray))=true:=(J6 _ _).2 hs
   have hw:r=false:=by rw[hw,h0];rfl
   have he2:(!(s == (⟨#[]⟩:ByteArray)))=false:=by rw[he];rfl
   subst hw
   refine T ?_
   exact D
  ·have he:(s == (⟨#[]⟩:ByteArray))=false:=by
    cases he:(s == (⟨#[]⟩:ByteArray))
    ·rfl
    ·exact yB (by rw[(J6 _ _).1 he];rfl) h0
   have he2:(!(s == (⟨#[]⟩:ByteArray)))=true:=by rw[he];rfl
   by_cases h4:s.size≤40
   ·have hw:r=true:=by rw[hw];simp[h4];omega
    subst hw
    refine T ?_
    refine Aq E (.cons .tmp .nil) (zG Ab ?_) E
    exact(zR q_).symm
   ·have hw:r=false:=by rw[hw];simp[h4]
    subst hw
    refine T ?_
    refine Aq E (.cons .tmp .nil) (zG Ab ?_) E
    exact(zI q_).symm
abbrev strO (row:ByteArray) (f:Nat) (l:List ByteArray):Obs:=[(1,.box [Aa f]),(2,.box [.osl 3]),(3,.row 1 Ao l),(4,.box [Ao row])]
abbrev strN (row:ByteArray) (f:Nat) (l:List ByteArray):Obs:=[(1,.box [Aa f]),(2,.box [.osl 5]),(3,.non),(5,.row 1 Ao l),(4,.box [Ao row])]
theorem Av4 (row:ByteArray) (f i:Nat) (l:List ByteArray) (hfi:f≤i) (hi:i≤row.size) (hs:row.size≤1000000) (hl:l.length≤1000000) :
  Sq 109 [Aa i,.ptr 1 0,.ptr 2 0,.ptr 4 0] (strO row f l) (.tup []) (strN row (i+1) (l++Ia ((row.data.toList.take i).drop f))):=cT F109 Tryz.ntmps109 λ F hF=>by
 have hsz:row.data.toList.length=row.size:=rfl
 have hx:row.extract f i=mkT ((row.data.toList.take i).drop f):=by rw[← Eg,Jd]
 refine T ?_
 constructor<;>intro h
 ·have h1:f<i:=qA h
  have hne:(row.data.toList.take i).drop f≠[]:=λ e=>by
   have:=zG List.length e
   rw[yM,zX]at this
   simp at this;omega
  rw[Ia,zD hne,← hx]
  refine T ?_
  refine⟨⟨by omega,by omega,by omega⟩,?_⟩
  refine T ?_
  refine Xd (Ae Γ.toTy 14 E E E E E (.row E) (.lit (e:=Ao) (l:=[row.extract f i]) E E) y_ (by simp;omega) (by simp;omega)) ?_
  refine T ?_
  exact A1 E .nil [(5,14)] (strN row (i+1) (l++[row.extract f i])) (λ _ h=>h) E E U
 ·have h1:¬ f<i:=qB h
  have he:(row.data.toList.take i).drop f=[]:=wY (by rw[zX];omega)
  rw[he,Ia,zE rfl,xK]
  refine Tu 3 1000 E E j_ ?_
  refine T ?_
  exact A1 E .nil [(5,1000)] (strN row (i+1) l) (λ _ h=>h) E E U
theorem Ant (row:ByteArray) (hs:row.size≤100000):Sp 44 [Ao row] (.sl 1 Ao (Em [] row.data.toList)):=cT F44 Tryz.ntmps44 λ F hF=>by
 have hsz:row.data.toList.length=row.size:=rfl
 refine T ?_
 refine On 3 0 1000 1 Ao E E E E ?_
 refine T ?_
 refine B6 (λ x:List ByteArray × Nat × Nat=>Em [] row.data.toList=x.1++Em ((row.data.toList.take x.2.2).drop x.2.1) (row.data.toList.drop x.2.2)∧x.2.1≤x.2.2∧x.2.2≤row.size∧x.1.length≤x.2.2)
  (λ x=>[(1,.ptr 1 0),(3,.ptr 3 0),(5,.clo (.func 109) [] [.ptr 4 0,.ptr 3 0,.ptr 1 0]),(6,Aa x.2.2)]) (λ x=>[(1,.box [Ao row]),(3,.box [.osl 1000]),(4,.box [Aa x.2.1]),(1000,.row 1 Ao x.1)]) (λ x=>row.size-x.2.2) ([],0,0) [] ⟨rfl,by simp,by simp,by simp⟩ U ?_
 rintro ⟨l,f,i⟩ ⟨hI,hfi,his,hlen⟩
 dsimp only at hI hfi his hlen ⊢
 have q:=λ i hfi hi=>Av4 row f i l hfi hi q_ q_
 refine T ?_
 constructor<;>intro h
 ·have hlt:i<row.size:=qA h
  have hlt':i<row.data.toList.length:=hlt
  have hb:Bn row i=row.data.toList[i]:=Acb hlt'
  have hdr:row.data.toList.drop i=row.data.toList[i]::row.data.toList.drop (i+1):=yJ hlt'
  have htk:(row.data.toList.take (i+1)).drop f=(row.data.toList.take i).drop f++[row.data.toList[i]]:=by
   rw[zW hlt',List.drop_append_of_le_length (by rw[zX];omega)]
  rw[← hb]at hdr htk
  have q:=q i hfi q_
  clear h
  rw[hdr,Em]at hI
  have hlf:(l++Ia ((row.data.toList.take i).drop f)).length≤i+1:=by
   rw[Ia];split<;>simp<;>omega
  have e0:(row.data.toList.take (i+1)).drop (i+1)=[]:=wY (by rw[zX];omega)
  have h35:Bn row i=35↔(Bn row i).toNat=35:=⟨λ e=>by rw[e];rfl,λ e=>UInt8.toNat_inj.1 e⟩
  have h32:Bn row i=32↔(Bn row i).toNat=32:=⟨λ e=>by rw[e];rfl,λ e=>UInt8.toNat_inj.1 e⟩
  have h9:Bn row i=9↔(Bn row i).toNat=9:=⟨λ e=>by rw[e];rfl,λ e=>UInt8.toNat_inj.1 e⟩
  by_cases c1:(Bn row i).toNat=35
  ·rw[zE (h35.2 c1)]at hI
   rw[hI]
   refine T ?_
   refine X (As [(1,4),(2,3),(3,1000),(4,1),(5,900)] (At E E F109) q E W E V) ?_
   refine Ag 900 E ?_
   refine T ?_
   exact D
  ·rw[zD (λ e=>c1 (h35.1 e))]at hI
   by_cases c2:(Bn row i).toNat=32∨(Bn row i).toNat=9
   ·rw[zE (c2.elim (λ e=>.inl (h32.2 e)) (λ e=>.inr (h9.2 e)))]at hI
    by_cases c3:(Bn row i).toNat=32
    ·refine T ?_
     refine X (As [(1,4),(2,3),(3,1000),(4,1),(5,900)] (At E E F109) q E W E V) ?_
     refine Av (l++Ia ((row.data.toList.take i).drop f),i+1,i+1) [(1000,900)] ⟨?_,yC _,hlt,hlf⟩ (by dsimp only;omega) U
     dsimp only
     rw[hI,xQ,e0]
    ·refine T ?_
     refine X (As [(1,4),(2,3),(3,1000),(4,1),(5,900)] (At E E F109) q E W E V) ?_
     refine Av (l++Ia ((row.data.toList.take i).drop f),i+1,i+1) [(1000,900)] ⟨?_,yC _,hlt,hlf⟩ (by dsimp only;omega) U
     dsimp only
     rw[hI,xQ,e0]
   ·simp only[uU]at c2
    rw[zD (by rw[h32,h9];omega)]at hI
    refine T ?_
    refine Av (l,f,i+1) [] ⟨?_,by dsimp only;omega,hlt,by dsimp only;omega⟩ (by dsimp only;omega) U
    dsimp only
    rw[hI,htk]
 ·have hie:i=row.size:=qB h
  subst hie
  have q:=q row.size hfi q_
  have hdl:row.data.toList.drop row.size=[]:=by rw[← hsz,wH]
  rw[hdl,Em]at hI
  rw[hI]
  clear h
  refine T ?_
  refine X (As [(1,4),(2,3),(3,1000),(4,1),(5,900)] (At E E F109) q E W E V) ?_
  refine Ag 900 E ?_
  refine T ?_
  exact D
theorem L7:∀ (l cur:List UInt8),(Em cur l).length≤l.length+1
 | [],cur=>by rw[Em,Ia];split<;>simp
 | c::l,cur=>by
  rw[Em]
  have h1:=L7 l []
  have h2:=L7 l (cur++[c])
  have h3:(Ia cur).length≤1:=by rw[Ia];split<;>simp
  split
  ·simp;omega
  ·split
   ·simp;omega
   ·simp;omega
theorem Oq:∀ (l cur:List UInt8),∀ s∈Em cur l,s.size≤cur.length+l.length
 | [],cur,s,hs=>by
  rw[Em,Ia]at hs
  split at hs
  ·cases hs
  ·simp at hs;rw[hs,Hr];simp
 | c::l,cur,s,hs=>by
  have h3:∀ s∈Ia cur,s.size≤cur.length:=λ s hs=>by
   rw[Ia]at hs
   split at hs
   ·cases hs
   ·simp at hs;rw[hs,Hr];exact yC _
  rw[Em]at hs
  split at hs
  ·have:=h3 s hs;omega
  ·split at hs
   ·rcases yP.1 hs with hs | hs
    ·have:=h3 s hs;omega
    ·have:=Oq l [] s hs
     simp at this ⊢;omega
   ·have:=Oq l (cur++[c]) s hs
    simp at this ⊢;omega
theorem Adq (row:ByteArray) (hs:row.size≤100000):Sp 22 [Ao row] (.tup [.sl 1 Ao (wordsT row).1,Aa (wordsT row).2]):=cT F22 Tryz.ntmps22 λ F hF=>by
 have q:=Ant row hs
 have hres:=wordsT.eq_1 row
 have hlen:=L7 row.data.toList []
 have hsz:=Oq row.data.toList []
 have hrs:row.data.toList.length=row.size:=rfl
 generalize wordsT row=res at *
 generalize Em [] row.data.toList=l at *
 refine T ?_
 refine C q F44 ?_
 refine A5 l.length (λ j=>Hc (λ _ s=>wordB s) l j) (λ j=>[(4,.sl 1 Ao l),(9,.sl 1 Ao l),(10,Aa l.length),(11,Aa j)]) (λ _=>[]) [] (Bj _ _) U ?_
 intro j hj hI
 refine T ?_
 constructor<;>intro h
 ·have hlt:j<l.length:=qA h
  have hlt0:((j:Nat):Int).toNat<l.length:=hlt
  have hno:=λ h=>@all_at' _ wordB l j hlt h
  have hnx:=λ h=>Bh (p:=λ _ s=>wordB s) hI hlt h
  have hsj:=hsz l[j] (zJ hlt)
  clear h
  refine T ?_
  refine C (At9 (l[((j:Nat):Int).toNat]'hlt0) (by rw[show l[((j:Nat):Int).toNat]'hlt0=l[j] from E];simp at hsj;omega)) F45 ?_
  constructor<;>intro h
  ·have hf:wordB l[j]=false:=by simpa using h
   rw[zD (by rw[hno hf];simp)]at hres
   subst hres
   refine T ?_
   refine Am 2 1 Ao E ?_
   refine T ?_
   exact D
  ·have ht:wordB l[j]=true:=by simpa using h
   refine T ?_
   exact A4 [] hI q_ (hnx ht) U
 ·have hje:j=l.length:=qB h
  subst hje
  rw[zE (Zy hI (yC _))]at hres
  subst hres
  refine T ?_
  exact D
end Go.Sy.YtiijbikecbjdaaaGreatDoor
namespace Go.Sy.YtiijbikecbjdaaaGreatDoor
open Go.Proofs
def emptyN:Net:=⟨[],[],[],[],[],[],[],[]⟩
def fitsB (n:Net) (l:LineM) (k:Int):Bool:=l.kind == k && (Cm l && Ac n)
def E4 (n:Net) (s:ByteArray):Int:=Co (λ d:Device=>d.name == s) n.devices
def Q8 (n:Net) (dev:Int) (s:ByteArray):Int:=Co (λ p:Port=>p.dev == dev && p.name == s) n.ports
def Avi (n:Net) (dev:Int) (s:ByteArray):Int:=Co (λ v:Vrf=>v.dev == dev && v.name == s) n.vrfs
def putDevice (n:Net) (l:LineM):Net × Int :=
 if fitsB n l 1=false then (emptyN,2) else if n.devices.any (λ d=>d.name == l.dev || d.mac == l.mac)=true then (emptyN,30) else if n.devices.length=8 then (emptyN,3)
 else ({ n with devices:=n.devices++[⟨l.row,l.num,l.dev,l.mac,0⟩] },0)
def D8 (dev:Int) (ds:List Domain) (v:Int):List Domain:=if 0<v∧ds.any (λ d=>d.dev == dev && d.vlan == v)=false then ds++[⟨dev,v,0,-1,0,[]⟩] else ds
def Bp (dev:Int) (ds:List Domain) (l:List Int):List Domain:=l.foldl (D8 dev) ds
def putPort (n:Net) (l:LineM):Net × Int :=
 if fitsB n l 2=false then (emptyN,2) else if E4 n l.dev<0 then (emptyN,31) else if 0≤Q8 n (E4 n l.dev) l.port then (emptyN,30) else if n.ports.length=40 then (emptyN,3)
 else if 48<(Bp (E4 n l.dev) n.domains (l.vlan::l.tagged)).length then (emptyN,3)
 else ({ n with ports:=n.ports++[⟨l.row,E4 n l.dev,l.vlan,l.cost,-1,l.port,l.tagged⟩],domains:=Bp (E4 n l.dev) n.domains (l.vlan::l.tagged) },0)
def endI (n:Net) (dev port:ByteArray):Int:=if E4 n dev<0 then -1 else Q8 n (E4 n dev) port
def Vv (l:List Port) (i k:Int):List Port:=l.set i.toNat { nth l i with link:=k }
def putLink (n:Net) (l:LineM):Net × Int :=
 if fitsB n l 3=false then (emptyN,2) else
 let a:=endI n l.dev l.port
 let b:=endI n l.peer l.far
 if a<0∨b<0 then (emptyN,31) else if (nth n.ports a).dev=(nth n.ports b).dev∨0≤(nth n.ports a).link∨0≤(nth n.ports b).link then (emptyN,33) else if n.links.length=20 then (emptyN,3)
 else ({ n with ports:=Vv (Vv n.ports a n.links.length) b n.links.length,links:=n.links++[⟨l.row,a,b⟩] },0)
def Aji (n:Net) (d mac:Int):Int:=Co (λ s:Static=>s.domain == d && s.mac == mac) n.statics
def putStatic (n:Net) (l:LineM):Net × Int :=
 if fitsB n l 4=false then (emptyN,2) else
 let dev:=E4 n l.dev
 let port:=Q8 n dev l.port
 let dom:=Jm n dev l.vlan
 if dev<0∨port<0 then (emptyN,31) else if dom<0∨D0 (nth n.ports port) l.vlan=false then (emptyN,32) else if 0≤Aji n dom l.mac then (emptyN,30) else if n.statics.length=64 then (emptyN,3)
 else ({ n with statics:=n.statics++[⟨l.row,dom,port,l.mac⟩] },0)
def E9 (n:Net) (a:Int):Int:=Co (λ d:Device=>d.vtep == a) n.devices
def Q3 (n:Net) (dev vni:Int):Int:=Co (λ d:Domain=>d.dev == dev && (d.vni == vni && vni != 0)) n.domains
def Jq (n:Net) (dev vni:Int):Int:=Co (λ f:Flood=>f.dev == dev && f.vni == vni) n.floods
def begT (n:Net) (l:LineM) (k:Int):Int × Int:=if fitsB n l k=false then (0,2) else if E4 n l.dev<0 then (0,31) else (E4 n l.dev,0)
def Acu (l:List Device) (i a:Int):List Device:=l.set i.toNat { nth l i with vtep:=a }
def putVtep (n:Net) (l:LineM):Net × Int :=
 if (begT n l 5).2≠0 then (emptyN,(begT n l 5).2) else
 let dev:=(begT n l 5).1
 if (nth n.devices dev).vtep≠0∨0≤E9 n l.addr then (emptyN,30) else ({ n with devices:=Acu n.devices dev l.addr },0)
def putVni (n:Net) (l:LineM):Net × Int :=
 if (begT n l 6).2≠0 then (emptyN,(begT n l 6).2) else
 let dev:=(begT n l 6).1
 let at_:=Jm n dev l.vlan
 if (nth n.devices dev).vtep=0 then (emptyN,35) else if at_<0 then (emptyN,32) else if (nth n.domains at_).vni≠0∨0≤Q3 n dev l.num then (emptyN,30)
 else ({ n with domains:=n.domains.set at_.toNat { nth n.domains at_ with vni:=l.num,row:=l.row } },0)
def putFlood (n:Net) (l:LineM):Net × Int :=
 if (begT n l 7).2≠0 then (emptyN,(begT n l 7).2) else
 let dev:=(begT n l 7).1
 if Q3 n dev l.num<0 then (emptyN,31) else if 0≤Jq n dev l.num then (emptyN,30) else if inB l.addrs (nth n.devices dev).vtep=true then (emptyN,36) else if n.floods.length=48 then (emptyN,3)
 else ({ n with floods:=n.floods++[⟨l.row,dev,l.num,l.addrs⟩] },0)
def putVrf (n:Net) (l:LineM):Net × Int :=
 if (begT n l 8).2≠0 then (emptyN,(begT n l 8).2) else
 let dev:=(begT n l 8).1
 if 0≤Avi n dev l.name then (emptyN,30) else if n.vrfs.length=16 then (emptyN,3)
 else ({ n with vrfs:=n.vrfs++[⟨l.row,dev,l.name,l.imports,l.exports⟩] },0)
def Zk (a bits x:Int):Bool:=decide (0≤bits) && (decide (bits≤32) && Ib a bits == Ib x bits)
def clashB (n:Net) (dev a bits:Int) (x:Irb):Bool:=x.addr == a || ((nth n.vrfs x.vrf).dev != dev && (Zk x.addr x.bits a || Zk a bits x.addr))
def putIrb (n:Net) (l:LineM):Net × Int :=
 if (begT n l 9).2≠0 then (emptyN,(begT n l 9).2) else
 let dev:=(begT n l 9).1
 let vrf:=Avi n dev l.name
 let at_:=Jm n dev l.vlan
 if vrf<0 then (emptyN,31) else if at_<0 then (emptyN,32) else if 0≤(nth n.domains at_).irb∨n.irbs.any (clashB n dev l.addr l.bits)=true then (emptyN,37)
 else ({ n with domains:=n.domains.set at_.toNat { nth n.domains at_ with irb:=n.irbs.length },irbs:=n.irbs++[⟨l.row,at_,vrf,l.addr,l.bits⟩] },0)
def putT (n:Net) (l:LineM):Net × Int :=
 if l.kind=1 then putDevice n l else if l.kind=2 then putPort n l else if l.kind=3 then putLink n l else if l.kind=4 then putStatic n l else if l.kind=5 then putVtep n l
 else if l.kind=6 then putVni n l else if l.kind=7 then putFlood n l else if l.kind=8 then putVrf n l else if l.kind=9 then putIrb n l else (emptyN,2)
def agreeA (n:Net) (f:Flood) (a:Int):Bool :=
 let dev:=E9 n a
 decide (0≤dev) && (a != 0 && (decide (0≤Q3 n dev f.vni) && (decide (0≤Jq n dev f.vni) &&
  (inB (nth n.floods (Jq n dev f.vni)).addrs (nth n.devices f.dev).vtep && f.addrs.all λ b=>b == a || inB (nth n.floods (Jq n dev f.vni)).addrs b))))
def agreesB (n:Net) (f:Flood):Bool:=decide (0≤Q3 n f.dev f.vni) && f.addrs.all (agreeA n f)
def peersT (n:Net) (d:Domain):List Int:=if d.vni≠0∧0≤Jq n d.dev d.vni then (nth n.floods (Jq n d.dev d.vni)).addrs.map (λ a=>Q3 n (E9 n a) d.vni) else []
def Ir (n:Net):Net:={ n with domains:=n.domains.map λ d=>{ d with peers:=peersT n d } }
def meshNT (n:Net):Net × Int × Int :=
 if Ac n=false then (emptyN,0,2) else match n.floods.find? (λ f=>!(agreesB n f)) with
 | some f=>(emptyN,f.row,36)
 | none=>if Ac (Ir n)=false then (emptyN,0,36) else (Ir n,0,0)
structure TenM where
 row:Int
 name:ByteArray
 devs:List ByteArray
 ports:List ByteArray
instance:Inhabited TenM:=⟨⟨0,⟨#[]⟩,[],[]⟩⟩
def D1 (t:TenM):SV:=.agg [Aa t.row,Ao t.name,.sl 1 Ao t.devs,.sl 1 Ao t.ports]
def Ah8:TenM:=⟨0,⟨#[]⟩,[],[]⟩
abbrev Aq6:ByteArray:=⟨#[116,101,110,97,110,116]⟩
def Mg (w:ByteArray):ByteArray × ByteArray × Bool:=((cutT 46 w).1,(cutT 46 w).2.1,(cutT 46 w).2.2 && Ay (cutT 46 w).1 && Ay (cutT 46 w).2.1)
def Ack (t:TenM):List ByteArray→TenM × Int
 | []=>(t,0)
 | w::l=>if (Mg w).2.2=false then (Ah8,20) else Ack { t with devs:=t.devs++[(Mg w).1],ports:=t.ports++[(Mg w).2.1] } l
def tenantT (w:List ByteArray) (row:Int):TenM × Int :=
 if wdT w 0≠Aq6∨w.length≤2∨18<w.length then (Ah8,22) else if Ay (wdT w 1)=false then (Ah8,20)
 else Ack ⟨row,wdT w 1,[],[]⟩ (w.drop 2)
def Ja (i:Nat) (out:List TenM):List ByteArray→List TenM × Int × Int
 | []=>(out,0,0)
 | r::rs=>if (wordsT r).2≠0 then ([],i+1,(wordsT r).2) else if (wordsT r).1=[] then Ja (i+1) out rs
  else if (tenantT (wordsT r).1 (i+1)).2≠0 then ([],i+1,(tenantT (wordsT r).1 (i+1)).2) else if out.length=10 then ([],i+1,3)
  else Ja (i+1) (out++[(tenantT (wordsT r).1 (i+1)).1]) rs
def policyT (b:List UInt8):List TenM × Int × Int:=if (rowsT b).2≠0 then ([],0,(rowsT b).2) else Ja 0 [] (rowsT b).1
def My (t:TenM):Bool:=Ay t.name && (decide (t.devs.length=t.ports.length) && (decide (0<t.devs.length) && (decide (t.devs.length≤16) && (!(t.devs.any λ s=>!(Ay s)) && !(t.ports.any λ s=>!(Ay s))))))
end Go.Sy.YtiijbikecbjdaaaGreatDoor
namespace Go.Sy.YtiijbikecbjdaaaGreatDoor
open Go.Proofs
attribute [local irreducible] Go.Sy.G Go.Sy.DR
set_option maxRecDepth 20000
set_option maxHeartbeats 4000000
structure Hop where
 (kind port domain addr:Int)
abbrev Cz (h:Hop):SV:=.agg [Aa h.kind,Aa h.port,Aa h.domain,A6 h.addr]
instance:Inhabited Hop:=⟨⟨0,0,0,0⟩⟩
def Aes (n:Net) (d:Int):Prop:=(0≤d∧d<n.domains.length)∧Ac n=true
instance (n:Net) (d:Int):Decidable (Aes n d):=inferInstanceAs (Decidable (_∧_))
theorem Ak2 (n:Net) (hn:n.Fin) (d:Int):Sp 185 [Al n,Aa d] (Ab (decide (Aes n d))):=cT F185 Tryz.ntmps185 λ F hF=>by
 have hr:=Ax n hn
 refine fW ?_
 constructor<;>intro h
 ·have h1:0≤d:=zK h
  refine A7 2 8 (Al n) E E E ?_
  refine fU ?_
  constructor<;>intro h
  ·have h2:d<n.domains.length:=zK h
   refine fU ?_
   refine c0 hr F24 ?_
   refine fU ?_
   refine Aq E (.cons .tmp .nil) (zG Ab ?_) E
   cases hb:Ac n<;>simp[Aes,h1,h2,hb]
  ·have h2:¬ d<n.domains.length:=zT h
   refine fU ?_
   refine Aq E (.cons .tmp .nil) (zG Ab ?_) E
   simp[Aes,h2]
 ·have h1:¬ 0≤d:=zT h
  refine fU ?_
  refine Aq E (.cons .tmp .nil) (zG Ab ?_) E
  simp[Aes,h1]
def linkHop (n:Net) (d p:Int):Option Hop:=if (linkDomT n p (nth n.domains d).vlan).2=true then some ⟨1,p,(linkDomT n p (nth n.domains d).vlan).1,0⟩ else none
def Mc (p:Int):Hop:=⟨2,0,p,0⟩
def hopsL (n:Net) (d:Int):List Hop:=(Cu n d).filterMap (linkHop n d)++(nth n.domains d).peers.map Mc
def Kg (n:Net) (d:Int):List Hop:=if Aes n d then hopsL n d else []
theorem Ai5 {n:Net} {d:Int} {l:List Int} {j:Nat} {p:Int} (h:j<l.length) (hp:l[j]=p):(l.take (j+1)).filterMap (linkHop n d) =
  (l.take j).filterMap (linkHop n d)++(match linkHop n d p with | some h=>[h] | none=>[]):=by
 subst hp
 rw[vD,zO h,List.filterMap_append]
 cases hh:linkHop n d l[j]<;>simp[hh]
theorem Aoz (n:Net) (hn:n.Fin) (d:Int):Sp 132 [Al n,Aa d] (.sl 4 Cz (Kg n d)):=cT F132 Tryz.ntmps132 λ F hF=>by
 have hp:=Ak2 n hn d
 have hm2:=Mq n hn d
 have hms:=Jf n hn d
 unfold Ak at hms
 refine fW ?_
 refine A7 2 8 (Al n) E E E ?_
 refine fU ?_
 refine c0 hp F185 ?_
 by_cases hd:Aes n d
 rotate_left
 ·rw[Kg,zD hd,zI hd]
  refine fU ?_
  refine Am 4 4 Cz E ?_
  refine fU ?_
  exact dN
 rw[Kg,zE hd,zR hd]
 have hk:d.toNat<n.domains.length:=by have:=hd.1;omega
 have h0:0≤d:=hd.1.1
 have hpe:=hn.peers _ (zJ hk)
 unfold Ak at hpe
 have hh:=hopsL.eq_1 n d
 have hlh:=linkHop.eq_1 n d
 have hsn:=λ j p h hp=>Ai5 (n:=n) (d:=d) (l:=Cu n d) (j:=j) (p:=p) h hp
 have hfl:∀ j,((Cu n d).take j |>.filterMap (linkHop n d)).length≤(Cu n d).length:=λ j=>by
  refine wJ (uQ _ _) ?_
  rw[zX];omega
 have hall:(Cu n d).take (Cu n d).length=Cu n d:=yG
 rw[Aj hk]at hh hlh
 obtain ⟨x,hx⟩:∃ x,n.domains[d.toNat]'hk=x:=⟨_,rfl⟩
 rw[hx]at hh hlh hpe
 generalize hopsL n d=res at *
 generalize Cu n d=mem at *
 refine fU ?_
 refine c0 hm2 F74 ?_
 refine fU ?_
 refine B9 5 1000 4 Cz E E ?_
 refine A9 mem.length (λ j=>[(1,Aa d),(2,.ref 8 (Al n) 0),(5,.osl 1000),(18,.sl 1 Aa mem),(19,Aa mem.length),(20,Aa j)]) (λ j=>[(1000,.row 4 Cz ((mem.take j).filterMap (linkHop n d)))]) []
  ⟨⟨rfl,rfl,rfl,rfl,rfl,rfl,rfl,rfl,rfl,rfl,rfl,rfl,trivial⟩,⟨.inl rfl,rfl,trivial⟩,rfl,rfl⟩ ?_
 intro j hj
 have hflj:=hfl j
 refine fU ?_
 constructor<;>intro h
 ·have hlt:j<mem.length:=by simpa using h
  have hj0:((j:Nat):Int).toNat<mem.length:=by simpa using hlt
  obtain ⟨p,hp'⟩:∃ p,mem[((j:Nat):Int).toNat]'hj0=p:=⟨_,rfl⟩
  have hs:=hsn j p hlt hp'
  have q:=Xt n hn p x.vlan
  rw[hlh p]at hs
  generalize linkDomT n p x.vlan=ld at *
  obtain ⟨to,ok⟩:=ld
  refine fU ?_
  refine⟨E,by omega,hj0,?_⟩
  rw[hp']
  refine fW ?_
  refine⟨E,h0,hk,?_⟩
  rw[hx]
  refine fW ?_
  refine cD q F186 ?_
  refine fU ?_
  refine⟨z_,?_⟩
  refine fW ?_
  dsimp only at hs
  refine⟨λ h=>?_,λ h=>?_⟩<;>(have h:ok=_:=h;subst h)
  ·refine fU ?_
   refine Af (Ae Γ.toTy 42 E E E E E (.row E) (.lit (e:=Cz) (l:=[⟨1,p,to,0⟩]) E E) y_ (by simp;omega) (by simp;omega)) E E ?_
   refine fU ?_
   refine iL ?_
   refine fW ?_
   exact A2 [(1000,42)] hlt ⟨⟨E,E,E,E,E,E,E,E,E,E,E,E,Y⟩,⟨.inl (zG (Ob.row 4 Cz) hs),E,Y⟩,E,E⟩
  ·refine fU ?_
   refine iL ?_
   refine fW ?_
   exact A2 [] hlt ⟨⟨E,E,E,E,E,E,E,E,E,E,E,E,Y⟩,⟨.inl (zG (Ob.row 4 Cz) (hs.trans (xK _))),E,Y⟩,E,E⟩
 ·have:j=mem.length:=qB h
  subst this
  rw[hall]at hflj ⊢
  generalize mem.filterMap (linkHop n d)=first at *
  refine fU ?_
  refine⟨E,h0,hk,?_⟩
  rw[hx]
  refine fW ?_
  refine A9 x.peers.length (λ j=>[(5,.osl 1000),(49,.sl 1 Aa x.peers),(50,Aa x.peers.length),(51,Aa j)]) (λ j=>[(1000,.row 4 Cz (first++(x.peers.take j).map Mc))]) []
   ⟨⟨rfl,rfl,rfl,rfl,rfl,rfl,rfl,rfl,trivial⟩,⟨.inl (zG (Ob.row 4 Cz) (xK _)),rfl,trivial⟩,rfl,rfl⟩ ?_
  intro j hj
  refine fU ?_
  constructor<;>intro h
  ·have hlt:j<x.peers.length:=by simpa using h
   have hj0:((j:Nat):Int).toNat<x.peers.length:=by simpa using hlt
   obtain ⟨p,hp'⟩:∃ p,x.peers[((j:Nat):Int).toNat]'hj0=p:=⟨_,rfl⟩
   have hs:(first++(x.peers.take j).map Mc)++[⟨2,0,p,0⟩]=first++(x.peers.take (j+1)).map Mc:=by
    rw[vD,zO hlt,vI,xQ]
    congr 2
    simp only[Option.toList,xV,vY,Mc]
    congr 2
    exact hp'.symm
   refine fU ?_
   refine⟨E,by omega,hj0,?_⟩
   rw[hp']
   refine fW ?_
   refine Af (Ae Γ.toTy 59 E E E E E (.row E) (.lit (e:=Cz) (l:=[⟨2,0,p,0⟩]) E E) y_ (by simp;omega) (by simp;omega)) E E ?_
   refine fU ?_
   refine iL ?_
   refine fW ?_
   exact A2 [(1000,59)] hlt ⟨⟨E,E,E,E,E,E,E,E,Y⟩,⟨.inl (zG (Ob.row 4 Cz) hs.symm),E,Y⟩,E,E⟩
  ·have:j=x.peers.length:=qB h
   subst this
   refine fU ?_
   refine Ag 1000 E ?_
   refine fU ?_
   refine Aq E (.cons .tmp .nil) ?_ E
   rw[hh,yG]
   rfl
structure Lead where
 (to domain addr:Int)
abbrev Lq (l:Lead):SV:=.agg [Aa l.to,Aa l.domain,A6 l.addr]
instance:Inhabited Lead:=⟨⟨0,0,0⟩⟩
def leadF (n:Net) (irb:Int) (i:Nat):Option Lead:=if (addrT n irb i).2=true then some ⟨i,(nth n.irbs i).domain,(addrT n irb i).1⟩ else none
def S9 (n:Net) (irb:Int) (j:Nat):List Lead:=(List.range j).filterMap (leadF n irb)
def routesT (n:Net) (d:Int):List Lead:=if (0≤d∧d<n.domains.length)∧0≤(nth n.domains d).irb∧Ac n=true then S9 n (nth n.domains d).irb n.irbs.length else []
theorem Al6 (n:Net) (irb:Int) (j:Nat):S9 n irb (j+1)=S9 n irb j++(match leadF n irb j with | some h=>[h] | none=>[]):=by
 rw[S9,wV,List.filterMap_append]
 cases h:leadF n irb j<;>simp[h,S9]
theorem U8 (n:Net) (irb:Int) (j:Nat):(S9 n irb j).length≤j:=by
 have:=uQ (leadF n irb) (List.range j)
 simpa [S9] using this
theorem Agb (n:Net) (hn:n.Fin) (hu:C8 n) (d:Int):Sp 133 [Al n,Aa d] (.sl 3 Lq (routesT n d)):=cT F133 Tryz.ntmps133 λ F hF=>by
 have hlk:=routesT.eq_1 n d
 generalize routesT n d=res at *
 have hr:=Ax n hn
 have hsi:=hn.irbs
 unfold Ak at hsi
 refine fW ?_
 constructor<;>intro h
 ·rw[zD (qA h)]at hlk
  subst hlk
  refine fU ?_
  refine Am 4 3 Lq E ?_
  refine fU ?_
  exact dN
 have h1:¬ d<0:=zT h
 refine A7 2 8 (Al n) E E E ?_
 refine fU ?_
 constructor<;>intro h
 ·rw[zD (qA h)]at hlk
  subst hlk
  refine fU ?_
  refine Am 4 3 Lq E ?_
  refine fU ?_
  exact dN
 have h2:d<n.domains.length:=qB h
 have hk:d.toNat<n.domains.length:=by omega
 rw[Aj hk]at hlk
 obtain ⟨x,hx⟩:∃ x,n.domains[d.toNat]'hk=x:=⟨_,rfl⟩
 rw[hx]at hlk
 refine fU ?_
 refine⟨E,by omega,hk,?_⟩
 rw[hx]
 refine fW ?_
 constructor<;>intro h
 ·rw[zD (qA h)]at hlk
  subst hlk
  refine fU ?_
  refine Am 4 3 Lq E ?_
  refine fU ?_
  exact dN
 have h3:0≤x.irb:=qB h
 refine fU ?_
 refine c0 hr F24 ?_
 cases hb:Ac n
 ·rw[zD (by simp[hb])]at hlk
  subst hlk
  refine fU ?_
  refine Am 4 3 Lq E ?_
  refine fU ?_
  exact dN
 rw[zE ⟨⟨by omega,h2⟩,h3,hb⟩]at hlk
 subst hlk
 refine fU ?_
 refine B9 5 1000 3 Lq E E ?_
 refine A9 n.irbs.length (λ j=>[(1,Aa d),(2,.ref 8 (Al n) 0),(5,.osl 1000),(34,.sl 5 B3 n.irbs),(35,Aa n.irbs.length),(36,Aa j)]) (λ j=>[(1000,.row 3 Lq (S9 n x.irb j))]) []
  ⟨⟨rfl,rfl,rfl,rfl,rfl,rfl,rfl,rfl,rfl,rfl,rfl,rfl,trivial⟩,⟨.inl rfl,rfl,trivial⟩,rfl,rfl⟩ ?_
 intro j hj
 have hll:=U8 n x.irb j
 refine fU ?_
 constructor<;>intro h
 ·have hlt:j<n.irbs.length:=by simpa using h
  have hj0:((j:Nat):Int).toNat<n.irbs.length:=by simpa using hlt
  have q:=Aez n hn hu x.irb j
  have hs:=Al6 n x.irb j
  have hle:=leadF.eq_1 n x.irb j
  rw[Aj hj0]at hle
  rw[hle]at hs
  obtain ⟨y,hy⟩:∃ y,n.irbs[((j:Nat):Int).toNat]'hj0=y:=⟨_,rfl⟩
  rw[hy]at hs
  generalize addrT n x.irb j=ad at *
  obtain ⟨a,ok⟩:=ad
  dsimp only at hs q
  refine fU ?_
  refine⟨E,by omega,hj0,?_⟩
  rw[hy]
  refine fW ?_
  refine⟨E,by omega,hk,?_⟩
  rw[hx]
  refine fW ?_
  refine cD q F187 ?_
  refine fU ?_
  refine⟨z_,?_⟩
  refine fW ?_
  refine⟨λ h=>?_,λ h=>?_⟩<;>(have h:ok=_:=h;subst h)
  ·refine fU ?_
   refine Af (Ae Γ.toTy 61 E E E E E (.row E) (.lit (e:=Lq) (l:=[⟨j,y.domain,a⟩]) E E) y_ (by simp;omega) (by simp;omega)) E E ?_
   refine fU ?_
   refine iL ?_
   refine fW ?_
   exact A2 [(1000,61)] hlt ⟨⟨E,E,E,E,E,E,E,E,E,E,E,E,Y⟩,⟨.inl (zG (Ob.row 3 Lq) hs),E,Y⟩,E,E⟩
  ·refine fU ?_
   refine iL ?_
   refine fW ?_
   exact A2 [] hlt ⟨⟨E,E,E,E,E,E,E,E,E,E,E,E,Y⟩,⟨.inl (zG (Ob.row 3 Lq) (hs.trans (xK _))),E,Y⟩,E,E⟩
 ·have:j=n.irbs.length:=qB h
  subst this
  refine fU ?_
  refine Ag 1000 E ?_
  refine fU ?_
  exact dN
def Mf (n:Net) (i:Int):Bool:=decide (0≤i) && decide (i<n.ports.length) && decide ((nth n.ports i).link<0)
theorem Wm (n:Net) (i:Int):Sp 33 [Al n,Aa i] (Ab (Mf n i)):=cT F33 Tryz.ntmps33 λ F hF=>by
 refine fW ?_
 constructor<;>intro h
 ·have h1:0≤i:=zK h
  refine A7 2 8 (Al n) E E E ?_
  refine fU ?_
  constructor<;>intro h
  ·have h2:i<n.ports.length:=zK h
   have hk:i.toNat<n.ports.length:=by omega
   rw[Mf,Aj hk,zR h1,zR h2,zZ,zZ]
   obtain ⟨p,hp⟩:∃ p,n.ports[i.toNat]'hk=p:=⟨_,rfl⟩
   rw[hp]
   refine fU ?_
   refine⟨E,h1,hk,?_⟩
   rw[hp]
   refine fW ?_
   exact dN
  ·have h2:¬ i<n.ports.length:=zT h
   rw[Mf,zI h2,wL,yA]
   refine fU ?_
   exact dN
 ·have h1:¬ 0≤i:=zT h
  rw[Mf,zI h1,yA,yA]
  refine fU ?_
  exact dN
structure Fnd where
 (domain kind:Int) (hop:Hop) (ahead:Int)
abbrev Vg (f:Fnd):SV:=.agg [Aa f.domain,Aa f.kind,Aa f.hop.kind,Aa f.hop.port,Aa f.hop.domain,A6 f.hop.addr,Aa f.ahead]
instance:Inhabited Fnd:=⟨⟨0,0,default,0⟩⟩
structure Srch where
 (m0 m1:List Bool) (list:List Fnd)
abbrev stSV (d k:Int):SV:=.agg [Aa d,Aa k]
abbrev Z9 (n:Net) (S:Srch):Obs:=[(0,.box [.sl 5 Au n.devices,.sl 7 A3 n.ports,.sl 3 Bw n.links,.sl 6 Ap n.domains,.sl 4 Az n.statics,.sl 4 Be n.floods,.sl 5 Ca n.vrfs,.sl 5 B3 n.irbs,.osl 1,.osl 2,.osl 3]),
 (1,.row 1 Ab S.m0),(2,.row 1 Ab S.m1),(3,.row 7 Vg S.list)]
abbrev Ww (n:Net) (S:Srch):Obs:=[(0,.box [.sl 5 Au n.devices,.sl 7 A3 n.ports,.sl 3 Bw n.links,.sl 6 Ap n.domains,.sl 4 Az n.statics,.sl 4 Be n.floods,.sl 5 Ca n.vrfs,.sl 5 B3 n.irbs,.osl 1,.osl 2,.osl 4]),
 (1,.row 1 Ab S.m0),(2,.row 1 Ab S.m1),(3,.non),(4,.row 7 Vg S.list)]
def Axl (S:Srch) (d k:Int):Bool:=if k=0 then nth S.m0 d else nth S.m1 d
def Aao (S:Srch) (d k:Int) (h:Hop) (ahead:Int):Srch :=
 if k=0 then ⟨S.m0.set d.toNat true,S.m1,S.list++[⟨d,k,h,ahead⟩]⟩ else ⟨S.m0,S.m1.set d.toNat true,S.list++[⟨d,k,h,ahead⟩]⟩
def meetT (S:Srch) (d k:Int) (h:Hop) (ahead:Int):Srch:=if Axl S d k=true then S else Aao S d k h ahead
theorem Axo (n:Net) (S:Srch) (d:Int) (h:Hop) (ahead:Int) (hd:0≤d∧d.toNat<S.m0.length) (hl:Ak S.list) :
  Sq 130 [.ptr 0 0,stSV d 0,Cz h,Aa ahead] (Z9 n S) (.tup []) (Ww n (meetT S d 0 h ahead)):=cT F130 Tryz.ntmps130 λ F hF=>by
 unfold Ak at hl
 have hlk:=meetT.eq_1 S d 0 h ahead
 rw[Axl,zE rfl,Aj hd.2,show Aao S d 0 h ahead=⟨S.m0.set d.toNat true,S.m1,S.list++[⟨d,0,h,ahead⟩]⟩ from zE rfl]at hlk
 generalize meetT S d 0 h ahead=res at *
 refine fW ?_
 refine⟨by decide,by decide,?_⟩
 refine fW ?_
 refine⟨hd.1,hd.2,?_⟩
 refine fW ?_
 refine⟨E,hd.2,?_⟩
 refine fW ?_
 refine⟨z_,?_⟩
 refine fW ?_
 constructor<;>intro h1
 rotate_left
 ·rw[zE (by simpa using h1)]at hlk
  subst hlk
  refine Tu 3 1000 E E j_ ?_
  refine fU ?_
  exact A1 E .nil [(4,1000)] (Ww n res) (λ _ h=>h) E E ⟨Y,⟨.inl E,E,.inl E,E,.inl E,E,.inl E,E,.inl E,E,Y⟩,E,E⟩
 rw[zD (by simpa using h1)]at hlk
 subst hlk
 refine fU ?_
 refine⟨by decide,by decide,?_⟩
 refine fW ?_
 refine⟨hd.1,hd.2,?_⟩
 refine fW ?_
 refine⟨E,hd.2,true,E,E,?_⟩
 refine fW ?_
 refine⟨z_,?_⟩
 refine fW ?_
 refine Br (Ae Γ.toTy 40 E E E E E (.row E) (.lit (e:=Vg) (l:=[⟨d,0,h,ahead⟩]) E E) y_ (by simp;omega) (by simp;omega)) z_ E ?_
 refine fU ?_
 refine⟨z_,?_⟩
 refine fW ?_
 exact A1 E .nil [(4,40)] (Ww n ⟨S.m0.set d.toNat true,S.m1,S.list++[⟨d,0,h,ahead⟩]⟩) (λ _ h=>h) E E ⟨Y,⟨.inl E,E,.inl E,E,.inl E,E,.inl E,E,.inl E,E,Y⟩,E,E⟩
theorem Axn (n:Net) (S:Srch) (d:Int) (h:Hop) (ahead:Int) (hd:0≤d∧d.toNat<S.m1.length) (hl:Ak S.list) :
  Sq 130 [.ptr 0 0,stSV d 1,Cz h,Aa ahead] (Z9 n S) (.tup []) (Ww n (meetT S d 1 h ahead)):=cT F130 Tryz.ntmps130 λ F hF=>by
 unfold Ak at hl
 have hlk:=meetT.eq_1 S d 1 h ahead
 rw[show Axl S d 1=nth S.m1 d from zD j_,Aj hd.2,show Aao S d 1 h ahead=⟨S.m0,S.m1.set d.toNat true,S.list++[⟨d,1,h,ahead⟩]⟩ from zD j_]at hlk
 generalize meetT S d 1 h ahead=res at *
 refine fW ?_
 refine⟨by decide,by decide,?_⟩
 refine fW ?_
 refine⟨hd.1,hd.2,?_⟩
 refine fW ?_
 refine⟨E,hd.2,?_⟩
 refine fW ?_
 refine⟨z_,?_⟩
 refine fW ?_
 constructor<;>intro h1
 rotate_left
 ·rw[zE (by simpa using h1)]at hlk
  subst hlk
  refine Tu 3 1000 E E j_ ?_
  refine fU ?_
  exact A1 E .nil [(4,1000)] (Ww n res) (λ _ h=>h) E E ⟨Y,⟨.inl E,E,.inl E,E,.inl E,E,.inl E,E,.inl E,E,Y⟩,E,E⟩
 rw[zD (by simpa using h1)]at hlk
 subst hlk
 refine fU ?_
 refine⟨by decide,by decide,?_⟩
 refine fW ?_
 refine⟨hd.1,hd.2,?_⟩
 refine fW ?_
 refine⟨E,hd.2,true,E,E,?_⟩
 refine fW ?_
 refine⟨z_,?_⟩
 refine fW ?_
 refine Br (Ae Γ.toTy 40 E E E E E (.row E) (.lit (e:=Vg) (l:=[⟨d,1,h,ahead⟩]) E E) y_ (by simp;omega) (by simp;omega)) z_ E ?_
 refine fU ?_
 refine⟨z_,?_⟩
 refine fW ?_
 exact A1 E .nil [(4,40)] (Ww n ⟨S.m0,S.m1.set d.toNat true,S.list++[⟨d,1,h,ahead⟩]⟩) (λ _ h=>h) E E ⟨Y,⟨.inl E,E,.inl E,E,.inl E,E,.inl E,E,.inl E,E,Y⟩,E,E⟩
structure Srch.OK (n:Net) (S:Srch):Prop where
 l0:S.m0.length=n.domains.length
 l1:S.m1.length=n.domains.length
 at_:∀ f∈S.list,(0≤f.domain∧f.domain.toNat<n.domains.length)∧(f.kind=0∨f.kind=1)
 len:S.list.length≤S.m0.count true+S.m1.count true
theorem Srch.OK.le {n:Net} {S:Srch} (h:S.OK n):S.list.length≤2 * n.domains.length:=by
 have h1:S.m0.count true≤S.m0.length:=List.count_le_length
 have h2:S.m1.count true≤S.m1.length:=List.count_le_length
 have:=h.len
 rw[h.l0]at h1
 rw[h.l1]at h2
 omega
theorem count_set {l:List Bool} {i:Nat} (h:i<l.length) (hi:l[i]=false):(l.set i true).count true=l.count true+1:=by
 rw[List.count_set h,hi]
 simp
theorem Srch.OK.meet {n:Net} {S:Srch} (h:S.OK n) {d k:Int} (hd:0≤d∧d.toNat<n.domains.length) (hk:k=0∨k=1) (hp:Hop) (a:Int):(meetT S d k hp a).OK n:=by
 rw[meetT]
 split
 ·exact h
 rename_i hmt
 have h0:d.toNat<S.m0.length:=by rw[h.l0];exact hd.2
 have h1:d.toNat<S.m1.length:=by rw[h.l1];exact hd.2
 rcases hk with rfl | rfl
 ·rw[Axl,zE rfl,Aj h0]at hmt
  rw[Aao,zE rfl]
  refine⟨by simp[h.l0],h.l1,λ f hf=>?_,?_⟩
  ·rcases yP.1 hf with hf | hf
   ·exact h.at_ f hf
   ·rw[yD]at hf
    subst hf
    exact⟨hd,.inl E⟩
  ·rw[count_set h0 (by simpa using hmt),yE,yK]
   have:=h.len
   show _≤_+S.m1.count true
   omega
 ·rw[Axl,zD j_,Aj h1]at hmt
  rw[Aao,zD j_]
  refine⟨h.l0,by simp[h.l1],λ f hf=>?_,?_⟩
  ·rcases yP.1 hf with hf | hf
   ·exact h.at_ f hf
   ·rw[yD]at hf
    subst hf
    exact⟨hd,.inr E⟩
  ·rw[count_set h1 (by simpa using hmt),yE,yK]
   have:=h.len
   show _≤S.m0.count true+_
   omega
theorem Yd {n:Net} (h:Ac n=true) {i:Nat} (hi:i<n.ports.length) {v:Int} (hv:D0 n.ports[i] v=true):0≤Jm n n.ports[i].dev v∧(Jm n n.ports[i].dev v).toNat<n.domains.length:=by
 have hp:=Ayr h hi
 simp only[Ll,zH,yX]at hp
 simp only[D0,zH,yQ,yO,yF]at hv
 have h0:0≤Jm n n.ports[i].dev v:=by
  rcases hv.2 with h1 | h1
  ·have h2:=hp.1.2
   have h3:=hp.1.1.1.1.1.1.1.2
   rw[h1]at hv ⊢
   have h4:decide (0<n.ports[i].native)=true:=by
    simp only[zQ]at h3 ⊢
    omega
   rw[h4]at h2
   simpa [Ea] using h2
  ·have h2:=hp.1.1.2
   obtain ⟨x,hx,e⟩:=uV.1 h1
   obtain ⟨j,hj,rfl⟩:=yY.1 hx
   have h3:=allB_iff.1 h2 j hj
   simp only[yF]at e
   rw[e]at h3
   simpa [Ea] using h3
 refine⟨h0,?_⟩
 have:=Hk (λ d:Domain=>d.dev == n.ports[i].dev && d.vlan == v) n.domains
 have e:Jm n n.ports[i].dev v=Co (λ d:Domain=>d.dev == n.ports[i].dev && d.vlan == v) n.domains:=rfl
 omega
theorem S7 {n:Net} {i v:Int} (h:(linkDomT n i v).2=true):0≤(linkDomT n i v).1∧(linkDomT n i v).1.toNat<n.domains.length:=by
 unfold linkDomT at h ⊢
 split at h
 ·rename_i hc
  rw[zE hc]
  have hth:=Yi hc
  unfold crossT at hc hth ⊢
  split at hc
  ·rename_i h1
   rw[zE h1]at hth ⊢
   have hb:=(K6 h1.1).2.1
   have h2:=h1.2.2
   rw[Ab8]at h2 ⊢
   rw[De,zE hb]
   dsimp only at hth ⊢
   rw[Aj hth.2]at h2 ⊢
   refine Yd hb hth.2 ?_
   simp only[D0,zH,yQ,yO,yF]
   refine⟨h2,?_⟩
   split
   ·exact .inl E
   ·rename_i h3
    rw[zD h3]at h2
    split
    ·rename_i h4
     exact .inr h4
    ·rename_i h4
     rw[zD h4]at h2
     exact yB E h2
  ·cases hc
 ·cases h
theorem Ays {n:Net} (h:Ac n=true) {i:Nat} (hi:i<n.domains.length) {p:Int} (hp:p∈n.domains[i].peers):0≤p∧p.toNat<n.domains.length:=by
 simp only[Ac,zH]at h
 have h1:=allB_iff.1 h.1.1.1.1.1.1.2 i hi
 obtain ⟨j,hj,rfl⟩:=yY.1 hp
 have h2:=allB_iff.1 h1 j hj
 simp only[Adg,An,zH,zQ]at h2
 omega
theorem X1 {n:Net} {d:Int} {h:Hop} (hh:h∈Kg n d):0≤h.domain∧h.domain.toNat<n.domains.length:=by
 rw[Kg]at hh
 split at hh
 ·rename_i hd
  have hk:d.toNat<n.domains.length:=by have:=hd.1;omega
  rw[hopsL,Aj hk]at hh
  rcases yP.1 hh with hh | hh
  ·obtain ⟨p,_,hp⟩:=vV.1 hh
   rw[linkHop]at hp
   split at hp
   ·rename_i hl
    simp only[Option.some.injEq]at hp
    subst hp
    exact S7 hl
   ·cases hp
  ·obtain ⟨p,hp,rfl⟩:=yV.1 hh
   exact Ays hd.2 hk hp
 ·cases hh
theorem V2 {n:Net} {d:Int} {q:Lead} (hq:q∈routesT n d):0≤q.domain∧q.domain.toNat<n.domains.length:=by
 rw[routesT]at hq
 split at hq
 ·rename_i hc
  obtain ⟨i,hi,hp⟩:=vV.1 hq
  rw[leadF]at hp
  split at hp
  ·simp only[Option.some.injEq]at hp
   subst hp
   have hi':((i:Nat):Int).toNat<n.irbs.length:=by simpa using hi
   show 0≤(nth n.irbs i).domain∧_
   rw[Aj hi']
   exact(Ei hc.2.2 hi').1
  ·cases hp
 ·cases hq
end Go.Sy.YtiijbikecbjdaaaGreatDoor
