/-
  R8 K0 E7 E8 E9 E10 E11 E12 E13 E14 E15 A7 E21 E29 I6 I11 I41 S0 I31 I7l I8l I37 I15 I16 I17 I18 I12 I13 I14 I19 Sy30 Sy31 Sy32 Sy33 I32 I33 I34 I35 I27 I28: parts of a proof, joined by program.
-/
import Derived.Test.YtljngfegfclkpaaGreatYA5
import Derived.Test.YtljngfegfclkpaaGreatYA4
import Derived.Test.YtljngfegfclkpaaGreatYA1
import Derived.Test.YtljngfegfclkpaaGreatYA6
set_option linter.all false
set_option linter.unusedVariables false
set_option linter.unusedSimpArgs false
set_option linter.deprecated false
namespace Go.Sy.YtljngfegfclkpaaGreat
open Go.Proofs
attribute [local irreducible] Go.Sy.G Go.Sy.DR
set_option maxRecDepth 100000
set_option maxHeartbeats 4000000
theorem tagIsS (d s:Nat) (t:Int) (body:List UInt8) (ht:t≠33024):Sp 102 [Ayf d s t body] (Ac false):=cT F102 Tryz.ntmps102 λ F hF=>by
 conv=>whnf
 refine Ap E (.cons .tmp .nil) ?_ E
 exact zD Ac (zO.2 ht).symm
theorem Az3 (v:Nat) (hv:v<9223372036854775808):bits .or .i64 (IntKind.i64.wrap (0 * 2 ^ min (Int.toNat 12) IntKind.i64.bits)) (v:Int)=v:=by
 have h:=D8 0 v j_ hv
 rw[Nat.zero_or]at h
 exact h
theorem Azp (d s t v:Nat) (body:List UInt8) (ht:t≠33024) (ht2:t≤65535) (hv:v≤4094) (hb:body.length≤1500) :
  Sp 43 [Ayf d s t body,Aa v,Aa 0] (.tup [Ayf d s 33024 ([UInt8.ofNat (v / 256),UInt8.ofNat v,UInt8.ofNat (t / 256),UInt8.ofNat t]++body),Aa 0]):=cT F43 Tryz.ntmps43 λ F hF=>by
 have hor:=Az3 v q_
 have tb1:=Hw v
 have tb2:=Hw t
 conv=>whnf
 refine c0 (tagIsS d s t body q_) F102 ?_
 (refine oF ?_;refine bF ?_)
 refine⟨λ h=>zW (zK h) q_,λ _=>?_⟩
 (refine oF ?_;refine bF ?_;refine bF ?_)
 refine⟨λ h=>zW (zK h) q_,λ _=>?_⟩
 refine oO ?_
 refine⟨λ h=>zW (zK h) q_,λ _=>?_⟩
 refine oO ?_
 refine⟨by omega,?_⟩
 conv=>whnf
 rw[hor]
 refine⟨by omega,?_⟩
 conv=>whnf
 refine⟨by omega,?_⟩
 conv=>whnf
 refine Bs (Ah Γ.toTy 70 E E E E E (.lit (e:=Al) (l:=[UInt8.ofNat (v / 256),UInt8.ofNat v,UInt8.ofNat (t / 256),UInt8.ofNat t]) E ?_) .sl y_ (by simp;omega) (by simp;omega)) z_ E ?_
 ·have h1:=List.cons.inj tb1
  have h2:=List.cons.inj tb2
  have h3:=List.cons.inj h1.2
  have h4:=List.cons.inj h2.2
  simp only[xR,vR]
  rw[h1.1,h3.1,h2.1,h4.1]
 refine oD ?_
 refine kW ?_
 refine Ai 70 E ?_
 exact dN
end Go.Sy.YtljngfegfclkpaaGreat
namespace Go.Sy.YtljngfegfclkpaaGreat
open Go.Proofs
def E2 (l:List UInt8):Nat:=l.foldl (λ n c=>n * 256+c.toNat) 0
theorem Ae5 (l:List UInt8) (c:UInt8):E2 (l++[c])=E2 l * 256+c.toNat:=by
 rw[E2,xB];rfl
theorem On:∀ (k:Nat) (l:List UInt8),l.length=k→E2 l<256 ^ k
 | 0,l,h=>by rw[vU.1 h];decide
 | k+1,l,h=>by
  have hne:l≠[]:=λ e=>by rw[e]at h;cases h
  have e:=uV hne
  have h1:=On k l.dropLast (by rw[uZ];omega)
  have h2:=(l.getLast hne).toNat_lt
  rw[← e,Ae5,Nat.pow_succ]
  omega
theorem Ar7 (l:List UInt8) {j:Nat} (h:j<l.length):E2 (l.take (j+1))=E2 (l.take j) * 256+l[j].toNat:=by
 rw[zY h,Ae5]
theorem Azm (m:Nat) (c:UInt8) (h:m<1099511627776) :
  bits .or .u64 (IntKind.u64.wrap ((m:Int) * 2 ^ min (Int.toNat 8) IntKind.u64.bits)) (IntKind.u64.wrap (c.toNat:Int))=((m * 256+c.toNat:Nat):Int):=by
 have hc:=c.toNat_lt
 have e1:IntKind.u64.wrap ((m:Int) * 2 ^ min (Int.toNat 8) IntKind.u64.bits)=((m * 256:Nat):Int):=by
  show IntKind.u64.wrap ((m:Int) * 256)=_
  rw[IntKind.wrap_u64];omega
 have e2:IntKind.u64.wrap (c.toNat:Int)=(c.toNat:Int):=by rw[IntKind.wrap_u64];omega
 rw[e1,e2,bits_or_u64_nat _ _ q_ q_]
 congr 1
 have h:=xI (i:=8) (b:=c.toNat) q_ m
 rw[vH m 256]
 exact h.symm
def Dh (m:Nat):Bool:=decide (m / 1099511627776 % 2=1)
theorem A07 (m k:Nat):m &&& 2 ^ k=if m / 2 ^ k % 2=1 then 2 ^ k else 0:=by
 apply tZ
 intro i
 rw[Nat.testBit_and,Nat.testBit_two_pow]
 by_cases hi:k=i
 ·subst hi
  rw[zL rfl,vS,Nat.testBit_eq_decide_div_mod_eq]
  split
  ·rename_i h;rw[zL h,Nat.testBit_two_pow_self]
  ·rename_i h;rw[zJ h,Nat.zero_testBit]
 ·rw[zJ hi,wR]
  split
  ·rw[Nat.testBit_two_pow,zJ hi]
  ·rw[Nat.zero_testBit]
theorem Af3 (m:Nat) (h:m<18446744073709551616):(bits .and .u64 (m:Int) 1099511627776 != 0)=Dh m:=by
 have e:=bits_and_u64_nat m 1099511627776 h j_
 rw[show ((1099511627776:Nat):Int)=1099511627776 from rfl]at e
 rw[e,show (1099511627776:Nat)=2 ^ 40 from rfl,A07,Dh,show (1099511627776:Nat)=2 ^ 40 from rfl]
 split
 ·rename_i h;rw[zL h];rfl
 ·rename_i h;rw[zJ h];rfl
end Go.Sy.YtljngfegfclkpaaGreat
namespace Go.Sy.YtljngfegfclkpaaGreat
open Go.Proofs
attribute [local irreducible] Go.Sy.G Go.Sy.DR
set_option maxRecDepth 20000
set_option maxHeartbeats 4000000
theorem e_link {n:Net} (h:Ab n=true) {i:Nat} (hi:i<n.links.length):(0≤n.links[i].a∧n.links[i].a.toNat<n.ports.length)∧(0≤n.links[i].b∧n.links[i].b.toNat<n.ports.length):=by
 simp only[Ab,zB]at h
 have:=allB_iff.1 h.1.1.1.1.2 i hi
 simp only[Kx,Af,zB,zG]at this
 omega
theorem Dx {n:Net} {i:Int} (h:0≤Ay n i):(0≤i∧i.toNat<n.ports.length)∧Ab n=true∧(Ay n i).toNat<n.ports.length:=by
 unfold Ay at h ⊢
 split at h
 ·rename_i hc
  rw[zC hc]
  have hk:i.toNat<n.ports.length:=by omega
  have e1:nth n.ports i=n.ports[i.toNat]:=Ae hk
  rw[e1]at hc h ⊢
  have hq:=Ee hc.2.2 hk hc.2.1
  have e2:nth n.links n.ports[i.toNat].link=n.links[n.ports[i.toNat].link.toNat]:=Ae hq.1
  have hl:=e_link hc.2.2 hq.1
  rw[e2]at h ⊢
  refine⟨by omega,hc.2.2,?_⟩
  split
  ·exact hl.2.2
  ·exact hl.1.2
 ·omega
def C9 (n:Net) (i v:Int):Int:=if v=(nth n.ports i).native then (nth n.ports (Ay n i)).native else if inB (nth n.ports (Ay n i)).tagged v=true then v else 0
def crossT (n:Net) (i v:Int):Int × Int × Bool :=
 if 0≤Ay n i∧Ce (nth n.ports i) v=true∧C9 n i v≠0 then (Ay n i,C9 n i v,true) else (0,0,false)
theorem Aky (n:Net) (hn:n.Fin) (i v:Int):Sp 173 [Aj n,Aa i,Aa v] (.tup [Aa (crossT n i v).1,Aa (crossT n i v).2.1,Ac (crossT n i v).2.2]):=cT F173 Tryz.ntmps173 λ F hF=>by
 have q:=Wv n hn i
 have hth:=Dx (n:=n) (i:=i)
 have hc:=crossT.eq_1 n i v
 unfold C9 at hc
 generalize crossT n i v=r at *
 obtain ⟨far,hfar⟩:∃ far,Ay n i=far:=⟨_,rfl⟩
 rw[hfar]at q hth hc
 refine fW ?_
 refine c0 q F234 ?_
 refine fU ?_
 constructor<;>intro h
 ·have h1:far<0:=zK h
  rw[zA q_]at hc
  subst hc
  refine fU ?_
  exact dN
 have h1:0≤far:=qB h
 obtain ⟨⟨hi0,hk⟩,hb,hfk⟩:=hth h1
 have e1:nth n.ports i=n.ports[i.toNat]:=Ae hk
 have e2:nth n.ports far=n.ports[far.toNat]:=Ae hfk
 rw[e1,e2]at hc
 have ht1:=hn.tagged _ (zE hk)
 have ht2:=hn.tagged _ (zE hfk)
 obtain ⟨p,hp⟩:∃ p,n.ports[i.toNat]=p:=⟨_,rfl⟩
 obtain ⟨o,ho⟩:∃ o,n.ports[far.toNat]=o:=⟨_,rfl⟩
 rw[hp]at hc ht1
 rw[ho]at hc ht2
 have hms:=Wt p v ht1
 have hcs:=Dp o.tagged v ht2
 refine Az 3 8 (Aj n) E E E ?_
 refine fU ?_
 refine⟨E,hi0,hk,?_⟩
 rw[hp]
 refine fW ?_
 refine c0 hms F66 ?_
 cases hm2:Ce p v
 ·rw[zA (by simp[hm2])]at hc
  subst hc
  refine fU ?_
  exact dN
 refine fU ?_
 refine⟨E,h1,hfk,?_⟩
 rw[ho]
 refine fW ?_
 refine⟨E,hi0,hk,?_⟩
 rw[hp]
 refine fW ?_
 constructor<;>intro h
 ·have h2:v=p.native:=by simpa using h
  rw[zC h2]at hc
  refine fU ?_
  constructor<;>intro h
  ·have h3:o.native=0:=by simpa using h
   rw[zA (λ hh=>hh.2.2 h3)]at hc
   subst hc
   refine fU ?_
   exact dN
  ·have h3:o.native≠0:=by simpa using h
   rw[zC ⟨h1,hm2,h3⟩]at hc
   subst hc
   refine fU ?_
   exact dN
 have h2:¬ v=p.native:=by simpa using h
 rw[zA h2]at hc
 refine fU ?_
 refine c0 hcs F21 ?_
 cases hin:inB o.tagged v
 ·rw[hin,zA y_]at hc
  subst hc
  refine fU ?_
  exact dN
 rw[hin,zC rfl]at hc
 refine fU ?_
 constructor<;>intro h
 ·have h3:v=0:=by simpa using h
  rw[zA (λ hh=>hh.2.2 h3)]at hc
  subst hc
  refine fU ?_
  exact dN
 ·have h3:v≠0:=by simpa using h
  rw[zC ⟨h1,hm2,h3⟩]at hc
  subst hc
  refine fU ?_
  exact dN
def linkDomT (n:Net) (i v:Int):Int × Bool:=if (crossT n i v).2.2=true then (Bt n (nth n.ports (crossT n i v).1).dev (crossT n i v).2.1,true) else (0,false)
theorem Xp {n:Net} {i v:Int} (h:(crossT n i v).2.2=true):0≤(crossT n i v).1∧(crossT n i v).1.toNat<n.ports.length:=by
 unfold crossT at h ⊢
 split at h
 ·rename_i hc
  rw[zC hc]
  exact⟨hc.1,(Dx hc.1).2.2⟩
 ·cases h
theorem Ww (n:Net) (hn:n.Fin) (i v:Int):Sp 115 [Aj n,Aa i,Aa v] (.tup [Aa (linkDomT n i v).1,Ac (linkDomT n i v).2]):=cT F115 Tryz.ntmps115 λ F hF=>by
 have q:=Aky n hn i v
 have hth:=Xp (n:=n) (i:=i) (v:=v)
 have hc:=linkDomT.eq_1 n i v
 generalize linkDomT n i v=r at *
 generalize crossT n i v=x at *
 obtain ⟨far,to,ok⟩:=x
 refine fW ?_
 refine c0 q F173 ?_
 cases ok
 ·rw[zA y_]at hc
  subst hc
  refine fU ?_
  exact dN
 rw[zC rfl]at hc
 have hf:=hth rfl
 dsimp only at hf hc
 have e2:nth n.ports far=n.ports[far.toNat]:=Ae hf.2
 rw[e2]at hc
 obtain ⟨o,ho⟩:∃ o,n.ports[far.toNat]'hf.2=o:=⟨_,rfl⟩
 rw[ho]at hc
 have q2:=Jb n hn o.dev to
 subst hc
 refine Az 3 8 (Aj n) E E E ?_
 refine fU ?_
 refine⟨E,hf.1,hf.2,?_⟩
 rw[ho]
 refine fW ?_
 refine cD q2 F62 ?_
 refine fU ?_
 refine⟨z_,?_⟩
 refine fW ?_
 exact dN
theorem Lw (l:List Int) (p:Int→Bool) (f:FuncId) (first cap:List SV) (hc:(SV.clo (.func f) first cap).inn []=true) (hf:∀ x∈l,Hh Tryz.prog f (first++[Aa x]++cap) (Ac (p x))) (hl:Ak l) :
  Sp 296 [.sl 1 Aa l,.clo (.func f) first cap] (Aa (Bg p l)):=cT F296 Tryz.ntmps296 λ F hF=>by
 unfold Ak at hl
 have hin:∀ x:Int,B7 [] (first++[Aa x]++cap)=true:=λ x=>C2 hc rfl
 conv=>whnf
 refine Bi l.length (λ j=>Ir (λ _ x=>!(p x)) l j) (λ j=>[(0,.sl 1 Aa l),(1,.clo (.func f) first cap),(7,Aa l.length),(8,Aa j)]) (λ _=>[]) [] (Bp _ _) ⟨⟨E,E,A9 _,hc,E,E,E,E,Y⟩,Y,E,E⟩ ?_
 intro j hj hI
 refine oO ?_
 constructor<;>intro h
 ·have h:=zK h
  have hj2:j<l.length:=by omega
  refine oO ?_
  refine⟨E,by omega,by omega,?_⟩
  conv=>whnf
  refine Eg (hf l[j] (zE hj2)) E E E (by simp only[hin];rfl) E E ?_
  refine oO ?_
  constructor<;>intro h2
  ·refine oO ?_
   refine Ap E (.cons .tmp .nil) (zD Aa ?_) E
   exact Cj hj2 (λ i hi hij=>by simpa using hI i hi hij) h2
  ·refine oO ?_
   refine iW ?_
   exact Be [] hI hj2 (Bj hI hj2 (by simp[h2])) ⟨⟨E,E,A9 _,hc,E,E,E,E,Y⟩,Y,E,E⟩
 ·have h:=zN h
  refine oO ?_
  refine Ap E (.cons .tmp .nil) (zD Aa ?_) E
  exact Dg (λ i hi=>by simpa using hI i hi q_)
theorem Xr (l:List Int) (p:Int→Bool) (f:FuncId) (first cap:List SV) (hc:(SV.clo (.func f) first cap).inn []=true) (hf:∀ x∈l,Hh Tryz.prog f (first++[Aa x]++cap) (Ac (p x))) (hl:Ak l) :
  Sp 323 [.sl 1 Aa l,.clo (.func f) first cap] (Ac (decide (0≤Bg p l))):=cT F323 Tryz.ntmps323 λ F hF=>by
 have h0:B7 [] [.sl 1 Aa l,.clo (.func f) first cap]=true:=by simp only[B7,hc];rfl
 conv=>whnf
 refine Mi (Lw l p f first cap hc hf hl) F296 E E (by simp only[h0];rfl) E E ?_
 refine oO ?_
 exact dN
theorem Acs (l:List Irb) (p:Irb→Bool) (f:FuncId) (first cap:List SV) (hc:(SV.clo (.func f) first cap).inn []=true) (hf:∀ x∈l,Hh Tryz.prog f (first++[By x]++cap) (Ac (p x))) (hl:Ak l) :
  Sp 240 [.sl 5 By l,.clo (.func f) first cap] (Aa (Bg p l)):=cT F240 Tryz.ntmps240 λ F hF=>by
 unfold Ak at hl
 have hin:∀ x:Irb,B7 [] (first++[By x]++cap)=true:=λ x=>C2 hc rfl
 refine fW ?_
 refine Bi l.length (λ j=>Ir (λ _ x=>!(p x)) l j) (λ j=>[(0,.sl 5 By l),(1,.clo (.func f) first cap),(7,Aa l.length),(8,Aa j)]) (λ _=>[]) [] (Bp _ _) ⟨⟨E,E,A9 _,hc,E,E,E,E,Y⟩,Y,E,E⟩ ?_
 intro j hj hI
 refine fU ?_
 constructor<;>intro h
 ·have h:=zK h
  have hj2:j<l.length:=by omega
  refine fU ?_
  refine⟨E,by omega,by omega,?_⟩
  refine fW ?_
  refine Eg (hf l[j] (zE hj2)) E E E (by simp only[hin];rfl) E E ?_
  refine fU ?_
  constructor<;>intro h2
  ·refine fU ?_
   refine Ap E (.cons .tmp .nil) (zD Aa ?_) E
   exact Cj hj2 (λ i hi hij=>by simpa using hI i hi hij) h2
  ·refine fU ?_
   refine iL ?_
   refine fW ?_
   exact Be [] hI hj2 (Bj hI hj2 (by simp[h2])) ⟨⟨E,E,A9 _,hc,E,E,E,E,Y⟩,Y,E,E⟩
 ·have h:=zN h
  refine fU ?_
  refine Ap E (.cons .tmp .nil) (zD Aa ?_) E
  exact Dg (λ i hi=>by simpa using hI i hi q_)
theorem Jn (l:List Irb) (p:Irb→Bool) (f:FuncId) (first cap:List SV) (hc:(SV.clo (.func f) first cap).inn []=true) (hf:∀ x∈l,Hh Tryz.prog f (first++[By x]++cap) (Ac (p x))) (hl:Ak l) :
  Sp 177 [.sl 5 By l,.clo (.func f) first cap] (Ac (decide (0≤Bg p l))):=cT F177 Tryz.ntmps177 λ F hF=>by
 have h0:B7 [] [.sl 5 By l,.clo (.func f) first cap]=true:=by simp only[B7,hc];rfl
 refine fW ?_
 refine Mi (Acs l p f first cap hc hf hl) F240 E E (by simp only[h0];rfl) E E ?_
 refine fU ?_
 exact dN
theorem Azf (v:Vrf) (hv:Ak v.imports) (t:Int):Sp 322 [Aa t,.ref 5 (B5 v) 0] (Ac (inB v.imports t)):=cT F322 Tryz.ntmps322 λ F hF=>by
 have q:=Dp v.imports t hv
 conv=>whnf
 refine c0 q F21 ?_
 refine oO ?_
 exact dN
def Aoz (n:Net) (i k:Int):Bool:=i == k || (nth n.vrfs i).dev == (nth n.vrfs k).dev && decide (0≤Bg (inB (nth n.vrfs k).imports) (nth n.vrfs i).exports)
theorem Am1 (n:Net) (hn:n.Fin) (hb:Ab n=true) (i k:Int) (hi:0≤i∧i.toNat<n.vrfs.length) (hk:0≤k∧k.toNat<n.vrfs.length) :
  Sp 316 [Aj n,Aa i,Aa k] (Ac (Aoz n i k)):=cT F316 Tryz.ntmps316 λ F hF=>by
 have hr:=Av n hn
 rw[hb]at hr
 have him:=hn.imports _ (zE hk.2)
 have hex:=hn.exports _ (zE hi.2)
 rw[Aoz,Ae hi.2,Ae hk.2]
 obtain ⟨a,ha⟩:∃ a,n.vrfs[i.toNat]'hi.2=a:=⟨_,rfl⟩
 obtain ⟨b,hbb⟩:∃ b,n.vrfs[k.toNat]'hk.2=b:=⟨_,rfl⟩
 rw[ha]at hex ⊢
 rw[hbb]at him ⊢
 have q:=Xr a.exports (inB b.imports) 322 [] [.ref 5 (B5 b) 0] rfl (λ t _=>⟨⟨_,_,F322⟩,Azf b him t⟩) hex
 conv=>whnf
 refine⟨λ h=>zW (zK h) q_,λ _=>?_⟩
 refine oO ?_
 refine⟨λ h=>zW (zK h) q_,λ _=>?_⟩
 refine oO ?_
 refine⟨λ h=>zW (zK h) q_,λ _=>?_⟩
 refine oO ?_
 refine⟨λ h=>zW (zK h) q_,λ _=>?_⟩
 refine oO ?_
 refine c0 hr F19 ?_
 refine oF ?_
 refine⟨E,hi.1,hi.2,?_⟩
 rw[ha]
 conv=>whnf
 refine⟨E,hk.1,hk.2,?_⟩
 rw[hbb]
 conv=>whnf
 refine kW ?_
 constructor<;>intro h
 ·rw[h,uS]
  refine oO ?_
  exact dN
 rw[h,vF]
 refine oO ?_
 constructor<;>intro h
 ·rw[h,zS]
  refine Az 8 5 (B5 b) E E E ?_
  refine oO ?_
  refine c0 q F323 ?_
  refine oO ?_
  exact dN
 ·rw[h,zT]
  refine oO ?_
  exact dN
def Mt (n:Net) (i:Int):Int:=(nth n.domains (nth n.irbs i).domain).dev
theorem A1r {n:Net} (h:Ab n=true) {i:Nat} (hi:i<n.irbs.length):Aen n i n.irbs[i]=true:=by
 simp only[Ab,zB]at h
 exact allB_iff.1 h.2 i hi
theorem Ef {n:Net} (h:Ab n=true) {i:Nat} (hi:i<n.irbs.length) :
  (0≤n.irbs[i].domain∧n.irbs[i].domain.toNat<n.domains.length)∧(0≤n.irbs[i].vrf∧n.irbs[i].vrf.toNat<n.vrfs.length)∧(0≤n.irbs[i].bits∧n.irbs[i].bits≤32):=by
 have:=A1r h hi
 simp only[Aen,Af,zB,zG]at this
 omega
theorem K3 (n:Net) (hb:Ab n=true) (i:Int) (hi:0≤i∧i.toNat<n.irbs.length):Sp 282 [Aj n,Aa i] (Aa (Mt n i)):=cT F282 Tryz.ntmps282 λ F hF=>by
 have hf:=(Ef hb hi.2).1
 rw[Mt,Ae hi.2]
 obtain ⟨x,hx⟩:∃ x,n.irbs[i.toNat]'hi.2=x:=⟨_,rfl⟩
 rw[hx]at hf ⊢
 rw[Ae hf.2]
 obtain ⟨d,hd⟩:∃ d,n.domains[x.domain.toNat]'hf.2=d:=⟨_,rfl⟩
 rw[hd]
 conv=>whnf
 refine⟨E,hi.1,hi.2,?_⟩
 rw[hx]
 conv=>whnf
 refine⟨E,hf.1,hf.2,?_⟩
 rw[hd]
 conv=>whnf
 refine kW ?_
 exact dN
def Aqs (n:Net) (i k:Int):Bool:=Mt n i == Mt n k && Aoz n (nth n.irbs k).vrf (nth n.irbs i).vrf
theorem Ant (n:Net) (hn:n.Fin) (hb:Ab n=true) (i k:Int) (hi:0≤i∧i.toNat<n.irbs.length) (hk:0≤k∧k.toNat<n.irbs.length) :
  Sp 283 [Aj n,Aa i,Aa k] (Ac (Aqs n i k)):=cT F283 Tryz.ntmps283 λ F hF=>by
 have q1:=K3 n hb i hi
 have q2:=K3 n hb k hk
 have f1:=(Ef hb hi.2).2.1
 have f2:=(Ef hb hk.2).2.1
 have q3:=Am1 n hn hb _ _ f2 f1
 rw[Aqs,Ae hi.2,Ae hk.2]
 obtain ⟨x,hx⟩:∃ x,n.irbs[i.toNat]'hi.2=x:=⟨_,rfl⟩
 obtain ⟨y,hy⟩:∃ y,n.irbs[k.toNat]'hk.2=y:=⟨_,rfl⟩
 rw[hx,hy]at q3
 rw[hx,hy]
 generalize Mt n i=di at *
 generalize Mt n k=dk at *
 conv=>whnf
 refine cD q1 F282 ?_
 refine oD ?_
 refine cD q2 F282 ?_
 refine oD ?_
 constructor<;>intro h
 ·rw[h,zS]
  refine oD ?_
  refine⟨E,hk.1,hk.2,?_⟩
  rw[hy]
  conv=>whnf
  refine⟨E,hi.1,hi.2,?_⟩
  rw[hx]
  conv=>whnf
  refine cD q3 F316 ?_
  refine oD ?_
  refine kW ?_
  exact dN
 ·rw[h,zT]
  refine oD ?_
  refine kW ?_
  exact dN
abbrev Aq0 (a b:Int):SV:=.agg [A8 a,Aa b]
theorem Ate (a b:Int) (h:0≤b∧b≤32):Sp 238 [Aq0 a b] (Ac true):=cT F238 Tryz.ntmps238 λ F hF=>by
 conv=>whnf
 refine⟨λ _=>?_,λ h2=>zW (zN h2) q_⟩
 refine oO ?_
 refine Ap E (.cons .tmp .nil) (zD Ac ?_) E
 simp;omega
def Aj4 (b:Int):Int:=IntKind.u32.wrap (IntKind.u32.wrap (1 * 2 ^ (min (32-b).toNat IntKind.u32.bits))-1)
theorem Aws (a b:Int) (h:0≤b∧b≤32):Sp 239 [Aq0 a b] (A8 (Aj4 b)):=cT F239 Tryz.ntmps239 λ F hF=>by
 conv=>whnf
 refine iW ?_
 refine⟨by omega,?_⟩
 conv=>whnf
 exact dN
def Alm (a b x:Int):Bool:=bits .andNot .u32 (bits .xor .u32 a x) (Aj4 b) == 0
theorem Ad3 (a b x:Int) (h:0≤b∧b≤32):Sp 265 [Aq0 a b,A8 x] (Ac (Alm a b x)):=cT F265 Tryz.ntmps265 λ F hF=>by
 have q1:=Ate a b h
 have q2:=Aws a b h
 rw[Alm]
 generalize Aj4 b=r at *
 conv=>whnf
 refine cD q1 F238 ?_
 (refine oD ?_;refine aT ?_;refine oD ?_)
 refine cD q2 F239 ?_
 refine oD ?_
 refine kW ?_
 exact dN
def Acg (c:Int→Int→Int) (l:List Int) (j:Nat):Int:=((l.drop 1).take j).foldl (λ m x=>if 0<c x m then x else m) (nth l 0)
theorem Afp (c:Int→Int→Int) (l:List Int) (j:Nat) (h:j+1<l.length):Acg c l (j+1)=if 0<c l[j+1] (Acg c l j) then l[j+1] else Acg c l j:=by
 have hl:j<(l.drop 1).length:=by rw[yN];omega
 rw[Acg,zY hl,xB]
 have e:(l.drop 1)[j]=l[j+1]:=by rw[wZ];congr 1;omega
 simp only[wT,uM,e]
 rfl
theorem Wu (c:Int→Int→Int) (l:List Int) (h:0<l.length):∀ j,j+1≤l.length→Acg c l j∈l
 | 0,_=>by
  rw[Acg,List.take_zero,uM,Ae (l:=l) (i:=0) (by simpa using h)]
  exact zE _
 | j+1,hj=>by
  rw[Afp c l j q_]
  split
  ·exact zE _
  ·exact Wu c l h j q_
theorem Axg (l:List Int) (c:Int→Int→Int) (f:FuncId) (first cap:List SV) (hc:(SV.clo (.func f) first cap).inn []=true) (h0:0<l.length) (hl:Ak l)
  (hf:∀ x∈l,∀ y∈l,Hh Tryz.prog f (first++[Aa x,Aa y]++cap) (Aa (c x y))) :
  Sp 285 [.sl 1 Aa l,.clo (.func f) first cap] (Aa (Acg c l (l.length-1))):=cT F285 Tryz.ntmps285 λ F hF=>by
 unfold Ak at hl
 have hin:∀ x y:Int,B7 [] (first++[Aa x,Aa y]++cap)=true:=λ x y=>C2 hc rfl
 have hmem:=Wu c l h0
 have hsucc:=Afp c l
 have hz:Acg c l 0=l[0]:=by rw[Acg,List.take_zero,uM,Ae (l:=l) (i:=0) (by simpa using h0)];rfl
 generalize Acg c l=m at *
 conv=>whnf
 refine⟨λ h=>zW (zK h) q_,λ _=>?_⟩
 refine oO ?_
 refine⟨E,by omega,by simpa using h0,?_⟩
 conv=>whnf
 refine A5 (l.length-1) (λ j=>[(0,.sl 1 Aa l),(1,.clo (.func f) first cap),(5,Aa (m j)),(6,Aa ((j:Int)+1))]) (λ _=>[]) []
  ⟨⟨rfl,rfl,A9 _,hc,zD Aa hz,rfl,rfl,rfl,trivial⟩,trivial,rfl,rfl⟩ ?_
 intro j hj
 have hmj:=hmem j q_
 have hsj:=hsucc j
 refine oO ?_
 constructor<;>intro h
 ·have hlt:j+1<l.length:=qA h
  have hsj:=hsj hlt
  have hk:((j:Int)+1).toNat<l.length:=by omega
  have e1:l[((j:Int)+1).toNat]'hk=l[j+1]:=by congr 1
  obtain ⟨x,hx⟩:∃ x,l[j+1]=x:=⟨_,rfl⟩
  have hxm:x∈l:=hx ▸ zE hlt
  rw[hx]at e1 hsj
  refine oO ?_
  refine⟨E,by omega,hk,?_⟩
  rw[e1]
  conv=>whnf
  refine Eg (hf x hxm (m j) hmj) E E E (by simp only[hin];rfl) E E ?_
  refine oO ?_
  constructor<;>intro h2
  ·rw[zC (zK h2)]at hsj
   refine oO ?_
   refine⟨E,by omega,hk,?_⟩
   rw[e1]
   conv=>whnf
   refine iW ?_
   exact Ax [] q_ ⟨⟨E,E,A9 _,hc,zD Aa hsj,E,zD Aa q_,E,Y⟩,Y,E,E⟩
  ·rw[zA (zN h2)]at hsj
   refine oO ?_
   refine iW ?_
   exact Ax [] q_ ⟨⟨E,E,A9 _,hc,zD Aa hsj,E,zD Aa q_,E,Y⟩,Y,E,E⟩
 ·have:j=l.length-1:=qB h
  subst this
  refine oO ?_
  exact dN
def Ahl (n:Net) (irb i:Int):Int:=if (nth n.irbs i).vrf=(nth n.irbs irb).vrf then 1 else 0
abbrev InIrbs (n:Net) (i:Int):Prop:=0≤i∧i.toNat<n.irbs.length
theorem Akv (n:Net) (irb i:Int) (hi:InIrbs n i) (hk:InIrbs n irb):Sp 284 [Aa i,.ref 8 (Aj n) 0,.ref 1 (Aa irb) 0] (Aa (Ahl n irb i)):=cT F284 Tryz.ntmps284 λ F hF=>by
 rw[Ahl,Ae hi.2,Ae hk.2]
 obtain ⟨x,hx⟩:∃ x,n.irbs[i.toNat]'hi.2=x:=⟨_,rfl⟩
 obtain ⟨y,hy⟩:∃ y,n.irbs[irb.toNat]'hk.2=y:=⟨_,rfl⟩
 rw[hx,hy]
 conv=>whnf
 refine⟨E,hi.1,hi.2,?_⟩
 rw[hx]
 conv=>whnf
 refine⟨E,hk.1,hk.2,?_⟩
 rw[hy]
 conv=>whnf
 refine kW ?_
 constructor<;>intro h
 ·rw[zC (by simpa using h)]
  refine oO ?_
  exact dN
 ·rw[zA (by simpa using h)]
  refine oO ?_
  exact dN
def Au0 (n:Net) (irb a b:Int):Int:=if (nth n.irbs a).bits≠(nth n.irbs b).bits then (nth n.irbs a).bits-(nth n.irbs b).bits else Ahl n irb a-Ahl n irb b
theorem Aq3 (n:Net) (irb i:Int):0≤Ahl n irb i∧Ahl n irb i≤1:=by
 unfold Ahl;split<;>omega
theorem Axl (n:Net) (hb:Ab n=true) (irb a b:Int) (hk:InIrbs n irb) (ha:InIrbs n a) (hb2:InIrbs n b) :
  Sp 286 [Aa a,Aa b,.ref 8 (Aj n) 0,.ref 1 (.clo (.func 284) [] [.ref 8 (Aj n) 0,.ref 1 (Aa irb) 0]) 0] (Aa (Au0 n irb a b)):=cT F286 Tryz.ntmps286 λ F hF=>by
 have fa:=(Ef hb ha.2).2.2
 have fb:=(Ef hb hb2.2).2.2
 have q1:=Akv n irb a ha hk
 have q2:=Akv n irb b hb2 hk
 have l1:=Aq3 n irb a
 have l2:=Aq3 n irb b
 rw[Au0,Ae ha.2,Ae hb2.2]
 obtain ⟨x,hx⟩:∃ x,n.irbs[a.toNat]'ha.2=x:=⟨_,rfl⟩
 obtain ⟨y,hy⟩:∃ y,n.irbs[b.toNat]'hb2.2=y:=⟨_,rfl⟩
 rw[hx]at fa ⊢
 rw[hy]at fb ⊢
 generalize Ahl n irb a=oa at *
 generalize Ahl n irb b=ob at *
 conv=>whnf
 refine⟨E,ha.1,ha.2,?_⟩
 rw[hx]
 conv=>whnf
 refine⟨E,hb2.1,hb2.2,?_⟩
 rw[hy]
 conv=>whnf
 refine kW ?_
 constructor<;>intro h
 ·rw[zC (by simpa using h)]
  refine oO ?_
  refine iW ?_
  exact dN
 ·rw[zA (by simpa using h)]
  refine oO ?_
  refine Ap1 ⟨⟨_,_,F284⟩,q1⟩ E E E E z_ E ?_
  refine oD ?_
  refine Ap1 ⟨⟨_,_,F284⟩,q2⟩ E E E E z_ E ?_
  refine oD ?_
  refine iW ?_
  refine kW ?_
  exact dN
def Yf (n:Net) (irb dst:Int) (i:Nat):Bool:=Mt n i == Mt n irb && (nth n.irbs i).addr == dst
def Ya (n:Net) (irb dst:Int) (i:Nat):Bool:=Alm (nth n.irbs i).addr (nth n.irbs i).bits dst && Aqs n irb i
def Qn (n:Net) (irb dst:Int):List Int:=Kz (Ya n irb dst) n.irbs.length
def lookT (n:Net) (irb dst:Int):Int × Bool :=
 if (List.range n.irbs.length).any (Yf n irb dst)=true then (0,false)
 else if Qn n irb dst=[] then (0,false) else (Acg (Au0 n irb) (Qn n irb dst) ((Qn n irb dst).length-1),true)
theorem Aq9 (n:Net) (hn:n.Fin) (hb:Ab n=true) (irb dst:Int) (hk:InIrbs n irb):Sp 226 [Aj n,Aa irb,A8 dst] (.tup [Aa (lookT n irb dst).1,Ac (lookT n irb dst).2]):=cT F226 Tryz.ntmps226 λ F hF=>by
 have hlk:=lookT.eq_1 n irb dst
 generalize lookT n irb dst=r at *
 have hsi:=hn.irbs
 unfold Ak at hsi
 have qk:=K3 n hb irb hk
 conv=>whnf
 refine Az 3 8 (Aj n) E E E ?_
 refine Az 4 1 (Aa irb) E E E ?_
 refine Co 8 1000 1 Aa E E ?_
 refine Bi n.irbs.length (λ j=>∀ i,i<j→Yf n irb dst i=false) (λ j=>[(2,A8 dst),(3,.ref 8 (Aj n) 0),(4,.ref 1 (Aa irb) 0),(8,.osl 1000),(13,.sl 5 By n.irbs),(14,Aa n.irbs.length),(15,Aa j)]) (λ j=>[(1000,.row 1 Aa (Kz (Ya n irb dst) j))]) [] (λ i hi=>zW hi q_)
  ⟨⟨rfl,rfl,rfl,rfl,rfl,rfl,rfl,rfl,rfl,rfl,rfl,rfl,rfl,rfl,trivial⟩,⟨.inl rfl,rfl,trivial⟩,rfl,rfl⟩ ?_
 intro j hj hI
 refine oO ?_
 constructor<;>intro h
 ·have hlt:j<n.irbs.length:=by simpa using h
  have hij:InIrbs n (j:Int):=⟨by omega,by simpa using hlt⟩
  have qj:=K3 n hb j hij
  have hsucc:=Ac8 (Ya n irb dst) j
  have hfl:=Hy (Ya n irb dst) j
  have hta:Yf n irb dst j=(Mt n j == Mt n irb && (nth n.irbs j).addr == dst):=rfl
  have hwa:Ya n irb dst j=(Alm (nth n.irbs j).addr (nth n.irbs j).bits dst && Aqs n irb j):=rfl
  have enj:nth n.irbs (j:Int)=n.irbs[j]:=Ae (l:=n.irbs) (i:=(j:Int)) (by simpa using hlt)
  have hf:=(Ef hb hlt).2.2
  have e1:n.irbs[(j:Int).toNat]'q_=n.irbs[j]:=rfl
  rw[enj]at hta hwa
  obtain ⟨x,hx⟩:∃ x,n.irbs[j]=x:=⟨_,rfl⟩
  rw[hx]at e1 hta hwa hf
  have q1:=Ad3 x.addr x.bits dst hf
  have q2:=Ant n hn hb irb j hk hij
  rw[hwa]at hsucc
  obtain ⟨u,hu⟩:∃ u,Kz (Ya n irb dst) j=u:=⟨_,rfl⟩
  rw[hu]at hsucc hfl ⊢
  refine oO ?_
  refine⟨E,by omega,by omega,?_⟩
  rw[e1]
  conv=>whnf
  refine cD qj F282 ?_
  refine oD ?_
  refine cD qk F282 ?_
  refine oD ?_
  constructor<;>intro h2
  ·rw[h2,zS]at hta
   refine oD ?_
   refine kW ?_
   constructor<;>intro h3
   ·have:(List.range n.irbs.length).any (Yf n irb dst)=true:=wF.2 ⟨j,by simpa using hlt,hta.trans h3⟩
    rw[zC this]at hlk
    subst hlk
    refine oO ?_
    exact dN
   ·have hnt:=hta.trans h3
    refine oO ?_
    refine c0 q1 F265 ?_
    refine oO ?_
    constructor<;>intro h4
    ·rw[h4,zS]at hsucc
     refine oO ?_
     refine c0 q2 F283 ?_
     refine oO ?_
     constructor<;>intro h5
     ·rw[zC h5]at hsucc
      refine oO ?_
      refine Ag (Ah Γ.toTy 47 E E E E E (.row E) (.lit (e:=Aa) (l:=[(j:Int)]) E E) y_ (by simp;omega) (by simp;omega)) E E ?_
      refine oO ?_
      refine iW ?_
      exact Be [(1000,47)] hI hlt (λ i hi=>if e:i=j then (by rw[e];exact hnt) else hI i q_) ⟨⟨E,E,E,E,E,E,E,E,E,E,E,E,E,E,Y⟩,⟨.inl (zD (Ob.row 1 Aa) hsucc),E,Y⟩,E,E⟩
     ·rw[zA (by simp[h5])]at hsucc
      refine oO ?_
      refine iW ?_
      exact Be [] hI hlt (λ i hi=>if e:i=j then (by rw[e];exact hnt) else hI i q_) ⟨⟨E,E,E,E,E,E,E,E,E,E,E,E,E,E,Y⟩,⟨.inl (zD (Ob.row 1 Aa) hsucc),E,Y⟩,E,E⟩
    ·rw[zA (by simp[h4])]at hsucc
     refine oF ?_
     refine iW ?_
     exact Be [] hI hlt (λ i hi=>if e:i=j then (by rw[e];exact hnt) else hI i q_) ⟨⟨E,E,E,E,E,E,E,E,E,E,E,E,E,E,Y⟩,⟨.inl (zD (Ob.row 1 Aa) hsucc),E,Y⟩,E,E⟩
  ·have hnt:Yf n irb dst j=false:=by rw[hta,h2,zT]
   refine oD ?_
   refine⟨z_,?_⟩
   ((conv=>whnf);refine aF ?_;refine rg ?_;conv=>whnf)
   refine c0 q1 F265 ?_
   refine oO ?_
   constructor<;>intro h4
   ·rw[h4,zS]at hsucc
    refine oO ?_
    refine c0 q2 F283 ?_
    refine oO ?_
    constructor<;>intro h5
    ·rw[zC h5]at hsucc
     refine oO ?_
     refine Ag (Ah Γ.toTy 47 E E E E E (.row E) (.lit (e:=Aa) (l:=[(j:Int)]) E E) y_ (by simp;omega) (by simp;omega)) E E ?_
     refine oO ?_
     refine iW ?_
     exact Be [(1000,47)] hI hlt (λ i hi=>if e:i=j then (by rw[e];exact hnt) else hI i q_) ⟨⟨E,E,E,E,E,E,E,E,E,E,E,E,E,E,Y⟩,⟨.inl (zD (Ob.row 1 Aa) hsucc),E,Y⟩,E,E⟩
    ·rw[zA (by simp[h5])]at hsucc
     refine oO ?_
     refine iW ?_
     exact Be [] hI hlt (λ i hi=>if e:i=j then (by rw[e];exact hnt) else hI i q_) ⟨⟨E,E,E,E,E,E,E,E,E,E,E,E,E,E,Y⟩,⟨.inl (zD (Ob.row 1 Aa) hsucc),E,Y⟩,E,E⟩
   ·rw[zA (by simp[h4])]at hsucc
    refine oF ?_
    refine iW ?_
    exact Be [] hI hlt (λ i hi=>if e:i=j then (by rw[e];exact hnt) else hI i q_) ⟨⟨E,E,E,E,E,E,E,E,E,E,E,E,E,E,Y⟩,⟨.inl (zD (Ob.row 1 Aa) hsucc),E,Y⟩,E,E⟩
 ·have:j=n.irbs.length:=qB h
  subst this
  have hno:¬ (List.range n.irbs.length).any (Yf n irb dst)=true:=λ h=>by
   obtain ⟨i,h1,h2⟩:=wF.1 h
   rw[hI i (by simpa using h1)]at h2
   cases h2
  rw[zA hno]at hlk
  have hin:∀ y∈Qn n irb dst,InIrbs n y:=λ y hy=>by
   have:=(Og (p:=Ya n irb dst) (j:=n.irbs.length)).1 hy
   exact⟨this.1,by omega⟩
  have hwl:=Hy (Ya n irb dst) n.irbs.length
  have hwe:Kz (Ya n irb dst) n.irbs.length=Qn n irb dst:=rfl
  rw[hwe]at hwl ⊢
  have q:∀ h0:0<(Qn n irb dst).length,_:=λ h0=>Axg (Qn n irb dst) (Au0 n irb) 286 [] [.ref 8 (Aj n) 0,.ref 1 (.clo (.func 284) [] [.ref 8 (Aj n) 0,.ref 1 (Aa irb) 0]) 0] rfl h0 (by unfold Ak;omega) (λ y hy z hz=>⟨⟨_,_,F286⟩,Axl n hb irb y z hk (hin y hy) (hin z hz)⟩)
  generalize Qn n irb dst=l at *
  refine Ai 1000 E ?_
  refine oO ?_
  constructor<;>intro h3
  ·have h4:l=[]:=by simpa using h3
   rw[zC h4]at hlk
   subst hlk
   refine oO ?_
   exact dN
  ·have h4:¬ l=[]:=by simpa using h3
   rw[zA h4]at hlk
   have q:=q (xF.2 h4)
   subst hlk
   refine oO ?_
   refine Az 11 1 (.clo (.func 284) [] [.ref 8 (Aj n) 0,.ref 1 (Aa irb) 0]) E E E ?_
   refine oO ?_
   refine c0 q F285 ?_
   refine oO ?_
   exact dN
theorem Aha (n:Net) (hn:n.Fin) (hb:Ab n=true) (irb dst:Int) (hk:InIrbs n irb):Sp 176 [Aj n,Aa irb,A8 dst] (.tup [Aa (lookT n irb dst).1,Ac (lookT n irb dst).2]):=cT F176 Tryz.ntmps176 λ F hF=>by
 have hr:=Av n hn
 rw[hb]at hr
 have q:=Aq9 n hn hb irb dst hk
 generalize lookT n irb dst=r at *
 refine fW ?_
 refine⟨λ h=>zW (zK h) q_,λ _=>?_⟩
 refine fU ?_
 refine⟨λ h=>zW (zK h) q_,λ _=>?_⟩
 refine fU ?_
 refine c0 hr F19 ?_
 refine fU ?_
 refine c0 q F226 ?_
 refine fU ?_
 exact dN
theorem Sn {n:Net} {irb dst:Int} (h:(lookT n irb dst).2=true):InIrbs n (lookT n irb dst).1:=by
 unfold lookT at h ⊢
 split at h
 ·cases h
 rename_i h1
 rw[zA h1]
 split at h
 ·cases h
 rename_i h2
 rw[zA h2]
 have hm:=Wu (Au0 n irb) (Qn n irb dst) (xF.2 h2) ((Qn n irb dst).length-1) (by have:=xF.2 h2;omega)
 have:=(Og (p:=Ya n irb dst) (j:=n.irbs.length)).1 hm
 exact⟨this.1,by omega⟩
end Go.Sy.YtljngfegfclkpaaGreat
namespace Go.Sy.YtljngfegfclkpaaGreat
open Go.Proofs
set_option maxRecDepth 20000
set_option maxHeartbeats 4000000
theorem Tv {x:Int} (h0:0≤x) (h1:x<4294967297):IntKind.i64.wrap x=x:=by
 rw[IntKind.wrap_i64];omega
theorem Ar9 {x:Int} (h0:0≤x) (h1:x<4294967296):IntKind.u32.wrap x=x:=by
 rw[IntKind.wrap_u32];omega
theorem Aff (b:Int) (h:0≤b∧b≤32):Aj4 b=((2 ^ (32-b).toNat-1:Nat):Int):=by
 obtain ⟨k,hk,hk2⟩:∃ k:Nat,(32-b).toNat=k∧k≤32:=⟨_,rfl,by omega⟩
 have h1:min (32-b).toNat IntKind.u32.bits=k:=by show min (32-b).toNat 32=k;omega
 have hp:=vD (n:=2) j_ hk2
 have e32:(2:Nat) ^ 32=4294967296:=rfl
 rw[e32]at hp
 have h0:=wJ (n:=k)
 rw[Aj4,h1,hk,IntKind.wrap_u32,IntKind.wrap_u32,show (2:Int) ^ k=((2 ^ k:Nat):Int) by rw[uE];rfl]
 generalize 2 ^ k=q at *
 omega
theorem Ax5 (a b x:Int) (hb:0≤b∧b≤32) (ha:0≤a∧a<4294967296) (hx:0≤x∧x<4294967296):Alm a b x=true↔Hv a b≤x∧x≤Ky a b:=by
 obtain ⟨a,rfl⟩:=yZ ha.1
 obtain ⟨x,rfl⟩:=yZ hx.1
 obtain ⟨k,hk,hk2⟩:∃ k:Nat,(32-b).toNat=k∧k≤32:=⟨_,rfl,by omega⟩
 have h0:=wJ (n:=k)
 rw[Alm,Aff b hb,hk,Axh a x k q_ q_ hk2,decide_eq_true_iff,Asu a x (2 ^ k) q_,Jz a k b hb hk,Yx a k b hb hk]
 omega
theorem Wz (a b:Int) (ha:0≤a∧a<4294967296):0≤Ky a b∧Ky a b<4294967296:=by
 by_cases hb:0≤b∧b≤32
 ·obtain ⟨a,rfl⟩:=yZ ha.1
  obtain ⟨k,hk,hk2⟩:∃ k:Nat,(32-b).toNat=k∧k≤32:=⟨_,rfl,by omega⟩
  have h0:=wJ (n:=k)
  rw[Yx a k b hb hk]
  have hd:a-a % 2 ^ k=2 ^ k * (a / 2 ^ k):=by have:=vJ a (2 ^ k);omega
  have h32:2 ^ k * 2 ^ (32-k)=4294967296:=by
   rw[← Nat.pow_add,show k+(32-k)=32 by omega]
  have:a / 2 ^ k<2 ^ (32-k):=by rw[tV q_,vH,h32];omega
  have:2 ^ k * (a / 2 ^ k)+2 ^ k≤2 ^ k * 2 ^ (32-k):=by
   rw[← Nat.mul_succ];exact Nat.mul_le_mul_left _ this
  omega
 ·rw[Ky,zA hb];omega
theorem Agd (a b:Int) (ha:0≤a∧a<4294967296):0≤Hv a b∧Hv a b<4294967296:=by
 by_cases hb:0≤b∧b≤32
 ·obtain ⟨a,rfl⟩:=yZ ha.1
  rw[Jz a _ b hb rfl]
  omega
 ·rw[Hv,zA hb];omega
end Go.Sy.YtljngfegfclkpaaGreat
namespace Go.Sy.YtljngfegfclkpaaGreat
open Go.Proofs
attribute [local irreducible] Go.Sy.G Go.Sy.DR
set_option maxRecDepth 20000
set_option maxHeartbeats 4000000
theorem Atz {n:Net} {irb dst:Int} (h:(lookT n irb dst).2=true):Ya n irb dst (lookT n irb dst).1.toNat=true:=by
 unfold lookT at h ⊢
 split at h
 ·cases h
 rename_i h1
 rw[zA h1]
 split at h
 ·cases h
 rename_i h2
 rw[zA h2]
 have hm:=Wu (Au0 n irb) (Qn n irb dst) (xF.2 h2) ((Qn n irb dst).length-1) (by have:=xF.2 h2;omega)
 exact((Og (p:=Ya n irb dst) (j:=n.irbs.length)).1 hm).2.2
theorem Asv (x:Int) (i:Irb):Sp 241 [By i,.ref 1 (A8 x) 0] (Ac (i.addr == x)):=cT F241 Tryz.ntmps241 λ F hF=>by
 refine fW ?_
 exact dN
theorem Asw (x:Int) (i:Irb):Sp 178 [By i,.ref 1 (A8 x) 0] (Ac (i.addr == x)):=cT F178 Tryz.ntmps178 λ F hF=>by
 refine fW ?_
 exact dN
def Km (n:Net) (a:Int):Bool:=decide (0≤Bg (λ i:Irb=>i.addr == a) n.irbs)
def pastI (n:Net) (a led:Int):Int:=if Km n a=true then a+1 else Ky (nth n.irbs led).addr (nth n.irbs led).bits+1
theorem Amd (n:Net) (hn:n.Fin) (hu:Dd n) (a led:Int) (ha:0≤a∧a<4294967296) (hl:Km n a=false→InIrbs n led) :
  Sp 179 [Aj n,A8 a,Aa led] (Aa (pastI n a led)):=cT F179 Tryz.ntmps179 λ F hF=>by
 have hlk:=pastI.eq_1 n a led
 generalize pastI n a led=res at *
 have q7:=Jn n.irbs (λ i:Irb=>i.addr == a) 241 [] [.ref 1 (A8 a) 0] rfl (λ i _=>⟨⟨_,_,F241⟩,Asv a i⟩) hn.irbs
 have ht:decide (0≤Bg (λ i:Irb=>i.addr == a) n.irbs)=Km n a:=rfl
 rw[ht]at q7
 generalize Km n a=tk at *
 refine fW ?_
 refine Az 3 8 (Aj n) E E E ?_
 refine Az 4 1 (A8 a) E E E ?_
 refine fU ?_
 refine c0 q7 F177 ?_
 cases tk
 rotate_left
 ·rw[zC rfl]at hlk
  subst hlk
  refine fU ?_
  rw[Tv q_ q_]
  refine iL ?_
  refine fW ?_
  exact dN
 rw[zA y_]at hlk
 have hli:=hl rfl
 rw[Ae hli.2]at hlk
 have hui:=hu _ (zE hli.2)
 obtain ⟨x,hx⟩:∃ x,n.irbs[led.toNat]'hli.2=x:=⟨_,rfl⟩
 rw[hx]at hlk hui
 obtain ⟨y,hy⟩:=yZ hui.1
 have q:=Y9 y x.bits q_
 have hle:=Wz x.addr x.bits hui
 rw[← hy]at q
 generalize Ky x.addr x.bits=z at *
 subst hlk
 refine fU ?_
 refine⟨E,hli.1,hli.2,?_⟩
 rw[hx]
 refine fW ?_
 first | refine cD q F175 ?_ | refine c0 q F175 ?_
 refine fU ?_
 rw[Tv q_ q_]
 refine iL ?_
 refine fW ?_
 exact dN
theorem Awt {n:Net} (hu:Dd n) (hb:Ab n=true) {irb a:Int} (ha:0≤a∧a<4294967296) (h:Km n a=false→(lookT n irb a).2=true) :
  a<pastI n a (lookT n irb a).1∧pastI n a (lookT n irb a).1≤4294967296:=by
 rw[pastI]
 split
 ·omega
 rename_i ht
 have h2:=h (by simpa using ht)
 have hw:=Atz h2
 have hi:=Sn h2
 have e:((lookT n irb a).1.toNat:Int)=(lookT n irb a).1:=by have:=hi.1;omega
 rw[Ya,zB,e]at hw
 rw[Ae hi.2]at hw ⊢
 have hui:=hu _ (zE hi.2)
 have hbi:=(Ef hb hi.2).2.2
 have h3:=(Ax5 _ _ _ hbi hui ha).1 hw.1
 have h4:=Wz _ (n.irbs[(lookT n irb a).1.toNat]'hi.2).bits hui
 omega
def addrGo (n:Net) (irb to e:Int) (x:Int):Int × Bool :=
 if x≤e then
  if (lookT n irb x).2=true∧(lookT n irb x).1=to∧Km n x=false then (x,true)
  else if (lookT n irb x).2=false∧Km n x=false then (0,false)
  else if x<pastI n x (lookT n irb x).1 then addrGo n irb to e (pastI n x (lookT n irb x).1) else (0,false)
 else (0,false)
 termination_by (e+1-x).toNat
 decreasing_by omega
def addrT (n:Net) (irb to:Int):Int × Bool :=
 if (0≤irb∧irb<n.irbs.length)∧(0≤to∧to<n.irbs.length)∧Ab n=true then
  addrGo n irb to (Ky (nth n.irbs to).addr (nth n.irbs to).bits) (Hv (nth n.irbs to).addr (nth n.irbs to).bits) else (0,false)
theorem Adr (n:Net) (hn:n.Fin) (hu:Dd n) (irb to:Int):Sp 116 [Aj n,Aa irb,Aa to] (.tup [A8 (addrT n irb to).1,Ac (addrT n irb to).2]):=cT F116 Tryz.ntmps116 λ F hF=>by
 have hlk:=addrT.eq_1 n irb to
 generalize addrT n irb to=res at *
 have hr:=Av n hn
 have hsi:=hn.irbs
 unfold Ak at hsi
 refine fW ?_
 constructor<;>intro h
 ·rw[zA (qA h)]at hlk
  subst hlk
  refine fU ?_
  exact dN
 have h1:¬ irb<0:=zN h
 refine fU ?_
 constructor<;>intro h
 ·rw[zA (qA h)]at hlk
  subst hlk
  refine fU ?_
  exact dN
 have h2:¬ to<0:=zN h
 refine Az 3 8 (Aj n) E E E ?_
 refine fU ?_
 constructor<;>intro h
 ·rw[zA (qA h)]at hlk
  subst hlk
  refine fU ?_
  exact dN
 have h3:irb<n.irbs.length:=qB h
 refine fU ?_
 constructor<;>intro h
 ·rw[zA (qA h)]at hlk
  subst hlk
  refine fU ?_
  exact dN
 have h4:to<n.irbs.length:=qB h
 refine fU ?_
 refine c0 hr F19 ?_
 cases hb:Ab n
 ·rw[zA (by simp[hb])]at hlk
  subst hlk
  refine fU ?_
  exact dN
 rw[zC ⟨⟨by omega,h3⟩,⟨by omega,h4⟩,hb⟩]at hlk
 have hti:InIrbs n to:=⟨by omega,by omega⟩
 have hii:InIrbs n irb:=⟨by omega,by omega⟩
 rw[Ae hti.2]at hlk
 have hui:=hu _ (zE hti.2)
 obtain ⟨x,hx⟩:∃ x,n.irbs[to.toNat]'hti.2=x:=⟨_,rfl⟩
 rw[hx]at hlk hui
 obtain ⟨y,hy⟩:=yZ hui.1
 have q1:=Ad4 y x.bits q_
 have q2:=Y9 y x.bits q_
 have hf:=Agd x.addr x.bits hui
 have hle:=Wz x.addr x.bits hui
 rw[← hy]at q1 q2
 generalize Ky x.addr x.bits=e at *
 generalize Hv x.addr x.bits=s at *
 refine fU ?_
 refine⟨E,hti.1,hti.2,?_⟩
 rw[hx]
 refine fW ?_
 refine cD q1 F174 ?_
 refine fU ?_
 refine cD q2 F175 ?_
 refine fU ?_
 refine⟨z_,?_⟩
 refine fW ?_
 refine Db (λ z:Int=>0≤z∧z≤4294967296∧res=addrGo n irb to e z) (λ z=>[(1,Aa irb),(2,Aa to),(3,.ref 8 (Aj n) 0),(9,Aa z),(10,Aa e)]) (λ _=>[]) (λ z=>(e+1-z).toNat) s [] ⟨hf.1,by omega,hlk⟩
  ⟨⟨rfl,rfl,rfl,rfl,rfl,rfl,zD Aa (Tv (x:=s) q_ q_).symm,rfl,zD Aa (Tv (x:=e) q_ q_).symm,rfl,trivial⟩,trivial,rfl,rfl⟩ ?_
 clear hlk
 rintro z ⟨hz0,hz1,hlk⟩
 refine fU ?_
 constructor<;>intro h
 ·have h5:z≤e:=zK h
  rw[addrGo,zC h5]at hlk
  have hz2:0≤z∧z<4294967296:=by omega
  have q6:=Aha n hn hb irb z hii
  have hgt:=Awt (irb:=irb) hu hb hz2
  have hth:=Sn (n:=n) (irb:=irb) (dst:=z)
  have q8:=λ led hl=>Amd n hn hu z led hz2 hl
  have q7:=Jn n.irbs (λ i:Irb=>i.addr == z) 178 [] [.ref 1 (A8 z) 0] rfl (λ i _=>⟨⟨_,_,F178⟩,Asw z i⟩) hn.irbs
  have ht:decide (0≤Bg (λ i:Irb=>i.addr == z) n.irbs)=Km n z:=rfl
  rw[ht]at q7
  clear ht
  generalize Km n z=tk at *
  generalize lookT n irb z=ld at *
  obtain ⟨led,ok⟩:=ld
  dsimp only at *
  refine fU ?_
  rw[Ar9 hz2.1 hz2.2]
  refine c0 q6 F176 ?_
  refine Az 11 1 (A8 z) E E E ?_
  refine fU ?_
  refine c0 q7 F177 ?_
  cases ok
  ·cases tk
   ·rw[zA y_,zC ⟨rfl,rfl⟩]at hlk
    subst hlk
    refine fU ?_
    exact dN
   ·rw[zA y_,zA y_,zC (hgt (λ h=>by cases h)).1]at hlk
    have hg:=hgt (λ h=>by cases h)
    have q:=q8 led (λ h=>by cases h)
    generalize pastI n z led=nx at *
    refine fU ?_
    refine c0 q F179 ?_
    refine fU ?_
    exact Bd nx [] ⟨by omega,hg.2,hlk⟩ q_ ⟨⟨E,E,E,E,E,E,E,E,E,E,Y⟩,Y,E,E⟩
  ·have q:=q8 led (λ _=>hth rfl)
   have hg:=hgt (λ _=>rfl)
   cases tk
   ·by_cases hto:led=to
    ·subst hto
     rw[zC ⟨rfl,rfl,rfl⟩]at hlk
     subst hlk
     refine fU ?_
     constructor<;>intro h
     ·refine fU ?_
      exact dN
     ·simp at h
    ·rw[zA (by simp[hto]),zA y_,zC hg.1]at hlk
     generalize pastI n z led=nx at *
     refine fU ?_
     refine⟨λ h=>zW (by simpa using h) hto,λ h=>?_⟩
     refine fU ?_
     refine c0 q F179 ?_
     refine fU ?_
     exact Bd nx [] ⟨by omega,hg.2,hlk⟩ q_ ⟨⟨E,E,E,E,E,E,E,E,E,E,Y⟩,Y,E,E⟩
   ·rw[zA y_,zA y_,zC hg.1]at hlk
    generalize pastI n z led=nx at *
    refine fU ?_
    constructor<;>intro h
    ·refine fU ?_
     refine c0 q F179 ?_
     refine fU ?_
     exact Bd nx [] ⟨by omega,hg.2,hlk⟩ q_ ⟨⟨E,E,E,E,E,E,E,E,E,E,Y⟩,Y,E,E⟩
    ·refine fU ?_
     refine c0 q F179 ?_
     refine fU ?_
     exact Bd nx [] ⟨by omega,hg.2,hlk⟩ q_ ⟨⟨E,E,E,E,E,E,E,E,E,E,Y⟩,Y,E,E⟩
 ·have h5:¬ z≤e:=zN h
  rw[addrGo,zA h5]at hlk
  subst hlk
  refine fU ?_
  exact dN
end Go.Sy.YtljngfegfclkpaaGreat
namespace Go.Sy.YtljngfegfclkpaaGreat
open Go.Proofs
theorem Aji (a b:ByteArray):(a == b)=true↔a=b:=by
 cases a with
 | mk a =>
  cases b with
  | mk b =>
   show (a == b)=true↔_
   simp
instance:LawfulBEq ByteArray where
 eq_of_beq h:=(Aji _ _).1 h
 rfl:=(Aji _ _).2 rfl
def Axq (c:UInt8):Bool:=decide (97≤c.toNat) && decide (c.toNat≤122)
def A1n:List UInt8→Bool
 | []=>false
 | c::l=>Axq c && l.all λ c=>Axq c || Ayr c
def Dc (s:ByteArray):Bool:=A1n s.data.toList && decide (s.size≤12)
def macAt (s:ByteArray) (i:Nat):Bool:=decide (A01 (Hm s (3 * i))≤15) && decide (A01 (Hm s (3 * i+1))≤15) && (decide (5≤i) || decide ((Hm s (3 * i+2)).toNat=58))
def macV (s:ByteArray):Nat→Int
 | 0=>0
 | i+1=>macV s i * 256+A01 (Hm s (3 * i)) * 16+A01 (Hm s (3 * i+1))
def Aaq (s:ByteArray):Int × Bool:=if s.size=17∧(List.range 6).all (macAt s)=true then (macV s 6,true) else (0,false)
def Jf (m:Int):Bool:=decide (m % 281474976710656 / 4294967296=512)
def statB (m:Int):Bool:=decide (m≤281474976710655) && !(Jf m) && !(Dh m.toNat)
def Ard (one:ByteArray→Int × Bool):List Int→List ByteArray→List Int × Bool
 | out,[]=>(out,true)
 | out,p::r=>if (one p).2=false∨out.length=16∨(∃ x,out.getLast? = some x∧(one p).1≤x) then ([],false) else Ard one (out++[(one p).1]) r
def Axs (one:ByteArray→Int × Bool) (s:ByteArray):List Int × Bool:=Ard one [] (Ag2 44 s)
def dash:ByteArray:=⟨#[45]⟩
def Zw (most:Int) (s:ByteArray):List Int × Bool:=if s=dash then ([],true) else Axs (λ p=>Ahq p 1 most) s
def Aqb (s:ByteArray):List Int × Bool:=Axs Afg s
def Wj (s:ByteArray):(Int × Int) × Bool :=
 if (Ays 47 s).2.2=false∨(Afg (Ays 47 s).1).2=false∨(Ag4 (Ays 47 s).2.1 32).2=false then ((0,0),false) else (((Afg (Ays 47 s).1).1,(Ag4 (Ays 47 s).2.1 32).1),true)
def subnetB (a bits:Int):Bool:=decide (1≤bits) && decide (bits≤30) && decide (a≠Hv a bits) && decide (a≠Ky a bits)
def Ut (s:ByteArray):Int :=
 if s=⟨#[100,101,118,105,99,101]⟩ then 1 else if s=⟨#[112,111,114,116]⟩ then 2 else if s=⟨#[108,105,110,107]⟩ then 3 else if s=⟨#[115,116,97,116,105,99]⟩ then 4
 else if s=⟨#[118,116,101,112]⟩ then 5 else if s=⟨#[118,110,105]⟩ then 6 else if s=⟨#[102,108,111,111,100]⟩ then 7 else if s=⟨#[118,114,102]⟩ then 8 else if s=⟨#[105,114,98]⟩ then 9 else 0
def Arw:ByteArray:=⟨#[97,99,99,101,115,115]⟩
def Avt:ByteArray:=⟨#[116,114,117,110,107]⟩
def wdT (w:List ByteArray) (i:Nat):ByteArray:=(w[i]?).getD ⟨#[]⟩
def membersB (vlan:Int) (tagged:List Int):Bool:=(decide (0<vlan) || !tagged.isEmpty) && !(tagged.contains vlan)
def lineZ:LineM:=⟨0,0,⟨#[]⟩,⟨#[]⟩,⟨#[]⟩,⟨#[]⟩,⟨#[]⟩,0,0,0,0,0,0,[],[],[],[]⟩
def Qo (s:ByteArray):Int × Bool:=Ahq s 1 4094
def Azj (s:ByteArray):Int × Bool:=Ahq s 1 16777215
def Akc (w:List ByteArray):Int × List Int × List (Bool × Int) :=
 if wdT w 4=Arw then ((Qo (wdT w 5)).1,[],[(!(Qo (wdT w 5)).2,21)])
 else if wdT w 4=Avt then
  (if wdT w 5=dash then (0,(Zw 4094 (wdT w 6)).1,[(!(Zw 4094 (wdT w 6)).2,21)])
   else ((Qo (wdT w 5)).1,(Zw 4094 (wdT w 6)).1,[(!(Qo (wdT w 5)).2,21),(!(Zw 4094 (wdT w 6)).2,21)]))
 else (0,[],[])
def Afc (w:List ByteArray) (row:Int):LineM × List (Bool × Int) :=
 let n:=λ i=>(!(Dc (wdT w i)),(20:Int))
 let k:=Ut (wdT w 0)
 if k=1 then ({ lineZ with row:=row,kind:=1,dev:=wdT w 1,num:=(Ahq (wdT w 2) 0 65535).1,mac:=(Aaq (wdT w 3)).1 },[n 1,(!(Ahq (wdT w 2) 0 65535).2,21),(!((Aaq (wdT w 3)).2 && statB (Aaq (wdT w 3)).1),21)])
 else if k=2 then ({ lineZ with row:=row,kind:=2,dev:=wdT w 1,port:=wdT w 2,cost:=(Ahq (wdT w 3) 1 65535).1,vlan:=(Akc w).1,tagged:=(Akc w).2.1 },
  [n 1,n 2,(!(Ahq (wdT w 3) 1 65535).2,21),(decide (wdT w 4≠Arw) && decide (wdT w 4≠Avt),20)]++(Akc w).2.2++[(!(membersB (Akc w).1 (Akc w).2.1),21)])
 else if k=3 then ({ lineZ with row:=row,kind:=3,dev:=wdT w 1,port:=wdT w 2,peer:=wdT w 3,far:=wdT w 4 },[n 1,n 2,n 3,n 4])
 else if k=4 then ({ lineZ with row:=row,kind:=4,dev:=wdT w 1,vlan:=(Qo (wdT w 2)).1,mac:=(Aaq (wdT w 3)).1,port:=wdT w 4 },[n 1,(!(Qo (wdT w 2)).2,21),(!((Aaq (wdT w 3)).2 && statB (Aaq (wdT w 3)).1),21),n 4])
 else if k=5 then ({ lineZ with row:=row,kind:=5,dev:=wdT w 1,addr:=(Afg (wdT w 2)).1 },[n 1,(!((Afg (wdT w 2)).2 && decide ((Afg (wdT w 2)).1≠0)),21)])
 else if k=6 then ({ lineZ with row:=row,kind:=6,dev:=wdT w 1,vlan:=(Qo (wdT w 2)).1,num:=(Azj (wdT w 3)).1 },[n 1,(!(Qo (wdT w 2)).2,21),(!(Azj (wdT w 3)).2,21)])
 else if k=7 then ({ lineZ with row:=row,kind:=7,dev:=wdT w 1,num:=(Azj (wdT w 2)).1,addrs:=(Aqb (wdT w 3)).1 },[n 1,(!(Azj (wdT w 2)).2,21),(!((Aqb (wdT w 3)).2 && decide ((Aqb (wdT w 3)).1.head? ≠ some 0)),21)])
 else if k=8 then ({ lineZ with row:=row,kind:=8,dev:=wdT w 1,name:=wdT w 2,imports:=(Zw 65535 (wdT w 3)).1,exports:=(Zw 65535 (wdT w 4)).1 },[n 1,n 2,(!(Zw 65535 (wdT w 3)).2,21),(!(Zw 65535 (wdT w 4)).2,21)])
 else ({ lineZ with row:=row,kind:=9,dev:=wdT w 1,vlan:=(Qo (wdT w 2)).1,name:=wdT w 3,addr:=(Wj (wdT w 4)).1.1,bits:=(Wj (wdT w 4)).1.2 },
  [n 1,(!(Qo (wdT w 2)).2,21),n 3,(!((Wj (wdT w 4)).2 && subnetB (Wj (wdT w 4)).1.1 (Wj (wdT w 4)).1.2),21)])
def M0 (a b:LineM):Bool :=
 a.row == b.row && (a.kind == b.kind && (a.dev == b.dev && (a.port == b.port && (a.peer == b.peer && (a.far == b.far && (a.name == b.name && (a.mac == b.mac && (a.addr == b.addr && (a.bits == b.bits &&
 (a.vlan == b.vlan && (a.num == b.num && (a.cost == b.cost && (a.tagged == b.tagged && (a.imports == b.imports && (a.exports == b.exports && a.addrs == b.addrs)))))))))))))))
def Cd (n lo hi:Int):Bool:=decide (lo≤n) && decide (n≤hi)
abbrev H3 (l:List Int) (hi:Int):Bool:=Uh l hi
def Mj (l:List Int):Bool:=(List.range l.length).all (λ i=>decide (l.getD i 0≠0) && (i == 0 || decide (l.getD (i-1) 0<l.getD i 0))) && (decide (0<l.length) && decide (l.length≤16))
def Bh (l:LineM):LineM × Bool :=
 let u:LineM:={ lineZ with row:=l.row,kind:=l.kind,dev:=l.dev }
 if l.kind=1 then ({ u with num:=l.num,mac:=l.mac },Cd l.num 0 65535 && statB l.mac)
 else if l.kind=2 then ({ u with port:=l.port,cost:=l.cost,vlan:=l.vlan,tagged:=l.tagged },Dc l.port && (Cd l.cost 1 65535 && (Cd l.vlan 0 4094 && (H3 l.tagged 4094 && membersB l.vlan l.tagged))))
 else if l.kind=3 then ({ u with port:=l.port,peer:=l.peer,far:=l.far },Dc l.port && (Dc l.peer && Dc l.far))
 else if l.kind=4 then ({ u with vlan:=l.vlan,mac:=l.mac,port:=l.port },Cd l.vlan 1 4094 && (statB l.mac && Dc l.port))
 else if l.kind=5 then ({ u with addr:=l.addr },decide (l.addr≠0))
 else if l.kind=6 then ({ u with vlan:=l.vlan,num:=l.num },Cd l.vlan 1 4094 && Cd l.num 1 16777215)
 else if l.kind=7 then ({ u with num:=l.num,addrs:=l.addrs },Cd l.num 1 16777215 && Mj l.addrs)
 else if l.kind=8 then ({ u with name:=l.name,imports:=l.imports,exports:=l.exports },Dc l.name && (H3 l.imports 65535 && H3 l.exports 65535))
 else if l.kind=9 then ({ u with vlan:=l.vlan,name:=l.name,addr:=l.addr,bits:=l.bits },Cd l.vlan 1 4094 && (Dc l.name && subnetB l.addr l.bits))
 else (u,false)
def C6 (l:LineM):Bool:=(Bh l).2 && (Dc l.dev && M0 (Bh l).1 l)
end Go.Sy.YtljngfegfclkpaaGreat
namespace Go.Sy.YtljngfegfclkpaaGreat
open Go.Proofs
attribute [local irreducible] Go.Sy.G Go.Sy.DR
structure Bx (Q:Prop):Prop where out:Q
theorem sE {α:Sort _} {a b:α} {K:Prop} (e:a=b) (h:K):a=b∧K:=⟨e,h⟩
theorem xE {α:Sort _} {a b:α} {K:a=b→Prop} (e:a=b) (h:K e):∃ e:a=b,K e:=⟨e,h⟩
theorem sL {a b:Int} {K:Prop} (e:a≤b) (h:K):a≤b∧K:=⟨e,h⟩
theorem xL {a b:Int} {K:a≤b→Prop} (e:a≤b) (h:K e):∃ e:a≤b,K e:=⟨e,h⟩
theorem sM {a b:Nat} {K:Prop} (e:a≤b) (h:K):a≤b∧K:=⟨e,h⟩
theorem sT {a b:Nat} {K:Prop} (e:a<b) (h:K):a<b∧K:=⟨e,h⟩
theorem xT {a b:Nat} {K:a<b→Prop} (e:a<b) (h:K e):∃ e:a<b,K e:=⟨e,h⟩
theorem sN {a b:Int} {K:Prop} (e:a≠b) (h:K):a≠b∧K:=⟨e,h⟩
theorem sI {a:Int} {K:Prop} (e:I64 a) (h:K):I64 a∧K:=⟨e,h⟩
theorem ct {p q:Prop} {b:Bool} (h:q) (e:b=true→False:=by
 intro _h
 first | exact zW _h j_ | exact uP (Eq.trans (Eq.symm (by with_reducible assumption)) _h) | (simp at _h;done) | (simp at _h;omega)):(b=true→p)∧(b=false→q):=⟨λ x=>(e x).elim,λ _=>h⟩
theorem cf {p q:Prop} {b:Bool} (h:p) (e:b=false→False:=by
 intro _h
 first | exact zW _h j_ | exact uP (Eq.trans (Eq.symm _h) (by with_reducible assumption)) | (simp at _h;done) | (simp at _h;omega)):(b=true→p)∧(b=false→q):=⟨λ _=>h,λ x=>(e x).elim⟩
theorem S {P Q:Prop} (h:Q) (e:Bx Q→P:=by
 intro hb
 first | refine rg ?_ | refine rd z_ ?_ | skip
 conv=>whnf
 repeat (first
  | ((first | refine aF ?_ | refine aT ?_ | refine ct ?_ | refine cf ?_);(first | refine rg ?_ | refine rd z_ ?_);(conv=>whnf))
  | ((first | refine⟨(by kernel_rfl:Aig _ _=true),?_⟩ | refine sI (by unfold I64;omega) ?_);(conv=>whnf)))
 exact hb.out):P:=e ⟨h⟩
theorem T {P Q:Prop} (h:Q) (e:Bx Q→P:=by
 intro hb
 refine S ?_
 repeat ((first | refine sE (by exact rfl) ?_ | refine sL (by first | omega | decide) ?_ | refine xL (by first | omega | decide) ?_ | refine sT (by first | omega | decide) ?_ | refine xT (by first | omega | decide) ?_ | refine sM (by first | omega | decide) ?_ | refine sN (by first | omega | decide) ?_ | refine xE (by exact rfl) ?_);refine S ?_)
 exact hb.out):P:=e ⟨h⟩
theorem D {P:Prop} (h:P:=by
 apply Ap
 ·exact E
 ·(repeat (first | exact ResVs.nil | (apply ResVs.cons;(first | exact .tmp | exact .cell rfl rfl rfl rfl))))
 ·exact E
 ·exact E):P:=h
theorem U {P:Prop} (h:P:=by
 refine⟨?_,?_,E,E⟩
 ·repeat (first | exact trivial | exact rfl | refine⟨rfl,rfl,?_⟩)
 ·repeat (first | exact trivial | refine⟨.inl rfl,rfl,?_⟩ | refine⟨.inr rfl,rfl,?_⟩)):P:=h
theorem W {P:Prop} (h:P:=by
 repeat (first | exact trivial | exact rfl | refine⟨rfl,?_⟩)):P:=h
theorem V {P:Prop} (h:P:=by
 repeat (first | exact trivial | refine⟨.inl rfl,?_⟩ | refine⟨.inr rfl,?_⟩)):P:=h
theorem C {P:Program} {f:FuncId} {fn:Func} {c:Code} {A:List SV} {R:SV} {Z Q:Prop} (hs:Sy.Spec P f A [] R []) (hf:Fun P f fn c) (h:Q) (e:Sy.Spec P f A [] R []→Fun P f fn c→Bx Q→Z:=by
 intro hs hf hb
 first | refine Mi hs hf rfl rfl rfl rfl rfl ?_ | refine Ayv hs hf rfl rfl rfl z_ rfl ?_
 refine T ?_
 exact hb.out):Z:=e hs hf ⟨h⟩
theorem X {C:Cx} {k:List KI} {s:SS} {all:Array Oper} {o:Oper} {rest:List Oper} {V:Up} {Q:Prop} (hg:Good C.P o s V) (h:Q) (hd:S9 C.n o=true:=by exact rfl) (hw:Ej C.n all o s=some true:=by exact rfl) (e:Bx Q→G C (.ops all rest::k) (s.upd o.dst V):=by
 intro hb
 refine T ?_
 exact hb.out):G C (.ops all (o::rest)::k) s:=Ag hg hd hw (e ⟨h⟩)
theorem Xd {C:Cx} {k:List KI} {s:SS} {all:Array Oper} {done:List Stp} {o:Oper} {rest:List Oper} {V:Up} {Q:Prop} (hg:Good C.P o s V) (h:Q) (hi:all[done.length]? = some o:=by kernel_rfl) (hw:Ej C.n all o s=some true:=by exact rfl) (hn:(Iy o || Ms o)=false:=by exact rfl) (e:Bx Q→DR C k all (done++[⟨done.length,o,V,true⟩]) rest (s.upd o.dst V):=by
 intro hb
 refine T ?_
 exact hb.out):DR C k all done (o::rest) s:=Bs hg hi hw (e ⟨h⟩) hn
theorem Xe {C:Cx} {k:List KI} {s:SS} {all:Array Oper} {done:List Stp} {o:Oper} {rest:List Oper} {V:Up} {Q:Prop} (hg:Good C.P o s V) (h:Q) (hk:KeepL s V.objs:=by exact W) (hi:all[done.length]? = some o:=by kernel_rfl) (hw:Ej C.n all o s=some true:=by exact rfl) (hn:(Iy o || Ms o)=false:=by exact rfl) (e:Bx Q→DR C k all (done++[⟨done.length,o,⟨V.v,V.rd++V.ws,[]⟩,true⟩]) rest (s.upd o.dst ⟨V.v,V.rd++V.ws,[]⟩):=by
 intro hb
 refine T ?_
 exact hb.out):DR C k all done (o::rest) s:=stepD2 hg hk hi hw (e ⟨h⟩) hn
end Go.Sy.YtljngfegfclkpaaGreat
namespace Go.Sy.YtljngfegfclkpaaGreat
open Go.Proofs
attribute [local irreducible] Go.Sy.G Go.Sy.DR
set_option maxRecDepth 100000
set_option maxHeartbeats 4000000
structure LineFin (l:LineM):Prop where
 t:l.tagged.length≤100000
 i:l.imports.length≤100000
 e:l.exports.length≤100000
 a:l.addrs.length≤100000
def Un (i:Nat) (c:UInt8):Bool:=Axq c || (Ayr c && decide (i≠0))
theorem Aw7 (s:ByteArray):Dc s=(Ha Un s.data.toList && (decide (0<s.size) && decide (s.size≤12))):=by
 have hsz:s.data.toList.length=s.size:=rfl
 rw[Dc,← hsz]
 cases hl:s.data.toList with
 | nil=>rfl
 | cons c l =>
  have e:Ha Un (c::l)=(Axq c && l.all λ c=>Axq c || Ayr c):=by
   rw[xO,allB_iff,zB,xD]
   constructor
   ·intro h
    refine⟨by have:=h 0 y_;simpa [Un] using this,λ x hx=>?_⟩
    obtain ⟨i,hi,rfl⟩:=yR.1 hx
    have:=h (i+1) (by simp;omega)
    simpa [Un] using this
   ·rintro ⟨h1,h2⟩ i hi
    cases i with
    | zero=>simp[Un,h1]
    | succ i =>
     have:=h2 (l[i]'(by simp at hi;omega)) (zE _)
     simpa [Un] using this
  rw[e,A1n]
  simp
theorem Kd (s:ByteArray) (hs:s.size≤1000000):Sp 258 [Dz s] (Ac (Dc s)):=cT F258 Tryz.ntmps258 λ F hF=>by
 have hsz:s.data.toList.length=s.size:=rfl
 have hw:=Aw7 s
 obtain ⟨r,hr⟩:∃ r,Dc s=r:=⟨_,rfl⟩
 rw[hr]at hw ⊢
 refine T ?_
 refine Bi s.size (λ j=>Ir Un s.data.toList j) (λ j=>[(0,Dz s),(7,Aa s.size),(8,Aa j)]) (λ _=>[]) [] (Bp _ _) U ?_
 intro j hj hI
 refine T ?_
 constructor<;>intro h
 ·have hlt:j<s.data.toList.length:=qA h
  have hb:Hm s j=s.data.toList[j]:=A05 hlt
  have hno:=λ h=>Cz (p:=Un) hlt h
  have hnx:=λ h=>Bj (p:=Un) hI hlt h
  rw[← hb]at hno hnx
  clear h
  have hx:Un j (Hm s j)=((decide (97≤(Hm s j).toNat) && decide ((Hm s j).toNat≤122)) || ((decide (48≤(Hm s j).toNat) && decide ((Hm s j).toNat≤57)) && decide (j≠0))):=rfl
  rcases (by omega:(Hm s j).toNat<48∨(48≤(Hm s j).toNat∧(Hm s j).toNat≤57)∨(57<(Hm s j).toNat∧(Hm s j).toNat<97)∨(97≤(Hm s j).toNat∧(Hm s j).toNat≤122)∨122<(Hm s j).toNat) with h | h | h | h | h
  ·rw[hno (by rw[hx,zJ (by omega:¬ 97≤(Hm s j).toNat),zJ (by omega:¬ 48≤(Hm s j).toNat)];rfl),zT]at hw
   subst hw
   refine T ?_
   exact D
  ·by_cases h0:j=0
   ·subst h0
    rw[hno (by rw[hx,zJ (by omega:¬ 97≤(Hm s 0).toNat)];simp),zT]at hw
    subst hw
    refine T ?_
    exact D
   ·refine T ?_
    exact Be [] hI q_ (hnx (by rw[hx];simp[h,h0])) U
  ·rw[hno (by rw[hx,zJ (by omega:¬ 97≤(Hm s j).toNat),zJ (by omega:¬ (Hm s j).toNat≤57)];simp),zT]at hw
   subst hw
   refine T ?_
   exact D
  ·refine T ?_
   exact Be [] hI q_ (hnx (by rw[hx];simp[h])) U
  ·rw[hno (by rw[hx,zJ (by omega:¬ (Hm s j).toNat≤122),zJ (by omega:¬ (Hm s j).toNat≤57)];simp),zT]at hw
   subst hw
   refine T ?_
   exact D
 ·have hje:j=s.size:=qB h
  subst hje
  rw[Eo hI (zZ _),zS]at hw
  clear h
  subst hw
  by_cases h0:0<s.size
  ·refine T ?_
   refine⟨λ _=>?_,λ h=>zW (zN h) q_⟩
   refine T ?_
   refine Ap E (.cons .tmp .nil) (zD Ac ?_) E
   rw[zL h0,zS]
   exact decide_eq_decide.2 q_
  ·rw[zJ h0,zT]
   refine T ?_
   exact D
theorem Alc (m:Nat) (h:m<18446744073709551616):(((bits .and .u64 (m:Int) 281474976710655).fdiv (2 ^ min (Int.toNat 32) IntKind.u64.bits)) != 512)=!(Jf m):=by
 have e:=bits_and_u64_nat m 281474976710655 h j_
 have e2:m &&& 281474976710655=m % 281474976710656:=vQ m 48
 have e3:bits .and .u64 (m:Int) 281474976710655=((m % 281474976710656:Nat):Int):=by rw[← e2];exact e
 have e4:((m % 281474976710656:Nat):Int).fdiv (2 ^ min (Int.toNat 32) IntKind.u64.bits)=((m % 281474976710656 / 4294967296:Nat):Int):=by
  show ((m % 281474976710656:Nat):Int).fdiv 4294967296=_
  rw[xY _ j_,Int.natCast_ediv];rfl
 rw[e3,e4,Jf]
 by_cases hh:m % 281474976710656 / 4294967296=512
 ·rw[hh,zL q_];rfl
 ·rw[zJ q_]
  simp;omega
def Ax0 (m:Int):Int:=if Jf m=true then IntKind.u32.wrap (bits .and .u64 m 281474976710655) else 0
theorem A0m (m:Nat) (h:m<18446744073709551616):Sp 320 [Bb m] (.tup [A8 (Ax0 m),Ac (Jf m)]):=cT F320 Tryz.ntmps320 λ F hF=>by
 have hb:=Alc m h
 rw[Ax0]
 cases hh:Jf m with
 | true =>
  have hb:=hb.trans (by rw[hh];rfl:_=false)
  rw[zC rfl]
  refine T ?_
  exact D
 | false =>
  have hb:=hb.trans (by rw[hh];rfl:_=true)
  rw[zA y_]
  refine T ?_
  exact D
theorem Aty (m:Nat) (h:m<18446744073709551616):Sp 149 [Bb m] (Ac (Dh m)):=cT F149 Tryz.ntmps149 λ F hF=>by
 have hb:=Af3 m h
 refine T ?_
 exact Ap E (.cons .tmp .nil) (zD Ac hb.symm) E
theorem Ajn (m:Nat) (h:m<18446744073709551616):Sp 306 [Bb m] (Ac (statB m)):=cT F306 Tryz.ntmps306 λ F hF=>by
 have q1:=A0m m h
 have q2:=Aty m h
 have hw:=statB.eq_1 (m:Int)
 rw[zR]at hw
 generalize statB (m:Int)=r at *
 generalize Ax0 (m:Int)=hv at *
 by_cases c1:(m:Int)≤281474976710655
 ·rw[zL c1,zS]at hw
  have f1:decide ((m:Int)≤281474976710655)=true:=zL c1
  cases hh:Jf m with
  | true =>
   rw[hh]at q1 hw
   simp at hw
   subst hw
   refine T ?_
   refine C q1 F320 ?_
   exact D
  | false =>
   rw[hh]at q1 hw
   simp at hw
   subst hw
   refine T ?_
   refine C q1 F320 ?_
   refine C q2 F149 ?_
   exact D
 ·rw[zJ c1]at hw
  have f1:decide ((m:Int)≤281474976710655)=false:=zJ c1
  simp at hw
  subst hw
  refine T ?_
  refine C q1 F320 ?_
  exact D
end Go.Sy.YtljngfegfclkpaaGreat
namespace Go.Sy.YtljngfegfclkpaaGreat
open Go.Proofs
def Rise (l:List Int):Prop:=l.Pairwise (·<·)
theorem As2 {l:List Int} (h:∀ i (hi:i+1<l.length),l[i]<l[i+1]):Rise l:=by
 unfold Rise
 rw[wA]
 intro i j hi hj hij
 induction j with
 | zero=>omega
 | succ j ih =>
  by_cases e:i=j
  ·subst e;exact h i hj
  ·have:=ih q_ q_
   have:=h j hj
   omega
theorem rising_iff {l:List Int} {lo hi:Int}:If l lo hi=true↔Rise l∧(∀ x∈l,lo≤x∧x≤hi)∧0<l.length∧l.length≤16:=by
 have hg:∀ i (h:i<l.length),nth l (i:Int)=l[i]:=λ i h=>Ae (i:=(i:Int)) h
 rw[If,zB,zB,zG,zG,allB_iff]
 constructor
 ·rintro ⟨⟨h1,h2⟩,h⟩
  refine⟨As2 λ i hi=>?_,λ x hx=>?_,h1,h2⟩
  ·have:=h (i+1) hi
   simp only[Ug,zB,yD,zG,yA]at this
   rw[show (((i+1:Nat):Int)-1)=(i:Int) by omega,hg i q_]at this
   omega
  ·obtain ⟨i,hi,rfl⟩:=yR.1 hx
   have:=h i hi
   simp only[Ug,zB,zG]at this
   exact this.1
 ·rintro ⟨h,h1,h2⟩
  refine⟨h2,λ i hi=>?_⟩
  have hx:=h1 _ (zE hi)
  simp only[Ug,zB,yD,zG,yA]
  refine⟨hx,?_⟩
  by_cases h0:i=0
  ·exact .inl h0
  ·right
   rw[show ((i:Int)-1)=((i-1:Nat):Int) by omega,hg (i-1) q_]
   exact wA.1 h (i-1) i q_ hi q_
theorem listOK_iff {l:List Int} {hi:Int}:H3 l hi=true↔l=[]∨If l 1 hi=true:=by
 rw[H3,Uh,yD,zG,vU]
end Go.Sy.YtljngfegfclkpaaGreat
namespace Go.Sy.YtljngfegfclkpaaGreat
open Go.Proofs
set_option maxHeartbeats 4000000
theorem k1:Ut ⟨#[100,101,118,105,99,101]⟩=1:=by decide +kernel
theorem k2:Ut ⟨#[112,111,114,116]⟩=2:=by decide +kernel
theorem k3:Ut ⟨#[108,105,110,107]⟩=3:=by decide +kernel
theorem k4:Ut ⟨#[115,116,97,116,105,99]⟩=4:=by decide +kernel
theorem k5:Ut ⟨#[118,116,101,112]⟩=5:=by decide +kernel
theorem k6:Ut ⟨#[118,110,105]⟩=6:=by decide +kernel
theorem k7:Ut ⟨#[102,108,111,111,100]⟩=7:=by decide +kernel
theorem k8:Ut ⟨#[118,114,102]⟩=8:=by decide +kernel
theorem k9:Ut ⟨#[105,114,98]⟩=9:=by decide +kernel
theorem wd0 (a:ByteArray) (l:List ByteArray):wdT (a::l) 0=a:=rfl
theorem st1 (d n m:ByteArray) (r:Int):Afc [⟨#[100,101,118,105,99,101]⟩,d,n,m] r=({ lineZ with row:=r,kind:=1,dev:=d,num:=(Ahq n 0 65535).1,mac:=(Aaq m).1 },[(!(Dc d),20),(!(Ahq n 0 65535).2,21),(!((Aaq m).2 && statB (Aaq m).1),21)]):=by
 unfold Afc
 simp only[wd0,k1]
 rfl
theorem st3 (d p q f:ByteArray) (r:Int):Afc [⟨#[108,105,110,107]⟩,d,p,q,f] r=({ lineZ with row:=r,kind:=3,dev:=d,port:=p,peer:=q,far:=f },[(!(Dc d),20),(!(Dc p),20),(!(Dc q),20),(!(Dc f),20)]):=by
 unfold Afc
 simp only[wd0,k3]
 rfl
theorem st4 (d v m p:ByteArray) (r:Int):Afc [⟨#[115,116,97,116,105,99]⟩,d,v,m,p] r=({ lineZ with row:=r,kind:=4,dev:=d,vlan:=(Qo v).1,mac:=(Aaq m).1,port:=p },[(!(Dc d),20),(!(Qo v).2,21),(!((Aaq m).2 && statB (Aaq m).1),21),(!(Dc p),20)]):=by
 unfold Afc
 simp only[wd0,k4]
 rfl
theorem within_iff {n lo hi:Int}:Cd n lo hi=true↔lo≤n∧n≤hi:=by simp[Cd]
theorem Ze {a b:Int} (h:subnetB a b=true):1≤b∧b≤30:=by
 simp only[subnetB,zB,zG]at h
 omega
structure LineOK (l:LineM):Prop where
 mac:0≤l.mac∧l.mac<18446744073709551616
 addr:0≤l.addr∧l.addr<4294967296
 addrs:∀ x∈l.addrs,0≤x∧x<4294967296
end Go.Sy.YtljngfegfclkpaaGreat
namespace Go.Sy.YtljngfegfclkpaaGreat
open Go.Proofs
attribute [local irreducible] Go.Sy.G Go.Sy.DR
set_option maxRecDepth 100000
set_option maxHeartbeats 4000000
theorem Ajm (a:Nat) (b:Int) (ha:a<4294967296):Sp 310 [M5 a b] (Ac (subnetB a b)):=cT F310 Tryz.ntmps310 λ F hF=>by
 have q1:=Ad4 a b ha
 have q2:=Y9 a b ha
 have hs:=subnetB.eq_1 (a:Int) b
 generalize subnetB (a:Int) b=r at *
 generalize Hv (a:Int) b=fi at *
 generalize Ky (a:Int) b=la at *
 by_cases h1:1≤b
 ·by_cases h2:b≤30
  ·by_cases h3:(a:Int)=fi
   ·have f3:((a:Int) != fi)=false:=by rw[bne_eq_false_iff_eq];exact h3
    have hr:r=false:=by rw[hs];simp[h3]
    subst hr
    refine T ?_
    refine C q1 F174 ?_
    exact D
   ·have f3:((a:Int) != fi)=true:=by rw[yV];exact h3
    by_cases h4:(a:Int)=la
    ·have f4:((a:Int) != la)=false:=by rw[bne_eq_false_iff_eq];exact h4
     have hr:r=false:=by rw[hs];simp[h4]
     subst hr
     refine T ?_
     refine C q1 F174 ?_
     refine C q2 F175 ?_
     refine Ap E (.cons .tmp .nil) (zD Ac f4.symm) E
    ·have f4:((a:Int) != la)=true:=by rw[yV];exact h4
     have hr:r=true:=by rw[hs];simp[h1,h2,h3,h4]
     subst hr
     refine T ?_
     refine C q1 F174 ?_
     refine C q2 F175 ?_
     refine Ap E (.cons .tmp .nil) (zD Ac f4.symm) E
  ·have hr:r=false:=by rw[hs];simp[h2]
   subst hr
   refine T ?_
   exact D
 ·have hr:r=false:=by rw[hs];simp[h1]
  subst hr
  refine T ?_
  exact D
theorem Alf (l:List Int) (v:Int):l.contains v=inB l v:=by
 induction l with
 | nil=>rfl
 | cons x l ih =>
  rw[List.contains_cons,ih,inB,inB,List.any_cons]
  congr 1
  exact Bool.beq_comm
theorem Agz (l:LineM) (hl:Ak l.tagged):Sp 308 [A6 l] (Ac (membersB l.vlan l.tagged)):=cT F308 Tryz.ntmps308 λ F hF=>by
 have q:=Dp l.tagged l.vlan hl
 have hm2:=membersB.eq_1 l.vlan l.tagged
 rw[Alf]at hm2
 generalize membersB l.vlan l.tagged=r at *
 generalize inB l.tagged l.vlan=ib at *
 unfold Ak at hl
 by_cases h1:0<l.vlan
 ·have hr:r=!ib:=by rw[hm2];simp[h1]
  subst hr
  refine T ?_
  refine C q F21 ?_
  exact D
 ·by_cases h2:l.tagged.length=0
  ·have hr:r=false:=by
    rw[hm2,zJ h1,zQ h2];rfl
   subst hr
   refine T ?_
   exact D
  ·have hr:r=!ib:=by
    rw[hm2]
    have:l.tagged.isEmpty=false:=by cases ht:l.tagged<;>simp_all
    simp[this]
   have f2:decide ((l.tagged.length:Int)>0)=true:=zL q_
   subst hr
   refine T ?_
   refine C q F21 ?_
   exact D
end Go.Sy.YtljngfegfclkpaaGreat
namespace Go.Sy
theorem Qr {P:Program} (Γ:Ty P) {o:Oper} {s:SS} {t:TypeId} {ti:TI} {et:TypeId} {len esz sz g:Nat} {y:Operand} {ik:IntKind} {n:Int} {z:SV} (k:Nat)
  (h:o.op=.indexAddr t (.global g) y) (ht:Γ.get t=some ti) (hk:ti.k=.array et len esz) (hb:s.h k=.glob sz z g) (hy:ev s y=.val (.int ik n)) (h0:0≤n) (hn:n.toNat<len) :
  Good P o s ⟨.ref sz z (n.toNat * esz),[k],[]⟩ :=
 Good.pure λ κ a w _ hr ho=>by
  have h1:=ho k y_
  have h2:=hr y (by simp[h,Op.operands])
  rw[hb]at h1
  rw[hy]at h2
  simp only[ObOK,Rd,RdD]at h1
  obtain ⟨b,oo,u,e1,e2,e3,e4,e5⟩:=h1
  obtain ⟨hu,i,q1,q2⟩:=Tf Γ ht hk
  simp only[tS,Value.pointer.injEq,Option.some.injEq,Addr.mk.injEq,and_true]at e1
  obtain ⟨rfl,rfl⟩:=e1
  refine⟨.pointer (some ⟨g,0+n.toNat * esz,none⟩),?_,?_⟩
  ·have hg:a.eval (.global g)=.pointer (some ⟨g,0,none⟩):=rfl
   simp only[execOp,h,hg,h2.val]
   simp[Oq w hu q1 q2 h0 hn]
  ·simp only[Rd,RdD]
   exact⟨g,0,u,E,e2,e3,e4,e5⟩
theorem Ob.shp_glob {x:Ob} {sz g:Nat} {z:SV} (h:x.shp=(Ob.glob sz z g).shp):x=.glob sz z g:=by
 cases x<;>simp_all[Ob.shp]
theorem GoodX.glob {P:Program} (Γ:Ty P) {o:Oper} {s:SS} {t:TypeId} {ti:TI} {et:TypeId} {len esz sz g:Nat} {y:Operand} {ik:IntKind} {n:Int} {z:SV} (k:Nat)
  (h:o.op=.indexAddr t (.global g) y) (ht:Γ.get t=some ti) (hk:ti.k=.array et len esz) (hb:s.h k=.glob sz z g) (hy:ev s y=.val (.int ik n)) (h0:0≤n) (hn:n.toNat<len) :
  GoodX P o s ⟨.ref sz z (n.toNat * esz),[k],[]⟩ where
 good:=(Qr Γ k h ht hk hb hy h0 hn).two
 idx _:=⟨rfl,λ s' h1 h2=>Qr Γ k h ht hk (Ob.shp_glob ((h2 k y_).trans (zD Ob.shp hb))) ((h1 y (by simp[h,Op.operands])).trans hy) h0 hn⟩
 st hs:=by simp[Ms,h]at hs
section
open Go.ChangeShapes Go.WideShapes Go.ChangeAt Go.RowKit
variable {H:Type} {enc:TypeId × Value→H} {P:Program}
end
end Go.Sy
namespace Go.Sy
theorem Cm {P:Program} (Γ:Ty P) {o:Oper} {s:SS} {t:TypeId} {ti:TI} {et:TypeId} {len:Nat} {x y:Operand} {ik:IntKind} {n:Int} {l:List SV} {z:SV} {k:EK} (h:o.op=.index t x y) (ht:Γ.get t=some ti) (hk:ti.k=.array et len 1)
  (he:P.underlying et=some (EK.desc k)) (hx:ev s x=.agg l) (hy:ev s y=.val (.int ik n)) (h0:0≤n) (hn:n.toNat<len) (hz:Hg l n.toNat=some z):Good P o s ⟨z,[],[]⟩ :=
 Good.pure λ κ a w _ hr _=>by
  have h1:=hr x (by simp[h,Op.operands])
  have h2:=hr y (by simp[h,Op.operands])
  rw[hx]at h1
  rw[hy]at h2
  simp only[Rd]at h1
  obtain ⟨cs,e1,_,e2⟩:=h1
  obtain ⟨v,e3,e4⟩:=e2.getT hz
  obtain ⟨hu,i,q1,q2⟩:=Tf Γ ht hk
  have hp:=Abm (P:=P) w he cs.toArray e3
  have hlt:n<len:=by omega
  refine⟨v,?_,e4⟩
  simp[execOp,h,e1,h2.val,Instr.index,run_underlying hu,asIntOf,h0,hlt,sizeOf,typeInfo,q1,q2,hp]
theorem Am {C:Cx} {k:List KI} {s:SS} (d:Nat) (l':List SV) {l:List SV} (h:s.h d=.box l) (hv:VwL s [] l l') (hg:G C k ⟨s.σ,upd s.h d (.box l')⟩):G C k s:=λ κ a w hs =>
 hg κ a w ⟨hs.defers,hs.size,hs.inv,hs.ctx,hs.slot,λ i=>by
  show ObOK κ w i (upd s.h d (.box l') i)
  by_cases hi:i=d
  ·subst hi
   rw[Bn]
   have:=hs.obj i
   rw[h]at this
   obtain ⟨b,cs,T,fr,e1,e2,e3,e4,e5⟩:=this
   exact⟨b,cs,T,fr,e1,e2,e3,e4,VwL.rd hs.inv (λ _ hn=>by cases hn) hv e5⟩
  ·rw[Cf _ _ hi];exact hs.obj i⟩
end Go.Sy
namespace Go.Sy.YtljngfegfclkpaaGreat
open Go.Proofs
attribute [local irreducible] Go.Sy.G Go.Sy.DR
set_option maxRecDepth 100000
set_option maxHeartbeats 4000000
theorem Kn (l m:List Int) (hl:l.length≤1000000) (hm1:m.length≤1000000):Sp 311 [.sl 1 Aa l,.sl 1 Aa m] (Ac (l == m)):=cT F311 Tryz.ntmps311 λ F hF=>by
 by_cases hlen:l.length=m.length
 rotate_left
 ·have hr:(l == m)=false:=by
   rw[zO];intro e;exact hlen (by rw[e])
  have f0:((l.length:Int) != (m.length:Int))=true:=by rw[yV];omega
  rw[hr]
  refine T ?_
  exact D
 have f0:((l.length:Int) != (m.length:Int))=false:=by rw[bne_eq_false_iff_eq];omega
 refine T ?_
 refine Bi l.length (λ j=>l.take j=m.take j) (λ j=>[(0,.sl 1 Aa l),(1,.sl 1 Aa m),(12,Aa l.length),(13,Aa j)]) (λ _=>[]) [] E U ?_
 intro j hj hI
 refine T ?_
 constructor<;>intro h
 ·have hlt:j<l.length:=qA h
  have hlm:j<m.length:=by omega
  have hlt0:((j:Nat):Int).toNat<l.length:=hlt
  have hlm0:((j:Nat):Int).toNat<m.length:=hlm
  clear h
  by_cases he:l[j]=m[j]
  ·have f1:(l[((j:Nat):Int).toNat]'hlt0 != m[((j:Nat):Int).toNat]'hlm0)=false:=by rw[bne_eq_false_iff_eq];exact he
   refine T ?_
   refine Be [] hI q_ ?_ U
   rw[zY hlt,zY hlm,hI,he]
  ·have f1:(l[((j:Nat):Int).toNat]'hlt0 != m[((j:Nat):Int).toNat]'hlm0)=true:=by rw[yV];exact he
   have hr:(l == m)=false:=by
    rw[zO];intro e;subst e;exact he rfl
   rw[hr]
   refine T ?_
   exact D
 ·have hje:j=l.length:=qB h
  subst hje
  have hr:(l == m)=true:=by
   rw[yA]
   rw[yG,hlen,yG]at hI
   exact hI
  rw[hr]
  clear h
  refine T ?_
  exact D
theorem Aap (l m:List Int) (hl:l.length≤1000000) (hm1:m.length≤1000000):Sp 312 [.sl 1 A8 l,.sl 1 A8 m] (Ac (l == m)):=cT F312 Tryz.ntmps312 λ F hF=>by
 by_cases hlen:l.length=m.length
 rotate_left
 ·have hr:(l == m)=false:=by
   rw[zO];intro e;exact hlen (by rw[e])
  have f0:((l.length:Int) != (m.length:Int))=true:=by rw[yV];omega
  rw[hr]
  refine T ?_
  exact D
 have f0:((l.length:Int) != (m.length:Int))=false:=by rw[bne_eq_false_iff_eq];omega
 refine T ?_
 refine Bi l.length (λ j=>l.take j=m.take j) (λ j=>[(0,.sl 1 A8 l),(1,.sl 1 A8 m),(12,Aa l.length),(13,Aa j)]) (λ _=>[]) [] E U ?_
 intro j hj hI
 refine T ?_
 constructor<;>intro h
 ·have hlt:j<l.length:=qA h
  have hlm:j<m.length:=by omega
  have hlt0:((j:Nat):Int).toNat<l.length:=hlt
  have hlm0:((j:Nat):Int).toNat<m.length:=hlm
  clear h
  by_cases he:l[j]=m[j]
  ·have f1:(l[((j:Nat):Int).toNat]'hlt0 != m[((j:Nat):Int).toNat]'hlm0)=false:=by rw[bne_eq_false_iff_eq];exact he
   refine T ?_
   refine Be [] hI q_ ?_ U
   rw[zY hlt,zY hlm,hI,he]
  ·have f1:(l[((j:Nat):Int).toNat]'hlt0 != m[((j:Nat):Int).toNat]'hlm0)=true:=by rw[yV];exact he
   have hr:(l == m)=false:=by
    rw[zO];intro e;subst e;exact he rfl
   rw[hr]
   refine T ?_
   exact D
 ·have hje:j=l.length:=qB h
  subst hje
  have hr:(l == m)=true:=by
   rw[yA]
   rw[yG,hlen,yG]at hI
   exact hI
  rw[hr]
  clear h
  refine T ?_
  exact D
theorem Ash (a b:LineM) (ha:LineFin a) (hb:LineFin b):Sp 259 [A6 a,A6 b] (Ac (M0 a b)):=cT F259 Tryz.ntmps259 λ F hF=>by
 have ht:=ha.t;have hi:=ha.i;have he:=ha.e;have haa:=ha.a
 have ht2:=hb.t;have hi2:=hb.i;have he2:=hb.e;have haa2:=hb.a
 have q0:=Kn a.tagged b.tagged q_ q_
 have q1:=Kn a.imports b.imports q_ q_
 have q2:=Kn a.exports b.exports q_ q_
 have q3:=Aap a.addrs b.addrs q_ q_
 rw[M0]
 cases h_row:(a.row == b.row)
 ·rw[zT]
  refine T ?_
  exact D
 rw[zS]
 cases h_kind:(a.kind == b.kind)
 ·rw[zT]
  refine T ?_
  exact D
 rw[zS]
 cases h_dev:(a.dev == b.dev)
 ·rw[zT]
  refine T ?_
  exact D
 rw[zS]
 cases h_port:(a.port == b.port)
 ·rw[zT]
  refine T ?_
  exact D
 rw[zS]
 cases h_peer:(a.peer == b.peer)
 ·rw[zT]
  refine T ?_
  exact D
 rw[zS]
 cases h_far:(a.far == b.far)
 ·rw[zT]
  refine T ?_
  exact D
 rw[zS]
 cases h_name:(a.name == b.name)
 ·rw[zT]
  refine T ?_
  exact D
 rw[zS]
 cases h_mac:(a.mac == b.mac)
 ·rw[zT]
  refine T ?_
  exact D
 rw[zS]
 cases h_addr:(a.addr == b.addr)
 ·rw[zT]
  refine T ?_
  exact D
 rw[zS]
 cases h_bits:(a.bits == b.bits)
 ·rw[zT]
  refine T ?_
  exact D
 rw[zS]
 cases h_vlan:(a.vlan == b.vlan)
 ·rw[zT]
  refine T ?_
  exact D
 rw[zS]
 cases h_num:(a.num == b.num)
 ·rw[zT]
  refine T ?_
  exact D
 rw[zS]
 cases h_cost:(a.cost == b.cost)
 ·rw[zT]
  refine T ?_
  exact D
 rw[zS]
 cases h_tagged:(a.tagged == b.tagged)
 ·rw[h_tagged]at q0
  rw[zT]
  refine T ?_
  refine C q0 F311 ?_
  exact D
 rw[h_tagged]at q0
 rw[zS]
 cases h_imports:(a.imports == b.imports)
 ·rw[h_imports]at q1
  rw[zT]
  refine T ?_
  refine C q0 F311 ?_
  refine C q1 F311 ?_
  exact D
 rw[h_imports]at q1
 rw[zS]
 cases h_exports:(a.exports == b.exports)
 ·rw[h_exports]at q2
  rw[zT]
  refine T ?_
  refine C q0 F311 ?_
  refine C q1 F311 ?_
  refine C q2 F311 ?_
  exact D
 rw[h_exports]at q2
 rw[zS]
 cases h_addrs:(a.addrs == b.addrs)
 ·rw[h_addrs]at q3
  skip
  refine T ?_
  refine C q0 F311 ?_
  refine C q1 F311 ?_
  refine C q2 F311 ?_
  refine C q3 F312 ?_
  exact D
 rw[h_addrs]at q3
 refine T ?_
 refine C q0 F311 ?_
 refine C q1 F311 ?_
 refine C q2 F311 ?_
 refine C q3 F312 ?_
 exact D
theorem Es (n lo hi:Int):Sp 305 [Aa n,Aa lo,Aa hi] (Ac (Cd n lo hi)):=cT F305 Tryz.ntmps305 λ F hF=>by
 rw[Cd]
 by_cases h1:lo≤n
 ·have f1:decide (n≥lo)=true:=zL h1
  rw[zL h1,zS]
  refine T ?_
  exact D
 ·have f1:decide (n≥lo)=false:=zJ h1
  rw[zJ h1,zT]
  refine T ?_
  exact D
theorem Yk (l:List Int) (most:Int) (hl:l.length≤100000):Sp 307 [.sl 1 Aa l,Aa most] (Ac (H3 l most)):=cT F307 Tryz.ntmps307 λ F hF=>by
 have q:=Aca l 1 most (by simp only[Ak];omega)
 rw[H3,Uh]
 by_cases h0:l.length=0
 ·rw[zL h0,uS]
  have f0:((l.length:Int) == 0)=true:=by rw[h0];rfl
  refine T ?_
  exact D
 ·rw[zJ h0,vF]
  have f0:((l.length:Int) == 0)=false:=by rw[zO];omega
  refine T ?_
  refine C q F110 ?_
  exact D
def Ti (l:List Int) (i:Nat) (x:Int):Bool:=decide (x≠0) && (i == 0 || decide (l.getD (i-1) 0<x))
theorem Aqc (l:List Int):Mj l=(Ha (Ti l) l && (decide (0<l.length) && decide (l.length≤16))):=by
 have e:(List.range l.length).all (λ i=>decide (l.getD i 0≠0) && (i == 0 || decide (l.getD (i-1) 0<l.getD i 0)))=Ha (Ti l) l:=by
  rw[xO,xD,allB_iff]
  constructor
  ·intro h i hi
   have:=h i (xC.2 hi)
   rw[show l.getD i 0=l[i] by rw[xX,zH hi];rfl]at this
   exact this
  ·intro h i hi
   have hi:=xC.1 hi
   rw[show l.getD i 0=l[i] by rw[xX,zH hi];rfl]
   exact h i hi
 rw[Mj,e]
theorem Anh (l:List Int) (hl:l.length≤100000):Sp 309 [.sl 1 A8 l] (Ac (Mj l)):=cT F309 Tryz.ntmps309 λ F hF=>by
 have hres:=Aqc l
 generalize Mj l=r at *
 refine T ?_
 refine Bi l.length (λ j=>Ir (Ti l) l j) (λ j=>[(0,.sl 1 A8 l),(5,.sl 1 A8 l),(6,Aa l.length),(7,Aa j)]) (λ _=>[]) [] (Bp _ _) U ?_
 intro j hj hI
 refine T ?_
 constructor<;>intro h
 ·have hlt:j<l.length:=qA h
  have hlt0:((j:Nat):Int).toNat<l.length:=hlt
  have hno:=λ h=>Cz (p:=Ti l) hlt h
  have hnx:=λ h=>Bj (p:=Ti l) hI hlt h
  clear h
  by_cases h1:l[j]=0
  ·have f1:(l[((j:Nat):Int).toNat]'hlt0 == 0)=true:=yA.2 h1
   rw[hno (by simp[Ti,h1]),zT]at hres
   subst hres
   refine T ?_
   exact D
  ·have f1:(l[((j:Nat):Int).toNat]'hlt0 == 0)=false:=zO.2 h1
   by_cases h2:j=0
   ·subst h2
    refine T ?_
    exact Be [] hI q_ (hnx (by simp[Ti,h1])) U
   ·have f2:decide ((j:Int)>0)=true:=zL q_
    have hk:((j:Int)-1).toNat<l.length:=by omega
    have hg:l.getD (j-1) 0=l[((j:Int)-1).toNat]'hk:=by
     rw[xX,zH (by omega:j-1<l.length)]
     have:((j:Int)-1).toNat=j-1:=by omega
     simp only[this]
     rfl
    have hx:Ti l j l[j]=(decide (l[j]≠0) && (j == 0 || decide (l.getD (j-1) 0<l[j]))):=rfl
    rw[hg]at hx
    by_cases h3:l[((j:Int)-1).toNat]'hk<l[j]
    ·have f3:decide (l[((j:Int)-1).toNat]'hk≥l[((j:Nat):Int).toNat]'hlt0)=false:=zJ (by show ¬ _≥l[j];omega)
     refine T ?_
     exact Be [] hI q_ (hnx (by rw[hx,zL h1,zL h3,Bool.or_true];rfl)) U
    ·have f3:decide (l[((j:Int)-1).toNat]'hk≥l[((j:Nat):Int).toNat]'hlt0)=true:=zL (by show _≥l[j];omega)
     rw[hno (by rw[hx,zJ h3,zO.2 h2];simp),zT]at hres
     subst hres
     refine T ?_
     exact D
 ·have hje:j=l.length:=qB h
  subst hje
  rw[Eo hI (zZ _),zS]at hres
  subst hres
  clear h
  by_cases h0:0<l.length
  ·rw[zL h0,zS]
   have f0:decide ((l.length:Int)>0)=true:=zL q_
   refine T ?_
   refine Ap E (.cons .tmp .nil) (zD Ac ?_) E
   exact decide_eq_decide.2 q_
  ·rw[zJ h0,zT]
   have f0:decide ((l.length:Int)>0)=false:=zJ q_
   refine T ?_
   exact D
structure LineW (l:LineM):Prop where
 fin:LineFin l
 ok:LineOK l
 dev:l.dev.size≤100000
 port:l.port.size≤100000
 peer:l.peer.size≤100000
 far:l.far.size≤100000
 name:l.name.size≤100000
theorem Anf (l:LineM) (hw:LineW l) (hk:l.kind=1):Sp 257 [A6 l] (.tup [A6 (Bh l).1,Ac (Bh l).2]):=cT F257 Tryz.ntmps257 λ F hF=>by
 have hU:Bh l=({ lineZ with row:=l.row,kind:=1,dev:=l.dev,num:=l.num,mac:=l.mac },(Cd l.num 0 65535 && statB l.mac)):=by
  simp only[Bh,hk]
  rfl
 rw[hU]
 have q0:=Es l.num 0 65535
 have q1:Sp 306 [Bb l.mac] (Ac (statB l.mac)):=by
  have:=hw.ok.mac
  obtain ⟨m,hm1⟩:∃ m:Nat,l.mac=m:=⟨l.mac.toNat,by omega⟩
  rw[hm1];exact Ajn m q_
 obtain ⟨row,kind,dev,port,peer,far,name,mac,addr,bits,vlan,num,cost,tagged,imports,exports,addrs⟩:=l
 dsimp only at hk q0 q1 ⊢
 subst hk
 clear hU hw
 generalize Cd num 0 65535=b0 at *
 generalize statB mac=b1 at *
 cases b0
 ·rw[zT]
  refine T ?_
  refine C q0 F305 ?_
  refine Am 2 (E6 { lineZ with row:=row,kind:=1,dev:=dev,num:=num,mac:=mac }) rfl vL ?_
  refine T ?_
  exact D
 rw[zS]
 refine T ?_
 refine C q0 F305 ?_
 refine C q1 F306 ?_
 refine Am 2 (E6 { lineZ with row:=row,kind:=1,dev:=dev,num:=num,mac:=mac }) rfl vL ?_
 refine T ?_
 exact D
theorem Ane (l:LineM) (hw:LineW l) (hk:l.kind=2):Sp 257 [A6 l] (.tup [A6 (Bh l).1,Ac (Bh l).2]):=cT F257 Tryz.ntmps257 λ F hF=>by
 have hU:Bh l=({ lineZ with row:=l.row,kind:=2,dev:=l.dev,port:=l.port,cost:=l.cost,vlan:=l.vlan,tagged:=l.tagged },(Dc l.port && (Cd l.cost 1 65535 && (Cd l.vlan 0 4094 && (H3 l.tagged 4094 && membersB l.vlan l.tagged))))):=by
  simp only[Bh,hk]
  rfl
 rw[hU]
 have q0:=Kd l.port (by have:=hw.port;omega)
 have q1:=Es l.cost 1 65535
 have q2:=Es l.vlan 0 4094
 have q3:=Yk l.tagged 4094 hw.fin.t
 have q4:=Agz l (by have:=hw.fin.t;simp only[Ak];omega)
 obtain ⟨row,kind,dev,port,peer,far,name,mac,addr,bits,vlan,num,cost,tagged,imports,exports,addrs⟩:=l
 dsimp only at hk q0 q1 q2 q3 q4 ⊢
 subst hk
 clear hU hw
 generalize Dc port=b0 at *
 generalize Cd cost 1 65535=b1 at *
 generalize Cd vlan 0 4094=b2 at *
 generalize H3 tagged 4094=b3 at *
 generalize membersB vlan tagged=b4 at *
 cases b0
 ·rw[zT]
  refine T ?_
  refine C q0 F258 ?_
  refine Am 2 (E6 { lineZ with row:=row,kind:=2,dev:=dev,port:=port,cost:=cost,vlan:=vlan,tagged:=tagged }) rfl vL ?_
  refine T ?_
  exact D
 rw[zS]
 cases b1
 ·rw[zT]
  refine T ?_
  refine C q0 F258 ?_
  refine C q1 F305 ?_
  refine Am 2 (E6 { lineZ with row:=row,kind:=2,dev:=dev,port:=port,cost:=cost,vlan:=vlan,tagged:=tagged }) rfl vL ?_
  refine T ?_
  exact D
 rw[zS]
 cases b2
 ·rw[zT]
  refine T ?_
  refine C q0 F258 ?_
  refine C q1 F305 ?_
  refine C q2 F305 ?_
  refine Am 2 (E6 { lineZ with row:=row,kind:=2,dev:=dev,port:=port,cost:=cost,vlan:=vlan,tagged:=tagged }) rfl vL ?_
  refine T ?_
  exact D
 rw[zS]
 cases b3
 ·rw[zT]
  refine T ?_
  refine C q0 F258 ?_
  refine C q1 F305 ?_
  refine C q2 F305 ?_
  refine C q3 F307 ?_
  refine Am 2 (E6 { lineZ with row:=row,kind:=2,dev:=dev,port:=port,cost:=cost,vlan:=vlan,tagged:=tagged }) rfl vL ?_
  refine T ?_
  exact D
 rw[zS]
 refine T ?_
 refine C q0 F258 ?_
 refine C q1 F305 ?_
 refine C q2 F305 ?_
 refine C q3 F307 ?_
 refine C q4 F308 ?_
 refine Am 2 (E6 { lineZ with row:=row,kind:=2,dev:=dev,port:=port,cost:=cost,vlan:=vlan,tagged:=tagged }) rfl vL ?_
 refine T ?_
 exact D
theorem Anc (l:LineM) (hw:LineW l) (hk:l.kind=3):Sp 257 [A6 l] (.tup [A6 (Bh l).1,Ac (Bh l).2]):=cT F257 Tryz.ntmps257 λ F hF=>by
 have hU:Bh l=({ lineZ with row:=l.row,kind:=3,dev:=l.dev,port:=l.port,peer:=l.peer,far:=l.far },(Dc l.port && (Dc l.peer && Dc l.far))):=by
  simp only[Bh,hk]
  rfl
 rw[hU]
 have q0:=Kd l.port (by have:=hw.port;omega)
 have q1:=Kd l.peer (by have:=hw.peer;omega)
 have q2:=Kd l.far (by have:=hw.far;omega)
 obtain ⟨row,kind,dev,port,peer,far,name,mac,addr,bits,vlan,num,cost,tagged,imports,exports,addrs⟩:=l
 dsimp only at hk q0 q1 q2 ⊢
 subst hk
 clear hU hw
 generalize Dc port=b0 at *
 generalize Dc peer=b1 at *
 generalize Dc far=b2 at *
 cases b0
 ·rw[zT]
  refine T ?_
  refine C q0 F258 ?_
  refine Am 2 (E6 { lineZ with row:=row,kind:=3,dev:=dev,port:=port,peer:=peer,far:=far }) rfl vL ?_
  refine T ?_
  exact D
 rw[zS]
 cases b1
 ·rw[zT]
  refine T ?_
  refine C q0 F258 ?_
  refine C q1 F258 ?_
  refine Am 2 (E6 { lineZ with row:=row,kind:=3,dev:=dev,port:=port,peer:=peer,far:=far }) rfl vL ?_
  refine T ?_
  exact D
 rw[zS]
 refine T ?_
 refine C q0 F258 ?_
 refine C q1 F258 ?_
 refine C q2 F258 ?_
 refine Am 2 (E6 { lineZ with row:=row,kind:=3,dev:=dev,port:=port,peer:=peer,far:=far }) rfl vL ?_
 refine T ?_
 exact D
theorem Anb (l:LineM) (hw:LineW l) (hk:l.kind=4):Sp 257 [A6 l] (.tup [A6 (Bh l).1,Ac (Bh l).2]):=cT F257 Tryz.ntmps257 λ F hF=>by
 have hU:Bh l=({ lineZ with row:=l.row,kind:=4,dev:=l.dev,vlan:=l.vlan,mac:=l.mac,port:=l.port },(Cd l.vlan 1 4094 && (statB l.mac && Dc l.port))):=by
  simp only[Bh,hk]
  rfl
 rw[hU]
 have q0:=Es l.vlan 1 4094
 have q1:Sp 306 [Bb l.mac] (Ac (statB l.mac)):=by
  have:=hw.ok.mac
  obtain ⟨m,hm1⟩:∃ m:Nat,l.mac=m:=⟨l.mac.toNat,by omega⟩
  rw[hm1];exact Ajn m q_
 have q2:=Kd l.port (by have:=hw.port;omega)
 obtain ⟨row,kind,dev,port,peer,far,name,mac,addr,bits,vlan,num,cost,tagged,imports,exports,addrs⟩:=l
 dsimp only at hk q0 q1 q2 ⊢
 subst hk
 clear hU hw
 generalize Cd vlan 1 4094=b0 at *
 generalize statB mac=b1 at *
 generalize Dc port=b2 at *
 cases b0
 ·rw[zT]
  refine T ?_
  refine C q0 F305 ?_
  refine Am 2 (E6 { lineZ with row:=row,kind:=4,dev:=dev,vlan:=vlan,mac:=mac,port:=port }) rfl vL ?_
  refine T ?_
  exact D
 rw[zS]
 cases b1
 ·rw[zT]
  refine T ?_
  refine C q0 F305 ?_
  refine C q1 F306 ?_
  refine Am 2 (E6 { lineZ with row:=row,kind:=4,dev:=dev,vlan:=vlan,mac:=mac,port:=port }) rfl vL ?_
  refine T ?_
  exact D
 rw[zS]
 refine T ?_
 refine C q0 F305 ?_
 refine C q1 F306 ?_
 refine C q2 F258 ?_
 refine Am 2 (E6 { lineZ with row:=row,kind:=4,dev:=dev,vlan:=vlan,mac:=mac,port:=port }) rfl vL ?_
 refine T ?_
 exact D
theorem Am9 (l:LineM) (hw:LineW l) (hk:l.kind=6):Sp 257 [A6 l] (.tup [A6 (Bh l).1,Ac (Bh l).2]):=cT F257 Tryz.ntmps257 λ F hF=>by
 have hU:Bh l=({ lineZ with row:=l.row,kind:=6,dev:=l.dev,vlan:=l.vlan,num:=l.num },(Cd l.vlan 1 4094 && Cd l.num 1 16777215)):=by
  simp only[Bh,hk]
  rfl
 rw[hU]
 have q0:=Es l.vlan 1 4094
 have q1:=Es l.num 1 16777215
 obtain ⟨row,kind,dev,port,peer,far,name,mac,addr,bits,vlan,num,cost,tagged,imports,exports,addrs⟩:=l
 dsimp only at hk q0 q1 ⊢
 subst hk
 clear hU hw
 generalize Cd vlan 1 4094=b0 at *
 generalize Cd num 1 16777215=b1 at *
 cases b0
 ·rw[zT]
  refine T ?_
  refine C q0 F305 ?_
  refine Am 2 (E6 { lineZ with row:=row,kind:=6,dev:=dev,vlan:=vlan,num:=num }) rfl vL ?_
  refine T ?_
  exact D
 rw[zS]
 refine T ?_
 refine C q0 F305 ?_
 refine C q1 F305 ?_
 refine Am 2 (E6 { lineZ with row:=row,kind:=6,dev:=dev,vlan:=vlan,num:=num }) rfl vL ?_
 refine T ?_
 exact D
theorem Am8 (l:LineM) (hw:LineW l) (hk:l.kind=7):Sp 257 [A6 l] (.tup [A6 (Bh l).1,Ac (Bh l).2]):=cT F257 Tryz.ntmps257 λ F hF=>by
 have hU:Bh l=({ lineZ with row:=l.row,kind:=7,dev:=l.dev,num:=l.num,addrs:=l.addrs },(Cd l.num 1 16777215 && Mj l.addrs)):=by
  simp only[Bh,hk]
  rfl
 rw[hU]
 have q0:=Es l.num 1 16777215
 have q1:=Anh l.addrs hw.fin.a
 obtain ⟨row,kind,dev,port,peer,far,name,mac,addr,bits,vlan,num,cost,tagged,imports,exports,addrs⟩:=l
 dsimp only at hk q0 q1 ⊢
 subst hk
 clear hU hw
 generalize Cd num 1 16777215=b0 at *
 generalize Mj addrs=b1 at *
 cases b0
 ·rw[zT]
  refine T ?_
  refine C q0 F305 ?_
  refine Am 2 (E6 { lineZ with row:=row,kind:=7,dev:=dev,num:=num,addrs:=addrs }) rfl vL ?_
  refine T ?_
  exact D
 rw[zS]
 refine T ?_
 refine C q0 F305 ?_
 refine C q1 F309 ?_
 refine Am 2 (E6 { lineZ with row:=row,kind:=7,dev:=dev,num:=num,addrs:=addrs }) rfl vL ?_
 refine T ?_
 exact D
theorem Am7 (l:LineM) (hw:LineW l) (hk:l.kind=8):Sp 257 [A6 l] (.tup [A6 (Bh l).1,Ac (Bh l).2]):=cT F257 Tryz.ntmps257 λ F hF=>by
 have hU:Bh l=({ lineZ with row:=l.row,kind:=8,dev:=l.dev,name:=l.name,imports:=l.imports,exports:=l.exports },(Dc l.name && (H3 l.imports 65535 && H3 l.exports 65535))):=by
  simp only[Bh,hk]
  rfl
 rw[hU]
 have q0:=Kd l.name (by have:=hw.name;omega)
 have q1:=Yk l.imports 65535 hw.fin.i
 have q2:=Yk l.exports 65535 hw.fin.e
 obtain ⟨row,kind,dev,port,peer,far,name,mac,addr,bits,vlan,num,cost,tagged,imports,exports,addrs⟩:=l
 dsimp only at hk q0 q1 q2 ⊢
 subst hk
 clear hU hw
 generalize Dc name=b0 at *
 generalize H3 imports 65535=b1 at *
 generalize H3 exports 65535=b2 at *
 cases b0
 ·rw[zT]
  refine T ?_
  refine C q0 F258 ?_
  refine Am 2 (E6 { lineZ with row:=row,kind:=8,dev:=dev,name:=name,imports:=imports,exports:=exports }) rfl vL ?_
  refine T ?_
  exact D
 rw[zS]
 cases b1
 ·rw[zT]
  refine T ?_
  refine C q0 F258 ?_
  refine C q1 F307 ?_
  refine Am 2 (E6 { lineZ with row:=row,kind:=8,dev:=dev,name:=name,imports:=imports,exports:=exports }) rfl vL ?_
  refine T ?_
  exact D
 rw[zS]
 refine T ?_
 refine C q0 F258 ?_
 refine C q1 F307 ?_
 refine C q2 F307 ?_
 refine Am 2 (E6 { lineZ with row:=row,kind:=8,dev:=dev,name:=name,imports:=imports,exports:=exports }) rfl vL ?_
 refine T ?_
 exact D
theorem Am6 (l:LineM) (hw:LineW l) (hk:l.kind=9):Sp 257 [A6 l] (.tup [A6 (Bh l).1,Ac (Bh l).2]):=cT F257 Tryz.ntmps257 λ F hF=>by
 have hU:Bh l=({ lineZ with row:=l.row,kind:=9,dev:=l.dev,vlan:=l.vlan,name:=l.name,addr:=l.addr,bits:=l.bits },(Cd l.vlan 1 4094 && (Dc l.name && subnetB l.addr l.bits))):=by
  simp only[Bh,hk]
  rfl
 rw[hU]
 have q0:=Es l.vlan 1 4094
 have q1:=Kd l.name (by have:=hw.name;omega)
 have q2:Sp 310 [M5 l.addr l.bits] (Ac (subnetB l.addr l.bits)):=by
  have:=hw.ok.addr
  obtain ⟨m,hm1⟩:∃ m:Nat,l.addr=m:=⟨l.addr.toNat,by omega⟩
  rw[hm1];exact Ajm m l.bits q_
 obtain ⟨row,kind,dev,port,peer,far,name,mac,addr,bits,vlan,num,cost,tagged,imports,exports,addrs⟩:=l
 dsimp only at hk q0 q1 q2 ⊢
 subst hk
 clear hU hw
 generalize Cd vlan 1 4094=b0 at *
 generalize Dc name=b1 at *
 generalize subnetB addr bits=b2 at *
 cases b0
 ·rw[zT]
  refine T ?_
  refine C q0 F305 ?_
  refine Am 2 (E6 { lineZ with row:=row,kind:=9,dev:=dev,vlan:=vlan,name:=name,addr:=addr,bits:=bits }) rfl vL ?_
  refine T ?_
  exact D
 rw[zS]
 cases b1
 ·rw[zT]
  refine T ?_
  refine C q0 F305 ?_
  refine C q1 F258 ?_
  refine Am 2 (E6 { lineZ with row:=row,kind:=9,dev:=dev,vlan:=vlan,name:=name,addr:=addr,bits:=bits }) rfl vL ?_
  refine T ?_
  exact D
 rw[zS]
 refine T ?_
 refine C q0 F305 ?_
 refine C q1 F258 ?_
 refine C q2 F310 ?_
 refine Am 2 (E6 { lineZ with row:=row,kind:=9,dev:=dev,vlan:=vlan,name:=name,addr:=addr,bits:=bits }) rfl vL ?_
 refine T ?_
 exact D
theorem Ana (l:LineM) (hw:LineW l) (hk:l.kind=5):Sp 257 [A6 l] (.tup [A6 (Bh l).1,Ac (Bh l).2]):=cT F257 Tryz.ntmps257 λ F hF=>by
 have hU:Bh l=({ lineZ with row:=l.row,kind:=5,dev:=l.dev,addr:=l.addr },decide (l.addr≠0)):=by
  simp only[Bh,hk]
  rfl
 rw[hU]
 obtain ⟨row,kind,dev,port,peer,far,name,mac,addr,bits,vlan,num,cost,tagged,imports,exports,addrs⟩:=l
 dsimp only at hk ⊢
 subst hk
 clear hU hw
 have hb:decide (addr≠0)=(addr != 0):=by
  by_cases h:addr=0
  ·rw[h];rfl
  ·rw[zL h,yV.2 h]
 rw[hb]
 refine T ?_
 refine Am 2 (E6 { lineZ with row:=row,kind:=5,dev:=dev,addr:=addr }) rfl vL ?_
 refine T ?_
 exact D
theorem Ang (l:LineM) (hk:¬ (1≤l.kind∧l.kind≤9)):Sp 257 [A6 l] (.tup [A6 (Bh l).1,Ac (Bh l).2]):=cT F257 Tryz.ntmps257 λ F hF=>by
 have n1:¬ l.kind=1:=by omega
 have f1:(l.kind == 1)=false:=zO.2 n1
 have n2:¬ l.kind=2:=by omega
 have f2:(l.kind == 2)=false:=zO.2 n2
 have n3:¬ l.kind=3:=by omega
 have f3:(l.kind == 3)=false:=zO.2 n3
 have n4:¬ l.kind=4:=by omega
 have f4:(l.kind == 4)=false:=zO.2 n4
 have n5:¬ l.kind=5:=by omega
 have f5:(l.kind == 5)=false:=zO.2 n5
 have n6:¬ l.kind=6:=by omega
 have f6:(l.kind == 6)=false:=zO.2 n6
 have n7:¬ l.kind=7:=by omega
 have f7:(l.kind == 7)=false:=zO.2 n7
 have n8:¬ l.kind=8:=by omega
 have f8:(l.kind == 8)=false:=zO.2 n8
 have n9:¬ l.kind=9:=by omega
 have f9:(l.kind == 9)=false:=zO.2 n9
 have hU:Bh l=({ lineZ with row:=l.row,kind:=l.kind,dev:=l.dev },false):=by
  simp only[Bh,zA n1,zA n2,zA n3,zA n4,zA n5,zA n6,zA n7,zA n8,zA n9]
 rw[hU]
 refine T ?_
 refine Am 2 (E6 { lineZ with row:=l.row,kind:=l.kind,dev:=l.dev }) rfl vL ?_
 refine T ?_
 exact D
theorem Asg (l:LineM) (hw:LineW l):Sp 257 [A6 l] (.tup [A6 (Bh l).1,Ac (Bh l).2]):=by
 by_cases hk:1≤l.kind∧l.kind≤9
 ·rcases (by omega:l.kind=1∨l.kind=2∨l.kind=3∨l.kind=4∨l.kind=5∨l.kind=6∨l.kind=7∨l.kind=8∨l.kind=9) with h | h | h | h | h | h | h | h | h
  ·exact Anf l hw h
  ·exact Ane l hw h
  ·exact Anc l hw h
  ·exact Anb l hw h
  ·exact Ana l hw h
  ·exact Am9 l hw h
  ·exact Am8 l hw h
  ·exact Am7 l hw h
  ·exact Am6 l hw h
 ·exact Ang l hk
theorem Ar6 {l:LineM} (h:LineFin l):LineFin (Bh l).1:=by
 have ht:=h.t;have hi:=h.i;have he:=h.e;have haa:=h.a
 unfold Bh
 dsimp only
 repeat' split
 all_goals exact⟨by first | exact ht | (show 0≤100000;decide),by first | exact hi | (show 0≤100000;decide),by first | exact he | (show 0≤100000;decide),by first | exact haa | (show 0≤100000;decide)⟩
theorem Js (l:LineM) (hw:LineW l):Sp 191 [A6 l] (Ac (C6 l)):=cT F191 Tryz.ntmps191 λ F hF=>by
 have q1:=Asg l hw
 have q2:=Kd l.dev (by have:=hw.dev;omega)
 have q3:=Ash (Bh l).1 l (Ar6 hw.fin) hw.fin
 rw[C6]
 generalize Bh l=u at *
 obtain ⟨ul,ub⟩:=u
 dsimp only at q1 q3 ⊢
 cases ub
 ·rw[zT]
  refine T ?_
  refine C q1 F257 ?_
  exact D
 rw[zS]
 cases hn:Dc l.dev
 ·rw[hn]at q2
  rw[zT]
  refine T ?_
  refine C q1 F257 ?_
  refine C q2 F258 ?_
  exact D
 rw[hn]at q2
 rw[zS]
 refine T ?_
 refine C q1 F257 ?_
 refine C q2 F258 ?_
 refine C q3 F259 ?_
 exact D
end Go.Sy.YtljngfegfclkpaaGreat
