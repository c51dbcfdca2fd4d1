/-
  WS3 WS4 WS5 WS6 WS7 WS8 WS9 WS10 NB14 NB15: parts of a proof, joined by program.
-/
import Derived.Test.YtljngfegfclkpaaGreatYA10
import Derived.Test.YtljngfegfclkpaaGreatYA13
import Derived.Test.YtljngfegfclkpaaGreatYA15
import Derived.Test.YtljngfegfclkpaaGreatYA16
import Derived.Test.YtljngfegfclkpaaGreatYA14
import Derived.Test.YtljngfegfclkpaaGreatYA17
import Derived.Test.YtljngfegfclkpaaGreatYA11
import Derived.Test.YtljngfegfclkpaaGreatYA6
import Derived.Test.YtljngfegfclkpaaGreatYA5
set_option linter.all false
set_option linter.unusedVariables false
set_option linter.unusedSimpArgs false
set_option linter.deprecated false
namespace Go.Sy.YtljngfegfclkpaaGreat
open Go.Proofs
structure BuiltK (n:Net):Prop where
 right:Ab n=true
 wit:WitK n
 num:n.Num
 mesh:(meshNT n).2.2=0
 same:Bk n=n
abbrev InD (n:Net) (d:Int):Prop:=0≤d∧d.toNat<n.domains.length
theorem Iz {n:Net} {d:Int} (h:InD n d):Af d n.domains.length=true:=by
 rw[Af,zL h.1,zL (by have:=h.2;omega)];rfl
theorem inB_iff {l:List Int} {x:Int}:inB l x=true↔x∈l:=by simp[inB]
theorem Avi {n:Net} (h:BuiltK n) {a b:Int} (ha:0≤a∧a.toNat<n.devices.length) (hb:0≤b∧b.toNat<n.devices.length) (e:(nth n.devices a).vtep=(nth n.devices b).vtep) (h0:(nth n.devices a).vtep≠0):a=b:=by
 rw[Ae ha.2]at e h0
 rw[Ae hb.2]at e
 have h0b:=h0
 rw[e]at h0b
 have:=h.wit.vt a.toNat b.toNat ha.2 hb.2 (by rw[vtK,zA h0];exact λ e=>by cases e) (by rw[vtK,vtK,zA h0,zA h0b,e])
 omega
theorem Am2 {n:Net} (h:BuiltK n) {a b:Int} (ha:InD n a) (hb:InD n b) (e:(nth n.domains a).dev=(nth n.domains b).dev) (e2:(nth n.domains a).vni=(nth n.domains b).vni) (h0:(nth n.domains a).vni≠0):a=b:=by
 rw[Ae ha.2]at e e2 h0
 rw[Ae hb.2]at e e2
 have h0b:=h0
 rw[e2]at h0b
 have:=h.wit.vn a.toNat b.toNat ha.2 hb.2 (by rw[vnK,zA h0];exact λ e=>by cases e) (by rw[vnK,vnK,zA h0,zA h0b,e,e2])
 have:=ha.1
 have:=hb.1
 omega
theorem ir_one {n:Net} (h:BuiltK n) {a b:Int} (ha:0≤a∧a.toNat<n.irbs.length) (hb:0≤b∧b.toNat<n.irbs.length) (e:(nth n.irbs a).addr=(nth n.irbs b).addr):a=b:=by
 rw[Ae ha.2,Ae hb.2]at e
 have:=h.wit.ir a.toNat b.toNat ha.2 hb.2 (by exact λ e=>by cases e) (by rw[irK,irK,e])
 omega
theorem Aof {n:Net} (h:BuiltK n) {a:Int} (ha:0≤a∧a.toNat<n.devices.length) (h0:(nth n.devices a).vtep≠0):Cp n (nth n.devices a).vtep=a:=by
 have h1:0≤Cp n (nth n.devices a).vtep:=idxI_nonneg.2 (by
  rw[wF]
  exact⟨nth n.devices a,Hp ha.2,by simp⟩)
 obtain ⟨h2,h3⟩:=Ed h1
 have h3:(nth n.devices (Cp n (nth n.devices a).vtep)).vtep=(nth n.devices a).vtep:=by simpa [Cp] using h3
 exact Avi h ⟨h1,h2⟩ ha h3 (by rw[h3];exact h0)
theorem vni_is {n:Net} (h:BuiltK n) {d:Int} (hd:InD n d) (h0:(nth n.domains d).vni≠0):H6 n (nth n.domains d).dev (nth n.domains d).vni=d:=by
 have h1:0≤H6 n (nth n.domains d).dev (nth n.domains d).vni:=idxI_nonneg.2 (by
  rw[wF]
  exact⟨nth n.domains d,Hp hd.2,by simp[h0]⟩)
 obtain ⟨h2,h3⟩:=Ed h1
 have h3:(nth n.domains (H6 n (nth n.domains d).dev (nth n.domains d).vni)).dev=(nth n.domains d).dev∧(nth n.domains (H6 n (nth n.domains d).dev (nth n.domains d).vni)).vni=(nth n.domains d).vni:=by
  simp only[H6,zB,yA]at h3 ⊢
  exact⟨h3.1,h3.2.1⟩
 exact Am2 h ⟨h1,h2⟩ hd h3.1 h3.2 (by rw[h3.2];exact h0)
theorem Xh {n:Net} (h:BuiltK n) {f:Flood} (hf:f∈n.floods):agreesB n f=true:=by
 have:=(Md h.mesh).2.2.2
 rw[tN]at this
 have:=this f hf
 simpa using this
theorem Yr {n:Net} (h:BuiltK n) {d:Int} (hd:InD n d):(nth n.domains d).peers=peersT n (nth n.domains d):=by
 have e:n.domains=n.domains.map λ d=>{ d with peers:=peersT n d }:=by
  have:=zD Net.domains h.same
  exact this.symm
 have e2:nth n.domains d={ nth n.domains d with peers:=peersT n (nth n.domains d) }:=by
  have h1:(n.domains.map λ d=>{ d with peers:=peersT n d })[d.toNat]'(by rw[yP];exact hd.2)={ n.domains[d.toNat]'hd.2 with peers:=peersT n (n.domains[d.toNat]'hd.2) }:=wW _
  have h2:n.domains[d.toNat]'hd.2=(n.domains.map λ d=>{ d with peers:=peersT n d })[d.toNat]'(by rw[yP];exact hd.2):=by
   congr 1
  rw[Ae hd.2]
  exact h2.trans h1
 exact zD Domain.peers e2
theorem Aq2 {n:Net} (h:BuiltK n) {d k:Int} (hd:InD n d) (hk:k∈(nth n.domains d).peers):∃ f∈n.floods,f.dev=(nth n.domains d).dev∧f.vni=(nth n.domains d).vni∧(nth n.domains d).vni≠0∧f=nth n.floods (Dt n (nth n.domains d).dev (nth n.domains d).vni) ∧
  ∃ a∈f.addrs,k=H6 n (Cp n a) (nth n.domains d).vni:=by
 rw[Yr h hd,peersT]at hk
 split at hk
 ·rename_i hc
  obtain ⟨a,ha,e⟩:=yH.1 hk
  obtain ⟨h1,h2⟩:=Ed hc.2
  have h2:(nth n.floods (Dt n (nth n.domains d).dev (nth n.domains d).vni)).dev=(nth n.domains d).dev∧(nth n.floods (Dt n (nth n.domains d).dev (nth n.domains d).vni)).vni=(nth n.domains d).vni:=by
   simpa [Dt] using h2
  exact⟨_,Hp h1,h2.1,h2.2,hc.1,E,a,ha,e.symm⟩
 ·cases hk
theorem A0d {n:Net} (h:BuiltK n) {d:Int} (hd:InD n d) {f:Flood} (hf:f=nth n.floods (Dt n (nth n.domains d).dev (nth n.domains d).vni)) (h0:(nth n.domains d).vni≠0) (hl:0≤Dt n (nth n.domains d).dev (nth n.domains d).vni) {a:Int} (ha:a∈f.addrs) :
  H6 n (Cp n a) (nth n.domains d).vni∈(nth n.domains d).peers:=by
 rw[Yr h hd,peersT,zC ⟨h0,hl⟩,← hf]
 exact yH.2 ⟨a,ha,E⟩
theorem Aai {n:Net} {f:Flood} {a:Int} (hf:agreesB n f=true) (ha:a∈f.addrs):0≤Cp n a∧a≠0∧0≤H6 n (Cp n a) f.vni∧0≤Dt n (Cp n a) f.vni ∧
  (nth n.devices f.dev).vtep∈(nth n.floods (Dt n (Cp n a) f.vni)).addrs∧∀ b∈f.addrs,b=a∨b∈(nth n.floods (Dt n (Cp n a) f.vni)).addrs:=by
 rw[agreesB,zB,xD]at hf
 have:=hf.2 a ha
 simp only[agreeA,zB,zG,yV,xD,yD,yA,inB_iff]at this
 exact⟨this.1,this.2.1,this.2.2.1,this.2.2.2.1,this.2.2.2.2.1,this.2.2.2.2.2⟩
theorem Atg {n:Net} (h:BuiltK n) {d k e:Int} (hd:InD n d) (hk:k∈(nth n.domains d).peers) (he:e∈(nth n.domains k).peers):e=d∨e∈(nth n.domains d).peers:=by
 have hkd:=(M6 h.right hd hk).1
 obtain ⟨f,hf,f1,f2,v0,fe,a,ha,rfl⟩:=Aq2 h hd hk
 obtain ⟨o0,a0,i0,l0,own,all⟩:=Aai (Xh h hf) ha
 have hK:=Ed i0
 have hK:(nth n.domains (H6 n (Cp n a) f.vni)).dev=Cp n a∧(nth n.domains (H6 n (Cp n a) f.vni)).vni=f.vni:=by
  have:=hK.2
  simp only[H6,zB,yA]at this ⊢
  exact⟨this.1,this.2.1⟩
 rw[f2]at hK
 obtain ⟨g,hg,g1,g2,w0,ge,b,hb,eb⟩:=Aq2 h hkd he
 rw[hK.1]at g1
 rw[hK.2]at g2 w0 eb
 rw[hK.1,hK.2]at ge
 have hgl:nth n.floods (Dt n (Cp n a) f.vni)=g:=by rw[f2,ge]
 rw[hgl]at own all
 obtain ⟨p0,b0,j0,m0,_,back⟩:=Aai (Xh h hg) own
 have hdv:=(Ev h.right hd.2).1
 rw[← Ae hd.2]at hdv
 rw[f1]at own back p0 b0 j0 m0
 rw[Aof h hdv b0,g2]at back
 rw[← fe]at back
 rcases back b hb with rfl | hb2
 ·left
  rw[eb,Aof h hdv b0]
  exact vni_is h hd v0
 ·right
  rw[eb]
  have hl:0≤Dt n (nth n.domains d).dev (nth n.domains d).vni:=by
   rw[Yr h hd,peersT]at hk
   split at hk
   ·rename_i hc;exact hc.2
   ·cases hk
  exact A0d h hd fe v0 hl hb2
theorem Ab5 {n:Net} (hr:Ab n=true) {d k:Int} (hd:InD n d) (hk:k∈(nth n.domains d).peers):InD n k∧(nth n.domains k).vni=(nth n.domains d).vni∧(nth n.domains d).vni≠0∧Cr n k≠0∧Cr n d≠0:=by
 have hin:=(M6 hr hd hk).1
 rw[Ae hd.2]at hk
 have h:=hr
 simp only[Ab,zB]at h
 have h1:=allB_iff.1 h.1.1.1.1.1.1.2 _ hd.2
 obtain ⟨j,hj,e⟩:=yR.1 hk
 have h2:=allB_iff.1 h1 j hj
 rw[e]at h2
 simp only[M7,zB,yV,yA,Kv]at h2
 rw[← Ae hd.2]at h2
 exact⟨hin,h2.1.1.1.1.1.2,h2.1.1.1.1.2,h2.1.1.1.2,h2.1.1.2⟩
theorem Afn {n:Net} (h:BuiltK n) {d k:Int} (hd:InD n d) (hk:k∈(nth n.domains d).peers) {f:FrameM} (hf:FrameOK f) (ht:f.typ≠33024) (hl:f.body.length≤1450) (hg:Dh f.src=false) :
  (meshT n d k f).2=0∧comeT n (meshT n d k f).1=(d,k,f,0):=by
 obtain ⟨hkd,v1,v0,t1,t0⟩:=Ab5 h.right hd hk
 have dk:=(Ev h.right hkd.2).1
 have dd:=Ev h.right hd.2
 rw[← Ae hkd.2]at dk
 rw[← Ae hd.2]at dd
 have n1:0≤Cr n d∧Cr n d<4294967296:=h.num.vtep _ (Hp dd.1.2)
 have n2:0≤Cr n k∧Cr n k<4294967296:=h.num.vtep _ (Hp dk.2)
 have e1:(((Cr n d).toNat:Nat):Int)=Cr n d:=yQ n1.1
 have e2:(((Cr n k).toNat:Nat):Int)=Cr n k:=yQ n2.1
 obtain ⟨w1,w2⟩:=Ajd (a:=(Cr n d).toNat) (b:=(Cr n k).toNat) (v:=(nth n.domains d).vni) q_ q_ hf ht hl q_
 have hm:meshT n d k f=wrapT (Cr n d).toNat (Cr n k).toNat (nth n.domains d).vni f:=by
  rw[meshT,zA,zA]
  ·rw[inB_iff.2 hk];decide
  ·rintro (hh | hh | hh)
   ·rw[Iz hkd]at hh;cases hh
   ·rw[Iz hd]at hh;cases hh
   ·rw[h.right]at hh;cases hh
 rw[hm]
 refine⟨w1,?_⟩
 have c1:Bg (λ x:Device=>decide (x.vtep=(((Cr n k).toNat:Nat):Int))) n.devices=(nth n.domains k).dev:=by
  rw[e2]
  exact Aof h dk t1
 have c2:Bg (λ x:Domain=>decide (x.dev=(nth n.domains k).dev) && decide (x.vni=(nth n.domains d).vni)) n.domains=k:=by
  have h1:0≤Bg (λ x:Domain=>decide (x.dev=(nth n.domains k).dev) && decide (x.vni=(nth n.domains d).vni)) n.domains:=idxI_nonneg.2 (by
   rw[wF]
   exact⟨nth n.domains k,Hp hkd.2,by simp[v1]⟩)
  obtain ⟨h2,h3⟩:=Ed h1
  simp only[zB,zG]at h3
  exact Am2 h ⟨h1,h2⟩ hkd h3.1 (by rw[h3.2,v1]) (by rw[h3.2];exact v0)
 have c3:0≤Bg (λ j:Int=>decide (Cr n j=(((Cr n d).toNat:Nat):Int))) (nth n.domains k).peers∧nth (nth n.domains k).peers (Bg (λ j:Int=>decide (Cr n j=(((Cr n d).toNat:Nat):Int))) (nth n.domains k).peers)=d:=by
  have hb:=(M6 h.right hd hk).2
  have h1:0≤Bg (λ j:Int=>decide (Cr n j=(((Cr n d).toNat:Nat):Int))) (nth n.domains k).peers:=idxI_nonneg.2 (by
   rw[wF]
   exact⟨d,hb,by rw[e1];simp⟩)
  obtain ⟨h2,h3⟩:=Ed h1
  generalize Bg (λ j:Int=>decide (Cr n j=(((Cr n d).toNat:Nat):Int))) (nth n.domains k).peers=i at *
  have hj:nth (nth n.domains k).peers i∈(nth n.domains k).peers:=Hp h2
  generalize nth (nth n.domains k).peers i=j at *
  obtain ⟨hjd,u1,_,_,_⟩:=Ab5 h.right hkd hj
  have h3:Cr n j=Cr n d:=by rw[e1]at h3;simpa using h3
  have dj:=(Ev h.right hjd.2).1
  rw[← Ae hjd.2]at dj
  exact⟨h1,Am2 h hjd hd (Avi h dj dd.1 h3 (by show Cr n j≠0;rw[h3];exact t0)) (by rw[u1,v1]) (by rw[u1,v1];exact v0)⟩
 have hends:endsT n (Cr n d).toNat (Cr n k).toNat (nth n.domains d).vni=(d,k):=by
  rw[endsT]
  dsimp only
  rw[c1,c2,zA (by have:=dk.1;have:=hkd.1;omega),zA (by have:=c3.1;omega),c3.2]
 rw[comeT,zA (by rw[h.right];decide),w2]
 dsimp only
 rw[zA y_,hends]
 dsimp only
 rw[zA (by have:=hd.1;omega),hg,zA y_]
theorem Z7 {n:Net} (hr:Ab n=true) {q:Int} (hq:0≤q∧q.toNat<n.ports.length) {f:FrameM} (hf:FrameOK f) (ht:f.typ≠33024) (hg:Dh f.src=false) (hn:(nth n.ports q).native≠0) :
  enterT n q (Jw f)=(Bt n (nth n.ports q).dev (nth n.ports q).native,f,0):=by
 have hp:Af q n.ports.length=true:=by rw[Af,zL hq.1,zL q_];rfl
 rw[enterT,zA (by rw[hp,hr];decide),J7 hf]
 dsimp only
 rw[zA y_,zA ht,Ip,hg,zA y_]
 have hv:vlanT (nth n.ports q) false 0=((nth n.ports q).native,true):=by rw[vlanT,zC (.inl rfl),zL hn]
 rw[hv,zA y_]
theorem Xl {n:Net} (hr:Ab n=true) {q v:Int} (hq:0≤q∧q.toNat<n.ports.length) {f:FrameM} (hf:FrameOK f) (ht:f.typ≠33024) (hb:f.body.length≤1500) (hg:Dh f.src=false) (hv:1≤v∧v≤4094) (hin:inB (nth n.ports q).tagged v=true) :
  enterT n q (Jw (tagT f v).1)=(Bt n (nth n.ports q).dev v,f,0):=by
 have hp:Af q n.ports.length=true:=by rw[Af,zL hq.1,zL q_];rfl
 obtain ⟨s1,s2,s3⟩:=Afb (v:=v) hf ht hb ⟨by omega,hv.2⟩
 rw[enterT,zA (by rw[hp,hr];decide),J7 s1]
 dsimp only
 rw[zA y_,zC s2,s3]
 dsimp only
 rw[zA y_,Ip,hg,zA y_]
 have hv2:vlanT (nth n.ports q) true v=(v,true):=by rw[vlanT,zA (by rintro (hh | hh);cases hh;omega),zC hin]
 rw[hv2,zA y_]
theorem Vl {n:Net} (hr:Ab n=true) {d p:Int} (hd:InD n d) (hp:p∈At n d) {f:FrameM} (ht:f.typ≠33024) (hb:f.body.length≤1500) :
  leaveT n p d f=(if (nth n.domains d).vlan=(nth n.ports p).native then Jw f else Jw (tagT f (nth n.domains d).vlan).1,0):=by
 obtain ⟨hp0,hp1,hp2⟩:=(Cs hr hd).1 hp
 have hpl:Af p n.ports.length=true:=by rw[Af,zL hp0.1,zL q_];rfl
 have htg:=(Abf (f:=f) (v:=(nth n.domains d).vlan) ht hb).1
 rw[leaveT,zA (by rw[hpl,Iz hd,hr];decide),zA (by rintro (hh | hh);exact hh hp1;rw[hp2]at hh;cases hh),zA ht]
 split
 ·rfl
 ·rw[zA (λ hh=>hh htg)]
theorem At2 {n:Net} (h:BuiltK n) {d p e:Int} (hd:InD n d) (hp:p∈At n d) (hl:linkDomT n p (nth n.domains d).vlan=(e,true)) {f:FrameM} (hf:FrameOK f) (ht:f.typ≠33024) (hb:f.body.length≤1500) (hg:Dh f.src=false) :
  linkT n p (leaveT n p d f).1=(Ay n p,e,f,0):=by
 have hr:=h.right
 rw[Vl hr hd hp ht hb]
 dsimp only
 have hc:(crossT n p (nth n.domains d).vlan).2.2=true:=by
  cases hcc:(crossT n p (nth n.domains d).vlan).2.2
  ·rw[linkDomT,zA (by rw[hcc];decide)]at hl;cases hl
  ·rfl
 rw[linkDomT,zC hc]at hl
 have hcr:0≤Ay n p∧Ce (nth n.ports p) (nth n.domains d).vlan=true∧C9 n p (nth n.domains d).vlan≠0:=by
  rw[crossT]at hc
  split at hc
  ·assumption
  ·cases hc
 rw[crossT,zC hcr]at hl
 dsimp only at hl
 obtain ⟨he,_⟩:=Prod.mk.inj hl
 have hot:=Dx hcr.1
 have hq:0≤Ay n p∧(Ay n p).toNat<n.ports.length:=⟨hcr.1,hot.2.2⟩
 have hvl:=(Ev hr hd.2).2.1
 rw[← Ae hd.2]at hvl
 have hto:=hcr.2.2
 rw[C9]at he hto
 rw[linkT,zA q_]
 by_cases hn:(nth n.domains d).vlan=(nth n.ports p).native
 ·rw[zC hn]at he hto
  rw[zC hn,Z7 hr hq hf ht hg hto,he]
 ·rw[zA hn]at he hto
  cases hi:inB (nth n.ports (Ay n p)).tagged (nth n.domains d).vlan with
  | false=>rw[hi]at hto;exact zW rfl hto
  | true =>
   rw[hi,zC rfl]at he
   rw[zA hn,Xl hr hq hf ht hb hg hvl hi,he]
end Go.Sy.YtljngfegfclkpaaGreat
namespace Go.Sy.YtljngfegfclkpaaGreat
open Go.Proofs
theorem Ahr {α:Type} [Inhabited α] {l:List α} {i:Nat} (h:i<l.length):nth l (i:Int)=l[i]:=Ae (i:=(i:Int)) h
theorem Jx {α:Type} [Inhabited α] {l:List α} {x:α} {i:Nat} (h:i<l.length):nth (l++[x]) (i:Int)=nth l (i:Int):=Vi (by simpa using h)
theorem Tq {α:Type} [Inhabited α] (l:List α) (x:α):nth (l++[x]) (l.length:Int)=x:=by
 rw[Ahr y_]
 simp
structure WayS (n:Net) (p:Int) (l:List Hop) (st:Nat→Int × Int) (r:Nat):Prop where
 pos:1≤r∧r≤l.length
 dom:∀ i,i<l.length→(nth l (i:Int)).domain=(st i).1
 kd:∀ i,i<l.length→(st i).2=if i<r then 0 else 1
 start:Amt n p (st 0)∧nth l ((0:Nat):Int)=⟨0,0,(st 0).1,0⟩
 hop:∀ i,i+1<l.length→i+1≠r→nth l ((i+1:Nat):Int)∈C8 n (st i).1
 lead:∀ i,i+1<l.length→i+1=r→∃ q∈routesT n (st i).1,nth l ((i+1:Nat):Int)=⟨3,0,q.domain,q.addr⟩
theorem Y0 {n:Net} {d:Int} {h:Hop} (hh:h∈C8 n d):(h.kind=1∧h.port∈At n d∧linkDomT n h.port (nth n.domains d).vlan=(h.domain,true))∨(h.kind=2∧h.domain∈(nth n.domains d).peers):=by
 rw[C8]at hh
 split at hh
 ·rcases yF.1 hh with hh | hh
  ·obtain ⟨p,hp,hl⟩:=xN.1 hh
   rw[linkHop]at hl
   split at hl
   ·rename_i hok
    cases hl
    exact .inl ⟨E,hp,Prod.ext E hok⟩
   ·cases hl
  ·obtain ⟨k,hk,rfl⟩:=yH.1 hh
   exact .inr ⟨E,hk⟩
 ·cases hh
theorem Aa8 {n:Net} {p:Int} {l:List Hop} {x:Int × Int} (h:HWay n p l x):∃ st r,WayS n p l st r∧x=st (l.length-1)∧(x.2=0→r=l.length):=by
 induction h with
 | @start d hs =>
  refine⟨λ _=>(d,0),1,⟨⟨zZ _,zZ _⟩,λ i hi=>?_,λ i hi=>?_,⟨hs,E⟩,λ i hi=>?_,λ i hi=>?_⟩,E,λ _=>rfl⟩
  ·have:i=0:=by simpa using hi
   subst this;rfl
  ·have:i=0:=by simpa using hi
   subst this;rfl
  ·simp at hi
  ·simp at hi
 | @hop l x h _ hh ih =>
  obtain ⟨st,r,W,hx,h0⟩:=ih
  have hl:0<l.length:=by have:=W.pos;omega
  refine⟨λ i=>if i<l.length then st i else (h.domain,x.2),if x.2=0 then l.length+1 else r,⟨?_,λ i hi=>?_,λ i hi=>?_,?_,λ i hi hr=>?_,λ i hi hr=>?_⟩,?_,λ e=>?_⟩
  ·have:=W.pos
   rw[zI,zM]
   split<;>omega
  ·rw[zI,zM]at hi
   by_cases c:i<l.length
   ·rw[zC c,Jx c];exact W.dom i c
   ·have:i=l.length:=by omega
    subst this
    rw[zA c,Tq]
  ·rw[zI,zM]at hi
   have kx:=W.kd (l.length-1) q_
   rw[← hx]at kx
   by_cases c:i<l.length
   ·rw[zC c,W.kd i c]
    by_cases e:x.2=0
    ·rw[zC e,h0 e,zC c,zC q_]
    ·rw[zA e]
   ·rw[zA c]
    dsimp only
    by_cases e:x.2=0
    ·rw[zC e,zC q_,e]
    ·rw[zA e]
     rw[kx]at e ⊢
     have:=W.pos
     split at e
     ·exact zW E e
     ·rw[zA q_,zA q_]
  ·rw[zC hl,Jx hl]
   exact W.start
  ·rw[zI,zM]at hi
   rw[zC q_]
   by_cases c:i+1<l.length
   ·rw[Jx c]
    refine W.hop i c λ e=>hr ?_
    have kx:=W.kd (l.length-1) q_
    rw[← hx,zA q_]at kx
    rw[kx,zA y_,e]
   ·have e:i+1=l.length:=by omega
    rw[e,Tq]
    have e2:i=l.length-1:=by omega
    rw[e2,← hx]
    exact hh
  ·rw[zI,zM]at hi
   rw[zC q_]
   by_cases e:x.2=0
   ·rw[zC e]at hr;omega
   ·rw[zA e]at hr
    have c:i+1<l.length:=by
     have kx:=W.kd (l.length-1) q_
     rw[← hx]at kx
     rw[kx]at e
     split at e
     ·exact zW E e
     ·omega
    rw[Jx c]
    exact W.lead i c hr
  ·rw[zI,zM]
   exact(zA q_).symm
  ·dsimp only at e
   rw[zC e,zI,zM]
 | @lead l x q _ hk hq ih =>
  obtain ⟨st,r,W,hx,h0⟩:=ih
  have hl:0<l.length:=by have:=W.pos;omega
  have hr0:=h0 hk
  refine⟨λ i=>if i<l.length then st i else (q.domain,1),l.length,⟨?_,λ i hi=>?_,λ i hi=>?_,?_,λ i hi hr=>?_,λ i hi hr=>?_⟩,?_,λ e=>(by cases e)⟩
  ·rw[zI,zM]
   omega
  ·rw[zI,zM]at hi
   by_cases c:i<l.length
   ·rw[zC c,Jx c];exact W.dom i c
   ·have:i=l.length:=by omega
    subst this
    rw[zA c,Tq]
  ·by_cases c:i<l.length
   ·rw[zC c,zC c,W.kd i c,zC q_]
   ·rw[zA c,zA c]
  ·rw[zC hl,Jx hl]
   exact W.start
  ·rw[zI,zM]at hi
   rw[zC q_,Jx q_]
   exact W.hop i q_ q_
  ·rw[zI,zM]at hi
   rw[zC q_,hr,Tq]
   have e2:i=l.length-1:=by omega
   rw[e2,← hx]
   exact⟨q,hq,E⟩
  ·rw[zI,zM]
   exact(zA q_).symm
section
variable {n:Net} {p:Int} {l:List Hop} {st:Nat→Int × Int} {r:Nat}
theorem WayS.succ (W:WayS n p l st r) {i:Nat} (h:i+1<l.length):A1f n (st i) (st (i+1)):=by
 have k0:=W.kd i q_
 have k1:=W.kd (i+1) h
 have d1:=W.dom (i+1) h
 by_cases e:i+1=r
 ·obtain ⟨q,hq,hh⟩:=W.lead i h e
  rw[hh]at d1
  rw[zC q_]at k0
  rw[zA q_]at k1
  exact .inr ⟨k0,q,hq,Prod.ext d1.symm k1⟩
 ·refine .inl ⟨_,W.hop i h e,Prod.ext d1.symm ?_⟩
  rw[k1]
  show _=(st i).2
  rw[k0]
  by_cases c:i<r
  ·rw[zC c,zC q_]
  ·rw[zA c,zA q_]
theorem WayS.walk (W:WayS n p l st r):∀ i,i<l.length→Walk n p i (st i)
 | 0,_=>.start W.start.1
 | i+1,h=>.step (W.walk i q_) (W.succ h)
theorem WayS.on (W:WayS n p l st r) {k j:Nat} (h:Walk n p k (st j)):∀ e,j+e<l.length→Walk n p (k+e) (st (j+e))
 | 0,_=>h
 | e+1,he=>.step (W.on h e q_) (W.succ q_)
def Ql (n:Net) (p:Int) (l:List Hop) (st:Nat→Int × Int):Prop:=∀ k,Walk n p k (st (l.length-1))→l.length-1≤k
theorem WayS.near (W:WayS n p l st r) (S:Ql n p l st) {k j:Nat} (hj:j<l.length) (h:Walk n p k (st j)):j≤k:=by
 have h1:=W.on h (l.length-1-j) q_
 rw[show j+(l.length-1-j)=l.length-1 by omega]at h1
 have:=S _ h1
 omega
theorem WayS.diff (W:WayS n p l st r) (S:Ql n p l st) {i j:Nat} (hi:i<l.length) (hj:j<l.length) (h:st i=st j):i=j:=by
 have h1:=W.near S hj (h ▸ W.walk i hi)
 have h2:=W.near S hi (h ▸ W.walk j hj)
 omega
theorem WayS.window (W:WayS n p l st r) (S:Ql n p l st) {i j:Nat} (hi:i<l.length) (hj:j<l.length) (hk:(st i).2=(st j).2) {g h:Hop} (hg:g∈C8 n (st i).1) (hh:h∈C8 n (st j).1) (e:g.domain=h.domain):j≤i+2:=by
 obtain ⟨b,hb,eb⟩:=Aue hh
 have w1:Walk n p (i+1) (g.domain,(st i).2):=.step (W.walk i hi) (.inl ⟨g,hg,rfl⟩)
 have w2:Walk n p (i+1+1) (b.domain,(st i).2):=.step w1 (.inl ⟨b,by rw[e];exact hb,rfl⟩)
 rw[eb,hk]at w2
 exact W.near S hj w2
theorem WayS.ahead (W:WayS n p l st r) (S:Ql n p l st) {i j:Nat} (hi:i<l.length) (hj:j<l.length) (hk:(st i).2=(st j).2) {g:Hop} (hg:g∈C8 n (st i).1) (e:g.domain=(st j).1):j≤i+1:=by
 have w1:Walk n p (i+1) (g.domain,(st i).2):=.step (W.walk i hi) (.inl ⟨g,hg,rfl⟩)
 rw[e,hk]at w1
 exact W.near S hj w1
theorem WayS.ind (W:WayS n p l st r) (hr:Ab n=true) (hp:0≤p∧p.toNat<n.ports.length) {i:Nat} (hi:i<l.length):InD n (st i).1:=Azg hr hp (W.walk i hi)
theorem WayS.route (W:WayS n p l st r):Ve l=if r<l.length then (r:Int) else -1:=by
 have hk:∀ i (hi:i<l.length),(decide ((l[i]).kind=3))=decide (i=r):=by
  intro i hi
  rw[← Ahr hi,decide_eq_decide]
  cases i with
  | zero =>
   rw[W.start.2]
   have:=W.pos
   constructor
   ·intro h;cases h
   ·intro h;omega
  | succ i =>
   by_cases e:i+1=r
   ·obtain ⟨q,_,hh⟩:=W.lead i hi e
    rw[hh]
    exact⟨λ _=>e,λ _=>rfl⟩
   ·refine⟨λ h=>?_,λ h=>zW h e⟩
    rcases Y0 (W.hop i hi e) with h1 | h1
    ·rw[h1.1]at h;cases h
    ·rw[h1.1]at h;cases h
 by_cases c:r<l.length
 ·rw[zC c]
  exact Cj c (λ i hi hlt=>by rw[hk i hi];exact zJ q_) (by rw[hk r c];exact zL E)
 ·rw[zA c]
  exact Dg λ i hi=>by rw[hk i hi];exact zJ q_
end
end Go.Sy.YtljngfegfclkpaaGreat
namespace Go.Sy.YtljngfegfclkpaaGreat
open Go.Proofs
theorem tableB_iff {t:List EntryM}:tableB t=true↔t.length≤8∧(t.map (·.mac)).Nodup∧∀ e∈t,E4 e.mac=true∧Ew e.seen=true:=by
 rw[tableB,zB,zG,allB_iff]
 refine and_congr_right λ _=>?_
 constructor
 ·intro h
  have hi:∀ i (hi:i<t.length),E4 t[i].mac=true∧Ew t[i].seen=true∧Df t t[i].mac=i:=λ i hi=>by
   have:=h i hi
   simp only[Qc,zB,zG]at this
   exact⟨this.1.1,this.1.2,this.2⟩
  refine⟨?_,λ e he=>?_⟩
  ·rw[wS,wA]
   intro i j h1 h2 hij
   rw[yP]at h1 h2
   rw[wW,wW]
   intro e
   have a:=(hi i h1).2.2
   have b:=(hi j h2).2.2
   rw[e]at a
   omega
  ·obtain ⟨i,h1,rfl⟩:=yR.1 he
   exact⟨(hi i h1).1,(hi i h1).2.1⟩
 ·rintro ⟨h1,h2⟩ i hi
  have:=h2 t[i] (zE hi)
  rw[wS,wA]at h1
  have hx:Df t t[i].mac=i:=Cj hi (λ j hj hji=>by
   have:=h1 j i (by rw[yP];exact hj) (by rw[yP];exact hi) hji
   rw[wW,wW]at this
   exact zJ this) (zL E)
  simp only[Qc,zB,zG]
  exact⟨⟨this.1,this.2⟩,hx⟩
theorem Ak8 {t:List EntryM} {m:Nat} {wh now:Int} {S:Nat→Prop} (h:tableB t=true) (hS:∀ e∈t,S e.mac) (hm:S m):tableB (learnT t m wh now)=true∧∀ e∈learnT t m wh now,S e.mac:=by
 rw[learnT]
 split
 ·exact⟨h,hS⟩
 rename_i hc
 have hst:E4 m=true:=by
  cases hh:E4 m
  ·exact zW (.inr (.inl hh)) hc
  ·rfl
 have htm:Ew now=true:=by
  cases hh:Ew now
  ·exact zW (.inr (.inr hh)) hc
  ·rfl
 obtain ⟨h1,h2,h3⟩:=tableB_iff.1 h
 split
 ·rename_i hi
  obtain ⟨a,b⟩:=Ah2 (p:=λ e:EntryM=>decide (e.mac=m)) (i:=Df t m) rfl hi
  have b:=zK b
  refine⟨tableB_iff.2 ⟨by rw[yE];exact h1,?_,λ e he=>?_⟩,λ e he=>?_⟩
  ·rw[List.map_set]
   have:(t.map (·.mac)).set (Df t m).toNat m=t.map (·.mac):=by
    have e2:(t.map (·.mac))[(Df t m).toNat]'(by rw[yP];exact a)=m:=(wW _).trans b
    clear hi hm b
    generalize (Df t m).toNat=i at *
    rw[← e2]
    exact xZ _
   rw[this];exact h2
  ·rcases Ts he with he | he
   ·exact h3 e he
   ·rw[he];exact⟨hst,htm⟩
  ·rcases Ts he with he | he
   ·exact hS e he
   ·rw[he];exact hm
 ·rename_i hi
  have hno:∀ e∈t,e.mac≠m:=λ e he hh=>by
   have:=Aiy (p:=λ e:EntryM=>decide (e.mac=m)) (l:=t) (by show Df t m<0;omega) e he
   exact zN this hh
  have key:∀ u:List EntryM,u.length≤7→u.Sublist t→tableB (u++[⟨m,wh,now⟩])=true∧∀ e∈u++[⟨m,wh,now⟩],S e.mac:=by
   intro u hu hs
   refine⟨tableB_iff.2 ⟨by rw[zI,zM];omega,?_,λ e he=>?_⟩,λ e he=>?_⟩
   ·rw[wK,List.nodup_append]
    refine⟨(hs.map _).nodup h2,by simp,λ x hx y hy=>?_⟩
    obtain ⟨e,he,rfl⟩:=yH.1 hx
    simp at hy
    rw[hy]
    exact hno e (hs.subset he)
   ·rcases yF.1 he with he | he
    ·exact h3 e (hs.subset he)
    ·rw[zX.1 he];exact⟨hst,htm⟩
   ·rcases yF.1 he with he | he
    ·exact hS e (hs.subset he)
    ·rw[zX.1 he];exact hm
  split
  ·rename_i h8
   have hlt:oldestU t t.length<t.length∨t.length≤oldestU t t.length:=by omega
   have ho:∀ j,j≤t.length→oldestU t j≤j-1∨oldestU t j=0:=by
    intro j
    induction j with
    | zero=>exact λ _=>.inr rfl
    | succ j ih =>
     intro hj
     rw[oldestU]
     split
     ·exact .inl q_
     ·rcases ih q_ with h | h
      ·exact .inl q_
      ·exact .inr h
   refine key _ ?_ (List.eraseIdx_sublist ..)
   have:=ho t.length (zZ _)
   rw[List.length_eraseIdx,zC q_]
   omega
  ·exact key t q_ (List.Sublist.refl _)
section
variable {n:Net} {up:List Bool}
theorem Ark (h:okB n up=true) {p:Int} (ho:0≤Ay n p) (hf:((Y4 n up)[(nth n.ports p).link.toNat]?).getD false=true) :
  ∃ a b:Nat,p=a∧Ay n p=b∧La n up a b∧La n up b a∧(Ei n up (Cc n) (Ko n up) (Ks n up) (Bu n a)=a∨Ei n up (Cc n) (Ko n up) (Ks n up) (Bu n b)=b):=by
 obtain ⟨hu,hr,hcost⟩:=ok_iff.1 h
 have S:=L9 h
 obtain ⟨⟨p0,p1⟩,l0,l1⟩:=Hn ho
 have e:=(Ay n p)
 have hk:(nth n.ports p).link.toNat<n.links.length:=l1
 obtain ⟨a,b,ha,hb,hap,hbp,hne,hla,hlb⟩:=Akz hr hk
 have hiff:=Arj S hr hcost hk ha hb hap hbp hla hlb
 have hfw:Ah7 (Vf n up (Cc n) (Ko n up) (Ks n up)) n.links[(nth n.ports p).link.toNat]=true:=by
  rw[Y4,Aul,vG,zH hk]at hf
  exact hf
 obtain ⟨hup,hbest⟩:=hiff.1 hfw
 have h1:=Wx hr hk ha hb hla hap hup
 have h2:La n up b a:=by
  refine⟨hbp,?_⟩
  have:=h1.2
  unfold Dr at this ⊢
  have e1:n.ports.getD a default=nth n.ports a:=rfl
  have e2:n.ports.getD b default=nth n.ports b:=rfl
  rw[e1]at this
  rw[e2]
  dsimp only at this ⊢
  rw[hla]at this
  rw[hlb]
  split at this
  ·omega
  ·rename_i hc
   rw[zA hc]
   omega
 have hoe:Ay n p=if n.links[(nth n.ports p).link.toNat].a=p then n.links[(nth n.ports p).link.toNat].b else n.links[(nth n.ports p).link.toNat].a:=by
  rw[Ay,zC ⟨⟨p0,by omega⟩,l0,hr⟩,Ae hk]
 have hpl:=Ee hr p1 (by rw[← Ae p1];exact l0)
 rw[← Ae p1,Ae hk,ha,hb]at hpl
 rw[ha,hb]at hoe
 have hpp:((p.toNat:Nat):Int)=p:=yQ p0
 rw[hpp]at hpl
 by_cases c:(a:Int)=p
 ·rw[zC c]at hoe
  exact⟨a,b,c.symm,hoe,h1,h2,hbest⟩
 ·rw[zA c]at hoe
  have c2:=hpl.2.resolve_left c
  exact⟨b,a,c2.symm,hoe,h2,h1,hbest.symm⟩
theorem W4 (h:okB n up=true) {i j:Nat} (hij:La n up i j) (hb:Ei n up (Cc n) (Ko n up) (Ks n up) (Bu n i)=i):nth (Ks n up) (Bu n j)<nth (Ks n up) (Bu n i):=by
 obtain ⟨hu,hr,hcost⟩:=ok_iff.1 h
 have h1:=Y8 (L9 h) hr hij hb
 have h2:1≤Kb n i:=by
  have hi:=hij.1
  simp only[Cn,yK,wQ]at hcost
  have:=hcost _ (zE hi)
  simp only[Hl,yD,zG,uK]at this
  rw[Kb,Ae (l:=n.ports) (i:=(i:Int)) (by simpa using hi)]
  simp only[zR]
  omega
 omega
theorem A0t (h:okB n up=true) {p q:Int} (hp:0≤Ay n p) (hq:0≤Ay n q) (fp:((Y4 n up)[(nth n.ports p).link.toNat]?).getD false=true) (fq:((Y4 n up)[(nth n.ports q).link.toNat]?).getD false=true)
  (h1:(nth n.ports p).dev=(nth n.ports q).dev) (h2:(nth n.ports (Ay n p)).dev=(nth n.ports (Ay n q)).dev):p=q:=by
 obtain ⟨a,b,ea,eb,u1,u2,c1⟩:=Ark h hp fp
 obtain ⟨c,d,ec,ed,v1,v2,c2⟩:=Ark h hq fq
 have hpb:=Oz hp
 have hqb:=Oz hq
 rw[eb]at h2 hpb
 rw[ed]at h2 hqb
 rw[ea,ec]at h1
 have d1:Bu n a=Bu n c:=h1
 have d2:Bu n b=Bu n d:=h2
 rcases c1 with c1 | c1<;>rcases c2 with c2 | c2
 ·rw[d1,c2]at c1
  rw[ea,ec,c1]
 ·have x1:=W4 h u1 c1
  have x2:=W4 h v2 c2
  rw[← d1,← d2]at x2
  omega
 ·have x1:=W4 h u2 c1
  have x2:=W4 h v1 c2
  rw[← d1,← d2]at x2
  omega
 ·rw[d2,c2]at c1
  rw[← hpb,← hqb,← c1]
end
end Go.Sy.YtljngfegfclkpaaGreat
namespace Go.Sy.YtljngfegfclkpaaGreat
open Go.Proofs
theorem Zr (m:MacM) (d X:Int) (l:List QueuedM):queueL (Mz m d l) X=if d.toNat=X.toNat∧X.toNat<m.queues.length then l else queueL m X:=by
 rw[queueL,Mz]
 dsimp only
 rw[uF]
 split
 ·rename_i h
  rw[h]
  split
  ·rename_i h2;rw[zC ⟨rfl,h2⟩];rfl
  ·rename_i h2
   rw[zA (λ hh=>h2 hh.2),queueL,wD q_]
 ·rename_i h
  rw[zA (λ hh=>h hh.1)]
  rfl
structure SameM (m m':MacM):Prop where
 up:m'.up=m.up
 tables:m'.tables=m.tables
 now:m'.now=m.now
 injected:m'.injected=m.injected
 len:m'.queues.length=m.queues.length
theorem SameM.refl (m:MacM):SameM m m:=⟨rfl,rfl,rfl,rfl,rfl⟩
theorem SameM.trans {a b c:MacM} (h:SameM a b) (g:SameM b c):SameM a c:=⟨g.up.trans h.up,g.tables.trans h.tables,g.now.trans h.now,g.injected.trans h.injected,g.len.trans h.len⟩
theorem T1 (m:MacM) (d:Int) (q:QueuedM) (e:Int):SameM m (comeM m d q e):=by
 rw[comeM]
 split
 ·exact⟨E,E,E,E,E⟩
 split
 ·exact⟨E,E,E,E,yE ..⟩
 ·exact⟨E,E,E,E,E⟩
theorem L2 (m:MacM) (d X:Int) (q:QueuedM) (e:Int):queueL (comeM m d q e) X=if e=0∧d.toNat=X.toNat∧X.toNat<m.queues.length∧(queueL m X).length<64 then queueL m X++[q] else queueL m X:=by
 rw[comeM]
 split
 ·rename_i h;rw[zA (λ hh=>h hh.1)];rfl
 rename_i h
 have h:e=0:=Classical.byContradiction h
 have hq:d.toNat=X.toNat→queueL m d=queueL m X:=λ hh=>by rw[queueL,queueL,hh]
 rw[pushT]
 by_cases c:64≤(queueL m d).length
 ·rw[zC c,zA y_]
  split
  ·rename_i hh;rw[hq hh.2.1]at c;omega
  ·rfl
 ·rw[zA c,zC rfl]
  dsimp only
  rw[Zr]
  by_cases c2:d.toNat=X.toNat∧X.toNat<m.queues.length
  ·rw[zC c2,zC ⟨h,c2.1,c2.2,by rw[hq c2.1]at c;omega⟩,hq c2.1]
  ·rw[zA c2,zA (λ hh=>c2 ⟨hh.2.1,hh.2.2.1⟩)]
def Qj (n:Net) (origin X:Int) (o:OutM):List QueuedM :=
 if o.kind=1 then []
 else if o.kind=2 then (if (linkT n o.port o.bytes).2.2.2=0∧(linkT n o.port o.bytes).2.1.toNat=X.toNat then [⟨(linkT n o.port o.bytes).1,0,origin,(linkT n o.port o.bytes).2.2.1⟩] else [])
 else if o.kind=3 then (if (comeT n o.bytes).2.2.2=0∧(comeT n o.bytes).2.1.toNat=X.toNat then [⟨-1,(comeT n o.bytes).1,origin,(comeT n o.bytes).2.2.1⟩] else [])
 else if o.kind=4 then (if o.domain.toNat=X.toNat then [⟨-2,0,origin,o.frame⟩] else [])
 else []
def Ua (n:Net) (origin X:Int) (O:List OutM):List QueuedM:=O.flatMap (Qj n origin X)
theorem Ac1 (n:Net) (m:MacM) (o:OutM) (g:Int):SameM m (goesM n m o g).1:=by
 rw[goesM]
 split
 ·exact SameM.refl m
 split
 ·exact T1 m _ _ _
 split
 ·exact T1 m _ _ _
 split
 ·exact T1 m o.domain ⟨-2,0,g,o.frame⟩ 0
 ·exact⟨E,E,E,E,E⟩
theorem Af8 (n:Net) (m:MacM) (o:OutM) (g X:Int) (hX:X.toNat<m.queues.length):queueL (goesM n m o g).1 X=queueL m X++(if (queueL m X).length<64 then Qj n g X o else []):=by
 rw[goesM,Qj]
 split
 ·simp
 split
 ·rw[L2]
  grind
 split
 ·rw[L2]
  grind
 split
 ·rw[L2]
  grind
 ·have:queueL (Cv m o.error) X=queueL m X:=rfl
  rw[this]
  simp
theorem Aix (n:Net) (g X:Int) (o:OutM):(Qj n g X o).length≤1:=by
 rw[Qj]
 repeat' split
 all_goals simp
theorem Af7 (n:Net) (g:Int):∀ (O:List OutM) (m:MacM),SameM m (Bl n m g O).1
 | [],m=>SameM.refl m
 | o::O,m=>(Ac1 n m o g).trans (Af7 n g O _)
theorem Ac0 (n:Net) (g X:Int):∀ (O:List OutM) (m:MacM),X.toNat<m.queues.length→(queueL m X).length+(Ua n g X O).length≤64→queueL (Bl n m g O).1 X=queueL m X++Ua n g X O
 | [],m,_,_=>by simp[Bl,Ua]
 | o::O,m,hX,h=>by
  have e:Ua n g X (o::O)=Qj n g X o++Ua n g X O:=rfl
  rw[e,zI]at h
  have h1:=Af8 n m o g X hX
  have hx:(if (queueL m X).length<64 then Qj n g X o else [])=Qj n g X o:=by
   split
   ·rfl
   ·exact(zQ q_).symm
  rw[hx]at h1
  show queueL (Bl n (goesM n m o g).1 g O).1 X=_
  rw[Ac0 n g X O _ (by rw[(Ac1 n m o g).len];exact hX) (by rw[h1,zI];omega),h1,e,yU]
theorem Aln (n:Net) (g X:Int):∀ (O:List OutM) (m:MacM),X.toNat<m.queues.length→(queueL (Bl n m g O).1 X).length≤(queueL m X).length+(Ua n g X O).length
 | [],m,_=>by simp[Bl,Ua]
 | o::O,m,hX=>by
  have h1:=Af8 n m o g X hX
  have h2:=Aln n g X O (goesM n m o g).1 (by rw[(Ac1 n m o g).len];exact hX)
  have e:Ua n g X (o::O)=Qj n g X o++Ua n g X O:=rfl
  have h3:(queueL (goesM n m o g).1 X).length≤(queueL m X).length+(Qj n g X o).length:=by
   rw[h1,zI]
   split<;>simp
  show (queueL (Bl n (goesM n m o g).1 g O).1 X).length≤_
  rw[e,zI]
  omega
theorem Af6 (n:Net) (g:Int):∀ (O:List OutM) (m:MacM) (o:OutM),o∈O→o.kind=1→⟨o.port,g,o.bytes⟩∈(Bl n m g O).2
 | x::O,m,o,h,hk=>by
  show _∈(goesM n m x g).2++(Bl n (goesM n m x g).1 g O).2
  rcases yB.1 h with rfl | h
  ·refine vT _ ?_
   rw[goesM,zC hk]
   exact zX.2 E
  ·exact uC _ (Af6 n g O _ o h hk)
theorem Atd {n:Net} {m:MacM} {d:Int} {pre:List QueuedM} {q:QueuedM} (hd:Af d m.queues.length=true) (hq:queueL m d=pre++[q]) :
  pickX m d=⟨2,0,d,pre.length,[],[]⟩∧takeM m d pre.length=(Mz m d pre,q,true):=by
 have hl:(queueL m d).length=pre.length+1:=by rw[hq];simp
 refine⟨?_,?_⟩
 ·rw[pickX,zC hd,hl,zA q_]
  congr 1
  omega
 ·have ht:takeT (pre++[q]) pre.length=(q,pre,true):=by
   rw[takeT,zA (by simp;omega)]
   simp only[zR]
   have e1:(pre++[q])[pre.length]? = some q:=by simp
   have e2:(pre++[q]).eraseIdx pre.length=pre:=by rw[List.eraseIdx_append_of_length_le (zZ _)];simp
   rw[e1,e2]
   rfl
  rw[takeM,hd,zA y_,hq,ht]
theorem Afj {n:Net} {m:MacM} {d:Int} {pre:List QueuedM} {q:QueuedM} (hd:Af d m.queues.length=true) (hq:queueL m d=pre++[q]) {t':List EntryM} {O:List OutM}
  (hb:bridgeT n (I4 n m.up) (tableL m d) d q m.now=(t',O,0)):doT n m (pickX m d)=Bl n (D9 (Mz m d pre) d t') q.origin O:=by
 obtain ⟨h1,h2⟩:=Atd (n:=n) hd hq
 rw[h1,doT,zA y_,zC rfl]
 dsimp only
 rw[pickT,h2,zA y_]
 dsimp only
 have hp:Wl n (Mz m d pre) d q=(t',O,0):=hb
 rw[hp,Sf,zA y_,zA y_]
theorem Apx {n:Net} {fw:List Bool} {t:List EntryM} {d x:Int} {dst:Nat} (hr:Jq n fw d x=true) (h:Dh dst=true∨(Dn n d dst<0∧(findE t dst).2=false)):Da n fw t d x dst=(Ch n fw x (Au n d),peersOut n d x,0):=by
 rw[Da,hr,zA y_]
 split
 ·rfl
 rename_i hg
 obtain ⟨h1,h2⟩:=h.resolve_left hg
 rw[zA q_,h2,zA (by rintro ⟨hh,_⟩;cases hh),zA (by rintro ⟨hh,_⟩;cases hh)]
theorem Ap2 {n:Net} {fw:List Bool} {t:List EntryM} {d:Int} {q:QueuedM} {now:Int} (hr:Jq n fw d q.from_=true) (ht:tableB t=true) (hrt:(routerT n d q.frame.dst).2=false)
  (h:Dh q.frame.dst=true∨(Dn n d q.frame.dst<0∧(findE (learnQ t q now) q.frame.dst).2=false)) :
  bridgeT n fw t d q now=(learnQ t q now,(Ch n fw q.from_ (Au n d)).map (Qw n d q.frame)++(peersOut n d q.from_).map (T7 n d q.frame),0):=by
 rw[bridgeT,zA (by rw[hr,ht];decide),hrt,zA y_,Apx hr h]
end Go.Sy.YtljngfegfclkpaaGreat
namespace Go.Sy.YtljngfegfclkpaaGreat
open Go.Proofs
theorem Aqd {n:Net} {irb to e:Int}:∀ {x:Int},(addrGo n irb to e x).2=true→lookT n irb (addrGo n irb to e x).1=(to,true)∧Km n (addrGo n irb to e x).1=false:=by
 intro x
 induction x using addrGo.induct n irb to e with
 | case1 x h1 h2=>intro _;rw[addrGo,zC h1,zC h2];exact⟨Prod.ext h2.2.1 h2.1,h2.2.2⟩
 | case2 x h1 h2 h3=>intro h;rw[addrGo,zC h1,zA h2,zC h3]at h;cases h
 | case3 x h1 h2 h3 h4 ih=>intro h;rw[addrGo,zC h1,zA h2,zA h3,zC h4]at h ⊢;exact ih h
 | case4 x h1 h2 h3 h4=>intro h;rw[addrGo,zC h1,zA h2,zA h3,zA h4]at h;cases h
 | case5 x h1=>intro h;rw[addrGo,zA h1]at h;cases h
theorem Ao0 {n:Net} (hu:Dd n) {d:Int} {q:Lead} (hq:q∈routesT n d):(0≤(nth n.domains d).irb)∧∃ i:Nat,i<n.irbs.length∧q.domain=(nth n.irbs (i:Int)).domain∧lookT n (nth n.domains d).irb q.addr=((i:Int),true)∧Km n q.addr=false∧0≤q.addr∧q.addr<4294967296:=by
 rw[routesT]at hq
 split at hq
 ·rename_i hc
  obtain ⟨i,hi,hl⟩:=xN.1 hq
  rw[leadF]at hl
  split at hl
  ·rename_i ha
   cases hl
   have hin:=Amr hu (nth n.domains d).irb (i:Int)
   rw[xC]at hi
   have h2:=ha
   rw[addrT]at h2
   split at h2
   ·rename_i hc2
    have e:addrT n (nth n.domains d).irb (i:Int)=addrGo n (nth n.domains d).irb (i:Int) (Ky (nth n.irbs (i:Int)).addr (nth n.irbs (i:Int)).bits) (Hv (nth n.irbs (i:Int)).addr (nth n.irbs (i:Int)).bits):=by rw[addrT,zC hc2]
    obtain ⟨a,b⟩:=Aqd h2
    dsimp only
    rw[← e]at a b
    exact⟨hc.2.1,i,hi,E,a,b,hin⟩
   ·cases h2
  ·cases hl
 ·cases hq
theorem Avv {n:Net} {a:Int} (h:Km n a=false) {i:Int} (hi:0≤i∧i.toNat<n.irbs.length):(nth n.irbs i).addr≠a:=by
 have h1:Bg (λ x:Irb=>x.addr == a) n.irbs<0:=qB h
 have:=Aiy h1 _ (Hp hi.2)
 simpa using this
theorem Ac6 {α β:Type} {f:α→List β}:∀ {L:List α},L.Nodup→(∀ x∈L,(f x).length≤1)→(∀ x∈L,∀ y∈L,f x≠[]→f y≠[]→x=y)→(L.flatMap f).length≤1
 | [],_,_,_=>xP _
 | x::L,hn,h1,h2=>by
  rw[wY,zI]
  have ih:=Ac6 (L:=L) (List.nodup_cons.1 hn).2 (λ y hy=>h1 y (by simp[hy])) (λ y hy z hz=>h2 y (by simp[hy]) z (by simp[hz]))
  by_cases c:f x=[]
  ·rw[c,xA];omega
  ·have:L.flatMap f=[]:=by
    rw[tR]
    intro y hy
    exact Classical.byContradiction λ hh=>(List.nodup_cons.1 hn).1 (by rw[h2 x y_ y (by simp[hy]) c hh];exact hy)
   rw[this,xA]
   exact h1 x y_
structure GoF (f:FrameM):Prop where
 ok:FrameOK f
 typ:f.typ≠33024
 len:f.body.length≤1450
 src:Dh f.src=false
section
variable {n:Net} (B:BuiltK n)
include B
theorem At1 {d p:Int} (hd:InD n d) (hp:p∈At n d) (hl0:0≤(nth n.ports p).link) (hl:(linkDomT n p (nth n.domains d).vlan).2=false) {f:FrameM} (hf:GoF f):(linkT n p (leaveT n p d f).1).2.2.2≠0:=by
 have hr:=B.right
 have hb:=hf.len
 rw[Vl hr hd hp hf.typ q_]
 dsimp only
 obtain ⟨hp0,hp1,hp2⟩:=(Cs hr hd).1 hp
 have ho:0≤Ay n p:=by
  have h2:=Ee hr hp0.2 (by rw[← Ae hp0.2];exact hl0)
  have hlk:=hr
  simp only[Ab,zB]at hlk
  have h3:=allB_iff.1 hlk.1.1.1.1.2 _ h2.1
  rw[Ay,zC ⟨⟨hp0.1,by omega⟩,hl0,hr⟩,Ae hp0.2,Ae h2.1]
  simp only[Kx,Af,zB,zG]at h3
  split
  ·exact h3.1.1.1.2.1
  ·exact h3.1.1.1.1.1
 have hcr:C9 n p (nth n.domains d).vlan=0:=Classical.byContradiction λ hh=>by
  have hx:crossT n p (nth n.domains d).vlan=(Ay n p,C9 n p (nth n.domains d).vlan,true):=zC ⟨ho,hp2,hh⟩
  rw[linkDomT,hx,zC rfl]at hl
  cases hl
 have hot:=Dx ho
 have hvl:=(Ev hr hd.2).2.1
 rw[← Ae hd.2]at hvl
 have hpl:Af (Ay n p) n.ports.length=true:=by rw[Af,zL ho,zL q_];rfl
 rw[linkT,zA q_]
 dsimp only
 rw[C9]at hcr
 by_cases c:(nth n.domains d).vlan=(nth n.ports p).native
 ·rw[zC c]at hcr ⊢
  rw[enterT,zA (by rw[hpl,hr];decide),J7 hf.ok]
  dsimp only
  rw[zA y_,zA hf.typ,Ip,hf.src,zA y_]
  have hv:vlanT (nth n.ports (Ay n p)) false 0=((nth n.ports (Ay n p)).native,false):=by rw[vlanT,zC (.inl rfl),zJ (λ hh=>hh hcr)]
  rw[hv,zC rfl]
  decide
 ·rw[zA c]at hcr ⊢
  obtain ⟨s1,s2,s3⟩:=Afb (v:=(nth n.domains d).vlan) hf.ok hf.typ q_ ⟨by omega,hvl.2⟩
  rw[enterT,zA (by rw[hpl,hr];decide),J7 s1]
  dsimp only
  rw[zA y_,zC s2,s3]
  dsimp only
  rw[zA y_,Ip,hf.src,zA y_]
  have hin:inB (nth n.ports (Ay n p)).tagged (nth n.domains d).vlan=false:=by
   cases hh:inB (nth n.ports (Ay n p)).tagged (nth n.domains d).vlan
   ·rfl
   ·rw[hh,zC rfl]at hcr;omega
  have hv:vlanT (nth n.ports (Ay n p)) true (nth n.domains d).vlan=(0,false):=by rw[vlanT,zA (by rintro (hh | hh);cases hh;omega),hin];rfl
  rw[hv,zC rfl]
  decide
theorem Me {d:Int} (hd:InD n d):Au n d=At n d:=by rw[At,zC ⟨⟨hd.1,by have:=hd.2;omega⟩,B.right⟩]
theorem Ahn {d p:Int} (hd:InD n d) (hp:p∈At n d) {f:FrameM} (hf:GoF f):Qw n d f p=⟨if (nth n.ports p).link<0 then 1 else 2,p,0,(leaveT n p d f).1,noF,0⟩:=by
 have hb:=hf.len
 rw[Qw,Sl,zA]
 rw[Vl B.right hd hp hf.typ q_]
 exact λ hh=>hh E
theorem Az2 {d k:Int} (hd:InD n d) (hk:k∈(nth n.domains d).peers) {f:FrameM} (hf:GoF f):T7 n d f k=⟨3,0,k,(meshT n d k f).1,noF,0⟩:=by
 rw[T7,Sl,zA]
 intro hh
 exact hh (Afn B hd hk hf.ok hf.typ hf.len hf.src).1
theorem X0 {d p X g:Int} (hd:InD n d) (hX:InD n X) (hp:p∈At n d) {f:FrameM} (hf:GoF f) :
  Qj n g X (Qw n d f p)=if linkDomT n p (nth n.domains d).vlan=(X,true) then [⟨Ay n p,0,g,f⟩] else []:=by
 have hb:=hf.len
 rw[Ahn B hd hp hf,Qj]
 by_cases hl:(nth n.ports p).link<0
 ·rw[zC (by rw[zC hl]),zA]
  intro e
  have h2:(crossT n p (nth n.domains d).vlan).2.2=true:=by
   cases hcc:(crossT n p (nth n.domains d).vlan).2.2
   ·rw[linkDomT,zA (by rw[hcc];decide)]at e;cases e
   ·rfl
  rw[crossT]at h2
  split at h2
  ·rename_i hc
   have:=(Hn hc.1).2.1
   omega
  ·cases h2
 ·rw[zA (by rw[zA hl];simp),zC (by rw[zA hl])]
  dsimp only
  cases hc:(linkDomT n p (nth n.domains d).vlan).2 with
  | false =>
   rw[zA (λ hh=>At1 B hd hp q_ hc hf hh.1),zA (λ hh=>by rw[hh]at hc;cases hc)]
  | true =>
   have e:linkDomT n p (nth n.domains d).vlan=((linkDomT n p (nth n.domains d).vlan).1,true):=Prod.ext rfl hc
   have hin:=Ke hc
   rw[At2 B hd hp e hf.ok hf.typ q_ hf.src]
   dsimp only
   by_cases c:(linkDomT n p (nth n.domains d).vlan).1=X
   ·rw[zC ⟨rfl,by rw[c]⟩,zC (by rw[e,c])]
   ·rw[zA (λ hh=>c (by have:=hh.2;have:=hX.1;omega)),zA (λ hh=>c (by rw[hh]))]
theorem X1 {d k X g:Int} (hd:InD n d) (hX:InD n X) (hk:k∈(nth n.domains d).peers) {f:FrameM} (hf:GoF f):Qj n g X (T7 n d f k)=if k=X then [⟨-1,d,g,f⟩] else []:=by
 have hkd:=(M6 B.right hd hk).1
 rw[Az2 B hd hk hf,Qj,zA (by dsimp only;decide),zA (by dsimp only;decide),zC rfl]
 dsimp only
 rw[(Afn B hd hk hf.ok hf.typ hf.len hf.src).2]
 dsimp only
 by_cases c:k=X
 ·rw[zC ⟨rfl,by rw[c]⟩,zC c]
 ·rw[zA (λ hh=>c (by have:=hh.2;have:=hX.1;have:=hkd.1;omega)),zA c]
theorem Akg {d:Int} (hd:InD n d):(nth n.domains d).peers.Nodup:=by
 have h:=B.right
 simp only[Ab,zB]at h
 have h1:=allB_iff.1 h.1.1.1.1.1.1.2 _ hd.2
 rw[← Ae hd.2]at h1
 rw[Lp,allB_iff]at h1
 rw[wS,wA]
 intro i j hi hj hij e
 have a:=h1 i hi
 have b:=h1 j hj
 simp only[zB,yA]at a b
 rw[e]at a
 omega
theorem Aej (d:Int):(Au n d).Nodup:=by
 rw[Au,Kz]
 rw[wS,List.pairwise_map]
 exact(wS.1 (List.nodup_range.filter _)).imp λ h e=>h (Int.ofNat.inj e)
theorem Ac5 {fw:List Bool} {up:List Bool} (hup:okB n up=true) (hfw:fw=Y4 n up) {d x X g:Int} (hd:InD n d) (hX:InD n X) {f:FrameM} (hf:GoF f) :
  ∃ A C:List QueuedM,Ua n g X ((Ch n fw x (Au n d)).map (Qw n d f)++(peersOut n d x).map (T7 n d f))=A++C∧A.length≤1∧C.length≤1 ∧
   (∀ a∈A,∃ p∈At n d,linkDomT n p (nth n.domains d).vlan=(X,true)∧a=⟨Ay n p,0,g,f⟩)∧(∀ c∈C,X∈(nth n.domains d).peers∧c=⟨-1,d,g,f⟩) ∧
   (∀ p∈At n d,p≠x→usableB n fw p=true→linkDomT n p (nth n.domains d).vlan=(X,true)→A≠[])∧(x≠-1→X∈(nth n.domains d).peers→C≠[]):=by
 have hmem:∀ p,p∈Ch n fw x (Au n d)→p∈At n d∧usableB n fw p=true:=by
  intro p hp
  rw[Ch,vW]at hp
  refine⟨by rw[← Me B hd];exact hp.1,?_⟩
  have:=hp.2
  simp only[yK,xU,wC]at this
  exact this.2
 have hpe:∀ k,k∈peersOut n d x→k∈(nth n.domains d).peers:=by
  intro k hk
  rw[peersOut]at hk
  split at hk
  ·cases hk
  ·exact hk
 refine⟨(Ch n fw x (Au n d)).flatMap λ p=>Qj n g X (Qw n d f p),(peersOut n d x).flatMap λ k=>Qj n g X (T7 n d f k),?_,?_,?_,?_,?_,?_,?_⟩
 ·rw[Ua,List.flatMap_append,List.flatMap_map,List.flatMap_map]
 ·refine Ac6 ((Aej B d).filter _) (λ p _=>Aix ..) λ p hp q hq h1 h2=>?_
  obtain ⟨p1,p2⟩:=hmem p hp
  obtain ⟨q1,q2⟩:=hmem q hq
  rw[X0 B hd hX p1 hf]at h1
  rw[X0 B hd hX q1 hf]at h2
  have e1:linkDomT n p (nth n.domains d).vlan=(X,true):=Classical.byContradiction λ hh=>h1 (zA hh)
  have e2:linkDomT n q (nth n.domains d).vlan=(X,true):=Classical.byContradiction λ hh=>h2 (zA hh)
  obtain ⟨_,b1,_⟩:=Oc B.right hd p1 e1
  obtain ⟨_,b2,_⟩:=Oc B.right hd q1 e2
  have m1:=(Cs B.right hX).1 b1
  have m2:=(Cs B.right hX).1 b2
  have n1:=(Cs B.right hd).1 p1
  have n2:=(Cs B.right hd).1 q1
  have l1:=(Hn m1.1.1).2.1
  have l2:=(Hn m2.1.1).2.1
  have u:∀ {z:Int},usableB n fw z=true→0≤(nth n.ports z).link→((Y4 n up)[(nth n.ports z).link.toNat]?).getD false=true:=by
   intro z hz hl
   rw[usableB,zJ q_,vF,hfw]at hz
   exact hz
  exact A0t hup m1.1.1 m2.1.1 (u p2 l1) (u q2 l2) (by rw[n1.2.1,n2.2.1]) (by rw[m1.2.1,m2.2.1])
 ·refine Ac6 ?_ (λ p _=>Aix ..) λ p hp q hq h1 h2=>?_
  ·rw[peersOut]
   split
   ·exact List.nodup_nil
   ·exact Akg B hd
  ·rw[X1 B hd hX (hpe p hp) hf]at h1
   rw[X1 B hd hX (hpe q hq) hf]at h2
   have e1:p=X:=Classical.byContradiction λ hh=>h1 (zA hh)
   have e2:q=X:=Classical.byContradiction λ hh=>h2 (zA hh)
   rw[e1,e2]
 ·intro a ha
  obtain ⟨p,hp,h⟩:=List.mem_flatMap.1 ha
  have p1:=(hmem p hp).1
  rw[X0 B hd hX p1 hf]at h
  split at h
  ·rename_i e
   exact⟨p,p1,e,zX.1 h⟩
  ·cases h
 ·intro c hc
  obtain ⟨k,hk,h⟩:=List.mem_flatMap.1 hc
  rw[X1 B hd hX (hpe k hk) hf]at h
  split at h
  ·rename_i e
   subst e
   exact⟨hpe _ hk,zX.1 h⟩
  ·cases h
 ·intro p hp hpx hu hl h
  have hin:p∈Ch n fw x (Au n d):=by
   rw[Ch,vW,Me B hd]
   refine⟨hp,?_⟩
   rw[hu,zJ hpx]
   rfl
  rw[tR]at h
  have:=h p hin
  rw[X0 B hd hX hp hf,zC hl]at this
  cases this
 ·intro hx hk h
  have hin:X∈peersOut n d x:=by rw[peersOut,zA hx];exact hk
  rw[tR]at h
  have:=h X hin
  rw[X1 B hd hX hk hf,zC rfl]at this
  cases this
end
end Go.Sy.YtljngfegfclkpaaGreat
namespace Go.Sy.YtljngfegfclkpaaGreat
open Go.Proofs
theorem Alh {a:Int} (h:0≤a∧a<4294967296):Jf ((hostN a:Nat):Int)=true:=by
 rw[Jf,hostN]
 exact zL q_
theorem Acv {a b:Int} (ha:0≤a) (hb:0≤b) (h:hostN a=hostN b):a=b:=by
 rw[hostN,hostN]at h
 omega
theorem Ah3 {a:Int} (h:0≤a∧a<4294967296):hostN a<281474976710656:=by
 rw[hostN]
 omega
theorem Zz {a:Int} (h:0≤a∧a<4294967296):hostN a≠J2:=by
 rw[hostN,J2]
 omega
theorem Ao7 {a:Int} (h:0≤a∧a<4294967296):Dh (hostN a)=false:=by
 rw[Dh,hostN]
 exact zJ q_
section
variable {n:Net} {p:Int} {l:List Hop} {st:Nat→Int × Int} {r:Nat}
def Iu (l:List Hop) (r:Nat):Int:=(nth l (r:Int)).addr
def Kw (n:Net) (st:Nat→Int × Int) (r:Nat):Int:=(nth n.domains (st (r-1)).1).irb
def rTo (n:Net) (l:List Hop) (st:Nat→Int × Int) (r:Nat):Int:=(lookT n (Kw n st r) (Iu l r)).1
def Azw (n:Net) (l:List Hop) (st:Nat→Int × Int) (r:Nat):Int:=(nth n.irbs (rTo n l st r)).addr
def Ct (n:Net) (l:List Hop) (st:Nat→Int × Int) (r k:Nat):FrameM :=
 if k<r then frameW n l else ⟨hostN (Iu l r),hostN (Azw n l st r),2048,E7 (Ah4 (K0 (Iu l r).toNat))⟩
structure RouteK (n:Net) (l:List Hop) (st:Nat→Int × Int) (r:Nat):Prop where
 from_:0≤Kw n st r∧(Kw n st r).toNat<n.irbs.length
 to:0≤rTo n l st r∧(rTo n l st r).toNat<n.irbs.length
 dom:(nth n.irbs (rTo n l st r)).domain=(st r).1
 look:(lookT n (Kw n st r) (Iu l r)).2=true
 free:∀ i:Int,0≤i∧i.toNat<n.irbs.length→(nth n.irbs i).addr≠Iu l r
 addr:0≤Iu l r∧Iu l r<4294967296
theorem Oi {d:Int} (hr:Ab n=true) (hd:InD n d) (h:0≤(nth n.domains d).irb):(nth n.domains d).irb.toNat<n.irbs.length∧(nth n.irbs (nth n.domains d).irb).domain=d:=by
 have:=(bareB_iff.1 (Aro hr hd.2)).2.2.2.1
 rw[← Ae hd.2]at this
 rcases this with h1 | ⟨h1,h2⟩
 ·omega
 ·rw[Af,zB,zG,zG]at h1
  refine⟨by omega,?_⟩
  rw[h2]
  exact yQ hd.1
theorem WayS.led (W:WayS n p l st r) (B:BuiltK n) (hp:0≤p∧p.toNat<n.ports.length) (h:r<l.length):RouteK n l st r:=by
 have hr1:=W.pos.1
 obtain ⟨q,hq,e⟩:=W.lead (r-1) q_ q_
 rw[show r-1+1=r by omega]at e
 obtain ⟨h0,i,hi,e1,e2,e3,e4⟩:=Ao0 B.num.addr hq
 have ea:Iu l r=q.addr:=by rw[Iu,e]
 have et:rTo n l st r=(i:Int):=by rw[rTo,ea,Kw,e2]
 have hd:=W.ind B.right hp (i:=r-1) q_
 have hir:=Oi B.right hd h0
 have hdm:=W.dom r h
 rw[e]at hdm
 refine⟨⟨h0,hir.1⟩,by rw[et];exact⟨Int.natCast_nonneg i,by simpa using hi⟩,by rw[et,← e1];exact hdm,by rw[ea,Kw,e2],λ j hj=>by rw[ea];exact Avv e3 hj,by rw[ea];exact e4⟩
variable (W:WayS n p l st r) (B:BuiltK n) (hp:0≤p∧p.toNat<n.ports.length)
include W B hp
theorem Tz:frameW n l=if r<l.length then ⟨hostN (nth n.irbs (Kw n st r)).addr,J2,2048,E7 (K0 (Iu l r).toNat)⟩ else ⟨281474976710655,J2,34997,[]⟩:=by
 have hr1:=W.pos.1
 rw[frameW,W.route]
 by_cases h:r<l.length
 ·have e:((r:Int)-1)=((r-1:Nat):Int):=by omega
  rw[zC h,zC h,zC q_,irbOf,W.route,zC h,e,W.dom (r-1) q_,ipPutT,zA (by show ¬ 1480<0;decide)]
  rfl
 ·rw[zA h,zA h,zA y_]
theorem Ab0 (h:r<l.length):0≤(nth n.irbs (Kw n st r)).addr∧(nth n.irbs (Kw n st r)).addr<4294967296:=B.num.addr _ (Hp (W.led B hp h).from_.2)
theorem Afh (h:r<l.length):0≤Azw n l st r∧Azw n l st r<4294967296:=B.num.addr _ (Hp (W.led B hp h).to.2)
theorem Xg {k:Nat} (hk:k<l.length):GoF (Ct n l st r k):=by
 rw[Ct]
 split
 ·rw[Tz W B hp]
  split
  ·rename_i h
   have ha:=Ab0 W B hp h
   have hb:(E7 (K0 (Iu l r).toNat)).length=20:=by rw[Hs];rfl
   exact⟨⟨Ah3 ha,by show 2203318222849<281474976710656;decide,by dsimp only;decide,by dsimp only;omega⟩,by dsimp only;decide,by dsimp only;omega,by show Dh 2203318222849=false;decide⟩
  ·exact⟨⟨by show 281474976710655<281474976710656;decide,by show 2203318222849<281474976710656;decide,by dsimp only;decide,by dsimp only;decide⟩,by dsimp only;decide,by dsimp only;decide,by show Dh 2203318222849=false;decide⟩
 ·have h:r<l.length:=by omega
  have ha:=(W.led B hp h).addr
  have hs:=Afh W B hp h
  have hb:(E7 (Ah4 (K0 (Iu l r).toNat))).length=20:=by rw[Hs];rfl
  exact⟨⟨Ah3 ha,Ah3 hs,by dsimp only;decide,by dsimp only;omega⟩,by dsimp only;decide,by dsimp only;omega,Ao7 hs⟩
def Aaz (n:Net) (l:List Hop) (st:Nat→Int × Int) (r k:Nat) (m:Nat):Prop:=m=J2∨(r≤k∧m=hostN (Azw n l st r))
theorem Zg {d a:Int} (ha:0≤a∧a<4294967296):Dn n d (hostN a)<0:=by
 refine Int.not_le.1 λ h=>?_
 obtain ⟨h1,h2⟩:=Ah2 (p:=λ s:Static=>decide (s.domain=d) && decide (s.mac=((hostN a:Nat):Int))) rfl h
 simp only[zB,zG]at h2
 have h3:=B.wit.st _ (zE h1)
 rw[h2.2,Alh ha]at h3
 cases h3
theorem Alt (S:Ql n p l st) {k:Nat} (hk:k<l.length) (hkr:k+1≠r∨l.length≤r) {fw:List Bool} {t:List EntryM} {q:QueuedM} (hq:q.frame=Ct n l st r k) (hroom:Jq n fw (st k).1 q.from_=true) (ht:tableB t=true) (hm:∀ e∈t,Aaz n l st r k e.mac) :
  (tableB (learnQ t q 0)=true∧∀ e∈learnQ t q 0,Aaz n l st r k e.mac) ∧
  bridgeT n fw t (st k).1 q 0=(learnQ t q 0,(Ch n fw q.from_ (Au n (st k).1)).map (Qw n (st k).1 (Ct n l st r k))++(peersOut n (st k).1 q.from_).map (T7 n (st k).1 (Ct n l st r k)),0):=by
 have hd:=W.ind B.right hp hk
 have hsrc:Aaz n l st r k q.frame.src:=by
  rw[hq,Ct]
  split
  ·rw[Tz W B hp]
   split<;>exact .inl rfl
  ·exact .inr ⟨by omega,E⟩
 have hl:tableB (learnQ t q 0)=true∧∀ e∈learnQ t q 0,Aaz n l st r k e.mac:=by
  rw[learnQ]
  split
  ·exact⟨ht,hm⟩
  ·exact Ak8 ht hm hsrc
 refine⟨hl,?_⟩
 have key:(routerT n (st k).1 q.frame.dst).2=false∧(Dh q.frame.dst=true∨(Dn n (st k).1 q.frame.dst<0∧(findE (learnQ t q 0) q.frame.dst).2=false)):=by
  have none_of:∀ {m:Nat},¬ Aaz n l st r k m→(findE (learnQ t q 0) m).2=false:=by
   intro m hh
   cases hf:(findE (learnQ t q 0) m).2
   ·rfl
   ·obtain ⟨i,hi,_,h2⟩:=Auo hl.1 hf
    exact zW ((h2 i hi).2 E ▸ hl.2 _ (zE hi)) hh
  have router_no:∀ {m:Nat},(∀ _:0≤(nth n.domains (st k).1).irb,hostN (nth n.irbs (nth n.domains (st k).1).irb).addr≠m)→(routerT n (st k).1 m).2=false:=by
   intro m hh
   rw[routerT]
   split
   ·rfl
   split
   ·rfl
   rename_i hc
   exact zW (.inr (hh (Int.not_lt.1 λ hx=>hc (.inl hx)))) hc
  rw[hq,Ct]
  by_cases c:k<r
  ·rw[zC c,Tz W B hp]
   by_cases h:r<l.length
   ·have R:=W.led B hp h
    have ha:=Ab0 W B hp h
    rw[zC h]
    dsimp only
    refine⟨router_no λ h0=>?_,.inr ⟨Zg W B hp ha,none_of ?_⟩⟩
    ·intro e
     have h1:=Oi B.right hd h0
     have hd2:=W.ind B.right hp (i:=r-1) (by have:=W.pos;omega)
     have h2:=Oi B.right hd2 R.from_.1
     have e2:=ir_one B ⟨h0,h1.1⟩ R.from_ (Acv (B.num.addr _ (Hp h1.1)).1 ha.1 e)
     have e3:(st k).1=(st (r-1)).1:=by
      rw[← h1.2,← h2.2,e2];rfl
     have k1:=W.kd k hk
     have k2:=W.kd (r-1) q_
     rw[zC c]at k1
     rw[zC (by have:=W.pos;omega)]at k2
     have:=W.diff S hk q_ (Prod.ext e3 (k1.trans k2.symm))
     have:=W.pos
     omega
    ·rintro (hh | ⟨hh,_⟩)
     ·exact Zz ha hh
     ·omega
   ·rw[zA h]
    dsimp only
    refine⟨router_no λ h0=>?_,.inl j_⟩
    have h1:=Oi B.right hd h0
    have:=B.num.addr _ (Hp h1.1)
    rw[hostN]
    omega
  ·have h:r<l.length:=by omega
   have R:=W.led B hp h
   rw[zA c]
   dsimp only
   refine⟨router_no λ h0 e=>?_,.inr ⟨Zg W B hp R.addr,none_of ?_⟩⟩
   ·have h1:=Oi B.right hd h0
    exact R.free _ ⟨h0,h1.1⟩ (Acv (B.num.addr _ (Hp h1.1)).1 R.addr.1 e)
   ·rintro (hh | ⟨_,hh⟩)
    ·exact Zz R.addr hh
    ·exact R.free _ R.to (Acv (Afh W B hp h).1 R.addr.1 hh.symm)
 rw[Ap2 hroom ht key.1 key.2,hq]
theorem Awe {k:Nat} (hk:k+1<l.length) (hkr:k+1=r) {fw:List Bool} {t:List EntryM} {q:QueuedM} (hq:q.frame=Ct n l st r k) (hroom:Jq n fw (st k).1 q.from_=true) (ht:tableB t=true) (hm:∀ e∈t,Aaz n l st r k e.mac) :
  (tableB (learnQ t q 0)=true∧∀ e∈learnQ t q 0,Aaz n l st r k e.mac)∧bridgeT n fw t (st k).1 q 0=(learnQ t q 0,[⟨4,0,(st (k+1)).1,[],Ct n l st r (k+1),0⟩],0):=by
 have h:r<l.length:=by omega
 have R:=W.led B hp h
 have hd:=W.ind B.right hp (i:=k) q_
 have ek:r-1=k:=by omega
 have hF:Ct n l st r k=⟨hostN (nth n.irbs (Kw n st r)).addr,J2,2048,E7 (K0 (Iu l r).toNat)⟩:=by rw[Ct,zC q_,Tz W B hp,zC h]
 have hl:tableB (learnQ t q 0)=true∧∀ e∈learnQ t q 0,Aaz n l st r k e.mac:=by
  rw[learnQ]
  split
  ·exact⟨ht,hm⟩
  ·exact Ak8 ht hm (by rw[hq,hF];exact .inl E)
 refine⟨hl,?_⟩
 have hrt:routerT n (st k).1 q.frame.dst=(Kw n st r,true):=by
  rw[hq,hF,routerT,zA (by rw[Iz hd,B.right];decide),Kw,ek,zA]
  rintro (hh | hh)
  ·have:=R.from_.1
   rw[Kw,ek]at this
   omega
  ·exact hh E
 have ha:(((Iu l r).toNat:Nat):Int)=Iu l r:=yQ R.addr.1
 have hip:ipTakeT (E7 (K0 (Iu l r).toNat))=(K0 (Iu l r).toNat,0):=Are ⟨xP _,xP _,by show 64≤255;decide,by show 17≤255;decide,by show 1<4294967296;decide,by have:=R.addr;show (Iu l r).toNat<4294967296;omega⟩ (by show 0≤1480;decide)
 have hhop:hopT n (Kw n st r) q.frame=((st (k+1)).1,Ct n l st r (k+1),0):=by
  have hpl:Af (Kw n st r) n.irbs.length=true:=by rw[Af,zL R.from_.1,zL (by have:=R.from_.2;omega)];rfl
  have ed:(K0 (Iu l r).toNat).dst=(Iu l r).toNat:=rfl
  rw[hq,hF,hopT,zA (by rw[hpl,B.right];decide),zA (by dsimp only;decide)]
  dsimp only
  rw[hip]
  dsimp only
  rw[zA y_,zA (by show ¬ 64≤1;decide),ed,ha,zA (by rw[R.look];decide),zA (by show ¬ 1480<0;decide),Ct,zA q_,hkr]
  show ((nth n.irbs (rTo n l st r)).domain,_,_)=_
  rw[R.dom]
  rfl
 rw[bridgeT,zA (by rw[hroom,ht];decide),hrt,zC rfl,hhop,zA y_]
end
end Go.Sy.YtljngfegfclkpaaGreat
namespace Go.Sy.YtljngfegfclkpaaGreat
open Go.Proofs
theorem Aa0 {n:Net} {z v e:Int} (h:linkDomT n z v=(e,true)):0≤Ay n z:=by
 have h2:(crossT n z v).2.2=true:=by
  cases hcc:(crossT n z v).2.2
  ·rw[linkDomT,zA (by rw[hcc];decide)]at h;cases h
  ·rfl
 rw[crossT]at h2
 split at h2
 ·rename_i hc;exact hc.1
 ·cases h2
def Adj (n:Net) (d X:Int):Prop:=∃ h∈C8 n d,h.domain=X
def CntP (n:Net) (st:Nat→Int × Int) (κ X:Int) (k c:Nat):Prop:=c=0∨∃ i,i<k∧(st i).2=κ∧Adj n (st i).1 X∧c+i≤k∧c≤3
theorem CntP.le {n:Net} {st:Nat→Int × Int} {κ X:Int} {k c:Nat} (h:CntP n st κ X k c):c≤3:=by
 rcases h with h | ⟨_,_,_,_,_,h⟩<;>omega
theorem CntP.succ {n:Net} {st:Nat→Int × Int} {κ X:Int} {k c:Nat} (h:CntP n st κ X k c):CntP n st κ X (k+1) c:=by
 rcases h with h | ⟨i,h1,h2,h3,h4,h5⟩
 ·exact .inl h
 ·exact .inr ⟨i,by omega,h2,h3,by omega,h5⟩
def Ad6 (n:Net) (p:Int) (st:Nat→Int × Int) (r k:Nat) (x:Int):Prop :=
 (k=0∧x=p)∨(k=r∧x=-2)∨(1≤k∧k≠r∧((x=-1∧(st k).1∈(nth n.domains (st (k-1)).1).peers)∨∃ z∈At n (st (k-1)).1,linkDomT n z (nth n.domains (st (k-1)).1).vlan=((st k).1,true)∧x=Ay n z))
structure InvK (n:Net) (p:Int) (l:List Hop) (st:Nat→Int × Int) (r k:Nat) (m:MacM):Prop where
 len:m.queues.length=n.domains.length
 up:okB n m.up=true
 now:m.now=0
 tabs:∀ X,tableB (tableL m X)=true∧∀ e∈tableL m X,Aaz n l st r k e.mac
 last:∃ pre q,queueL m (st k).1=pre++[q]∧q.frame=Ct n l st r k∧q.origin=1∧Ad6 n p st r k q.from_
 few:∀ X,InD n X→∃ c0 c1,(queueL m X).length≤2 * c0+2 * c1+(if k<r then 1 else 2)∧CntP n st 0 X k c0∧CntP n st 1 X k c1
theorem Ajl (m:MacM) (d X:Int) (t:List EntryM):tableL (D9 m d t) X=if d.toNat=X.toNat∧X.toNat<m.tables.length then t else tableL m X:=by
 rw[tableL,D9]
 dsimp only
 rw[uF]
 split
 ·rename_i h
  rw[h]
  split
  ·rename_i h2;rw[zC ⟨rfl,h2⟩];rfl
  ·rename_i h2
   rw[zA (λ hh=>h2 hh.2),tableL,wD q_]
 ·rename_i h
  rw[zA (λ hh=>h hh.1)]
  rfl
section
variable {n:Net} {p:Int} {l:List Hop} {st:Nat→Int × Int} {r:Nat} (W:WayS n p l st r) (B:BuiltK n) (hp:0≤p∧p.toNat<n.ports.length) (S:Ql n p l st)
include W B hp
theorem Ag1:p∈At n (st 0).1:=by
 have hd:=W.ind B.right hp (i:=0) (by have:=W.pos;omega)
 obtain ⟨v,hv,v0,e⟩:=W.start.1
 have e1:(st 0).1=Cq n (nth n.ports p).dev v:=by rw[e];dsimp only;rw[Bt,zC B.right]
 have hdo:=Adl (n:=n) (dev:=(nth n.ports p).dev) (v:=v) (by rw[← e1];exact hd.1)
 rw[← e1]at hdo
 refine(Cs B.right hd).2 ⟨hp,hdo.2.1.symm,?_⟩
 rw[hdo.2.2]
 refine memberB_iff.2 ⟨v0,?_⟩
 simpa using hv
theorem Af9 {k:Nat} (hk:k<l.length) {x:Int} (h:Ad6 n p st r k x) {up:List Bool} (hup:okB n up=true):Jq n (I4 n up) (st k).1 x=true:=by
 have hd:=W.ind B.right hp hk
 have hf:(I4 n up).length=n.links.length:=by rw[I4,zC hup,Y4,Aul,yP]
 have hx:x=-1∨x=-2∨x∈At n (st k).1:=by
  rcases h with ⟨h0,rfl⟩ | ⟨_,h⟩ | ⟨_,_,⟨h,_⟩ | ⟨z,hz,e,rfl⟩⟩
  ·rw[h0];exact .inr (.inr (Ag1 W B hp))
  ·exact .inr (.inl h)
  ·exact .inl h
  ·exact .inr (.inr (Oc B.right (W.ind B.right hp (i:=k-1) q_) hz e).2.1)
 rw[Jq,Iz hd,zL hf,B.right]
 rcases hx with h | h | h
 ·rw[zL h];rfl
 ·rw[zL h];simp
 ·rw[Me B hd,inB_iff.2 h];simp
include S
theorem Azs {k:Nat} (hk:k+1<l.length) {m:MacM} (I:InvK n p l st r k m)
  (hb:∀ q,q.frame=Ct n l st r k→Ad6 n p st r k q.from_→∃ t' O,bridgeT n (I4 n m.up) (tableL m (st k).1) (st k).1 q 0=(t',O,0)∧(tableB t'=true∧∀ e∈t',Aaz n l st r k e.mac) ∧
   (∀ X,InD n X→(Ua n 1 X O=[]∨(Ua n 1 X O).length≤2∧Adj n (st k).1 X∧k+1≠r)∨((Ua n 1 X O).length≤1∧k+1=r)) ∧
   ∃ A q',Ua n 1 (st (k+1)).1 O=A++[q']∧q'.frame=Ct n l st r (k+1)∧q'.origin=1∧Ad6 n p st r (k+1) q'.from_) :
  InvK n p l st r (k+1) (doT n m (pickX m (st k).1)).1:=by
 have hd:=W.ind B.right hp (i:=k) q_
 have hd1:=W.ind B.right hp hk
 obtain ⟨pre,q,h1,h2,h3,h4⟩:=I.last
 obtain ⟨t',O,hbr,ht,hA,A,q',g1,g2,g3,g4⟩:=hb q h2 h4
 have hpl:Af (st k).1 m.queues.length=true:=by rw[I.len];exact Iz hd
 have hbr2:bridgeT n (I4 n m.up) (tableL m (st k).1) (st k).1 q m.now=(t',O,0):=by rw[I.now];exact hbr
 have hdo:=Afj hpl h1 hbr2
 rw[h3]at hdo
 rw[hdo]
 have sm:=Af7 n 1 O (D9 (Mz m (st k).1 pre) (st k).1 t')
 have hq0:∀ X,(queueL (D9 (Mz m (st k).1 pre) (st k).1 t') X).length≤(queueL m X).length:=by
  intro X
  have e:queueL (D9 (Mz m (st k).1 pre) (st k).1 t') X=queueL (Mz m (st k).1 pre) X:=rfl
  rw[e,Zr]
  split
  ·rename_i c
   have:queueL m X=pre++[q]:=by rw[← h1,queueL,queueL,c.1]
   rw[this];simp
  ·exact zZ _
 have hlen:(D9 (Mz m (st k).1 pre) (st k).1 t').queues.length=n.domains.length:=by rw[← I.len];exact yE ..
 refine⟨by rw[sm.len,hlen],by rw[sm.up];exact I.up,by rw[sm.now];exact I.now,λ X=>?_,?_,λ X hX=>?_⟩
 ·have e:tableL (Bl n (D9 (Mz m (st k).1 pre) (st k).1 t') 1 O).1 X=tableL (D9 (Mz m (st k).1 pre) (st k).1 t') X:=by rw[tableL,tableL,sm.tables]
  have mono:∀ {z:Nat},Aaz n l st r k z→Aaz n l st r (k+1) z:=λ hz=>hz.imp id λ hh=>⟨by omega,hh.2⟩
  rw[e,Ajl]
  split
  ·exact⟨ht.1,λ e he=>mono (ht.2 e he)⟩
  ·have:=I.tabs X
   exact⟨this.1,λ e he=>mono (this.2 e he)⟩
 ·obtain ⟨c0,c1,f1,f2,f3⟩:=I.few _ hd1
  have l0:=f2.le
  have l1:=f3.le
  have hl:(Ua n 1 (st (k+1)).1 O).length≤2:=by
   rcases hA _ hd1 with (h | h) | h
   ·rw[h];exact xP _
   ·exact h.1
   ·omega
  have:=hq0 (st (k+1)).1
  refine⟨queueL (D9 (Mz m (st k).1 pre) (st k).1 t') (st (k+1)).1++A,q',?_,g2,g3,g4⟩
  rw[Ac0 n 1 _ O _ (by rw[hlen];exact hd1.2) (by split at f1<;>omega),g1,yU]
 ·obtain ⟨c0,c1,f1,f2,f3⟩:=I.few X hX
  have hle:=Aln n 1 X O (D9 (Mz m (st k).1 pre) (st k).1 t') (by rw[hlen];exact hX.2)
  have:=hq0 X
  have hif:(if k<r then 1 else 2)≤(if k+1<r then 1 else 2:Nat):=by split<;>split<;>omega
  rcases hA X hX with (h | ⟨h,adj,hne⟩) | ⟨h,hr⟩
  ·rw[h,xA]at hle
   exact⟨c0,c1,by omega,f2.succ,f3.succ⟩
  ·have cs:∀ {κ:Int} {c:Nat},(st k).2=κ→CntP n st κ X k c→CntP n st κ X (k+1) (c+1):=by
    intro κ c hκ hc
    rcases hc with hc | ⟨i,i1,i2,i3,i4,i5⟩
    ·exact .inr ⟨k,by omega,hκ,adj,by omega,by omega⟩
    ·obtain ⟨g,hg,eg⟩:=i3
     obtain ⟨g',hg',eg'⟩:=adj
     have:=W.window S (i:=i) (j:=k) q_ q_ (i2.trans hκ.symm) hg hg' (eg.trans eg'.symm)
     exact .inr ⟨i,by omega,i2,⟨g,hg,eg⟩,by omega,by omega⟩
   have hk2:=W.kd k q_
   by_cases c:k<r
   ·rw[zC c]at hk2
    exact⟨c0+1,c1,by omega,cs hk2 f2,f3.succ⟩
   ·rw[zA c]at hk2
    exact⟨c0,c1+1,by omega,f2.succ,cs hk2 f3⟩
  ·refine⟨c0,c1,?_,f2.succ,f3.succ⟩
   rw[zC q_]at f1
   rw[zA q_]
   omega
def upK (n:Net) (m:MacM) (h:Hop):MacM:=if h.kind=1 then ⟨upW n h,m.tables,m.queues,m.now,m.injected,m.drops⟩ else m
theorem Azt (hc:Cn n=true) (hlp:(nth n.ports p).link<0) {k:Nat} (hk:k+1<l.length) {m:MacM} (I:InvK n p l st r k m) :
  InvK n p l st r (k+1) (doT n (upK n m (nth l ((k+1:Nat):Int))) (pickX (upK n m (nth l ((k+1:Nat):Int))) (st k).1)).1:=by
 have hd:=W.ind B.right hp (i:=k) q_
 have hd1:=W.ind B.right hp hk
 have hupw:∀ h:Hop,okB n (upW n h)=true:=λ h=>ok_iff.2 ⟨by rw[upW,yE,xM],B.right,hc⟩
 have I1:InvK n p l st r k (upK n m (nth l ((k+1:Nat):Int))):=by
  rw[upK]
  split
  ·exact⟨I.len,hupw _,I.now,I.tabs,I.last,I.few⟩
  ·exact I
 refine Azs W B hp S hk I1 λ q hq hfrom=>?_
 have hroom:=Af9 W B hp q_ hfrom I1.up
 have ht:=I1.tabs (st k).1
 by_cases hkr:k+1=r
 ·obtain ⟨a,b⟩:=Awe W B hp hk hkr hq hroom ht.1 ht.2
  refine⟨_,_,b,a,λ X hX=>.inr ⟨?_,hkr⟩,[],⟨-2,0,1,Ct n l st r (k+1)⟩,?_,E,E,.inr (.inl ⟨hkr,E⟩)⟩
  ·show (Qj n 1 X _++[]).length≤1
   rw[xJ]
   exact Aix ..
  ·show Qj n 1 (st (k+1)).1 _++[]=_
   rw[xJ,Qj,zA (by dsimp only;decide),zA (by dsimp only;decide),zA (by dsimp only;decide),zC rfl,zC rfl]
   rfl
 ·obtain ⟨a,b⟩:=Alt W B hp S q_ (.inl hkr) hq hroom ht.1 ht.2
  have hF:=Xg W B hp (k:=k) q_
  have hfw:I4 n (upK n m (nth l ((k+1:Nat):Int))).up=Y4 n (upK n m (nth l ((k+1:Nat):Int))).up:=by rw[I4,zC I1.up]
  have hF1:Ct n l st r (k+1)=Ct n l st r k:=by
   rw[Ct,Ct]
   by_cases c:k<r
   ·rw[zC c,zC q_]
   ·rw[zA c,zA q_]
  refine⟨_,_,b,a,λ X hX=>.inl ?_,?_⟩
  ·obtain ⟨A,C,e,h1,h2,h3,h4,_,_⟩:=Ac5 B I1.up hfw (x:=q.from_) (X:=X) (g:=1) hd hX hF
   rw[e]
   by_cases c:A++C=[]
   ·exact .inl c
   ·refine .inr ⟨by rw[zI];omega,?_,hkr⟩
    have hdm:U1 n (st k).1:=by rw[U1];exact⟨⟨hd.1,by have:=hd.2;omega⟩,B.right⟩
    by_cases cA:A=[]
    ·have cC:C≠[]:=λ hh=>c (by rw[cA,hh];rfl)
     obtain ⟨x,hx⟩:=List.exists_mem_of_ne_nil _ cC
     refine⟨Jd X,?_,E⟩
     rw[C8,zC hdm]
     exact uC _ (yH.2 ⟨X,(h4 x hx).1,E⟩)
    ·obtain ⟨x,hx⟩:=List.exists_mem_of_ne_nil _ cA
     obtain ⟨z,hz,ez,_⟩:=h3 x hx
     refine⟨⟨1,z,X,0⟩,?_,E⟩
     rw[C8,zC hdm]
     exact vT _ (xN.2 ⟨z,hz,by rw[linkHop,ez,zC E]⟩)
  ·obtain ⟨A,C,e,h1,h2,h3,h4,h5,h6⟩:=Ac5 B I1.up hfw (x:=q.from_) (X:=(st (k+1)).1) (g:=1) hd hd1 hF
   rw[e,hF1]
   have hhop:=W.hop k hk hkr
   have hdom:=W.dom (k+1) hk
   have hsame:(st (k+1)).2=(st k).2:=by
    rw[W.kd (k+1) hk,W.kd k q_]
    by_cases c:k<r
    ·rw[zC c,zC q_]
    ·rw[zA c,zA q_]
   have some:A++C≠[]:=by
    rcases Y0 hhop with ⟨e1,e2,e3⟩ | ⟨e1,e2⟩
    ·rw[hdom]at e3
     refine λ hh=>h5 _ e2 ?_ ?_ e3 (List.append_eq_nil_iff.1 hh).1
     ·intro ex
      rcases hfrom with ⟨h0,hx⟩ | ⟨_,hx⟩ | ⟨hk1,hkr2,⟨hx,_⟩ | ⟨z,hz,ez,hx⟩⟩
      ·have hl1:=(Hn (Aa0 e3)).2.1
       rw[ex,hx]at hl1
       omega
      ·have:=((Cs B.right hd).1 e2).1.1
       omega
      ·have:=((Cs B.right hd).1 e2).1.1
       omega
      ·have hdk:=W.ind B.right hp (i:=k-1) q_
       obtain ⟨_,_,lb⟩:=Oc B.right hdk hz ez
       rw[ex,hx,lb]at e3
       have e4:(st (k-1)).1=(st (k+1)).1:=(Prod.mk.inj e3).1
       have k2:(st (k-1)).2=(st (k+1)).2:=by
        rw[hsame,W.kd (k-1) q_,W.kd k q_]
        by_cases c:k<r
        ·rw[zC c,zC q_]
        ·rw[zA c,zA q_]
       have:=W.diff S (i:=k-1) (j:=k+1) q_ hk (Prod.ext e4 k2)
       omega
     ·rw[usableB,hfw,upK,zC e1]
      have hl1:=Hn (Aa0 e3)
      have:=Az9 n _ hl1.2.2 (hupw _) (nth n.ports (nth l ((k+1:Nat):Int)).port).link.toNat hl1.2.2
      have e9:M8 n.links.length (nth n.ports (nth l ((k+1:Nat):Int)).port).link.toNat=upW n (nth l ((k+1:Nat):Int)):=rfl
      rw[e9]at this
      dsimp only
      rw[this]
      simp
    ·rw[hdom]at e2
     refine λ hh=>h6 ?_ e2 (List.append_eq_nil_iff.1 hh).2
     intro ex
     rcases hfrom with ⟨h0,hx⟩ | ⟨_,hx⟩ | ⟨hk1,hkr2,⟨hx,hm⟩ | ⟨z,hz,ez,hx⟩⟩
     ·omega
     ·omega
     ·have hdk:=W.ind B.right hp (i:=k-1) q_
      have k2:(st (k-1)).2=(st (k+1)).2:=by
       rw[hsame,W.kd (k-1) q_,W.kd k q_]
       by_cases c:k<r
       ·rw[zC c,zC q_]
       ·rw[zA c,zA q_]
      rcases Atg B hdk hm e2 with e4 | e4
      ·have:=W.diff S (i:=k-1) (j:=k+1) q_ hk (Prod.ext e4.symm k2)
       omega
      ·have:=W.ahead S (i:=k-1) (j:=k+1) q_ hk k2 (g:=Jd (st (k+1)).1) (by
        rw[C8,zC (by rw[U1];exact⟨⟨hdk.1,by have:=hdk.2;omega⟩,B.right⟩)]
        exact uC _ (yH.2 ⟨_,e4,E⟩)) E
       omega
     ·have hdk:=W.ind B.right hp (i:=k-1) q_
      have:=(Aa0 ez)
      omega
   have good:∀ x∈A++C,x.frame=Ct n l st r k∧x.origin=1∧Ad6 n p st r (k+1) x.from_:=by
    intro x hx
    rcases yF.1 hx with hx | hx
    ·obtain ⟨z,hz,ez,rfl⟩:=h3 x hx
     exact⟨E,E,.inr (.inr ⟨by omega,hkr,.inr ⟨z,by simpa using hz,by simpa using ez,E⟩⟩)⟩
    ·obtain ⟨c1,rfl⟩:=h4 x hx
     exact⟨E,E,.inr (.inr ⟨by omega,hkr,.inl ⟨E,by simpa using c1⟩⟩)⟩
   have hlast:=uV some
   have:=good _ (List.getLast_mem some)
   exact⟨_,_,hlast.symm,this.1,this.2.1,this.2.2⟩
end
end Go.Sy.YtljngfegfclkpaaGreat
namespace Go.Sy.YtljngfegfclkpaaGreat
open Go.Proofs
section
variable {n:Net} {p:Int} {l:List Hop} {st:Nat→Int × Int} {r:Nat} (W:WayS n p l st r) (B:BuiltK n) (hp:0≤p∧p.toNat<n.ports.length)
include W B hp
theorem Ae2:wayBytes n l=(Jw (frameW n l),0):=by
 have hpos:=W.pos
 have hne:l≠[]:=λ e=>by rw[e]at hpos;simp at hpos;omega
 refine zC ⟨B.right,hne,?_⟩
 rw[allB_iff]
 intro i hi
 have hd:=W.ind B.right hp hi
 have hdm:=W.dom i hi
 rw[← Ahr hi,stepB,hdm,Iz hd,zS,yK,yT]
 by_cases c:i=r
 ·right
  have R:=W.led B hp q_
  have e:((i:Int)-1)=((r-1:Nat):Int):=by omega
  rw[xU,e,W.dom (r-1) q_]
  exact⟨zJ q_,zJ (by have:=R.from_.1;rw[Kw]at this;omega)⟩
 ·left
  refine zJ λ e3=>?_
  cases i with
  | zero=>rw[W.start.2]at e3;cases e3
  | succ i =>
   rcases Y0 (W.hop i hi c) with h1 | h1
   ·rw[h1.1]at e3;cases e3
   ·rw[h1.1]at e3;cases e3
theorem Aly:enterT n p (injectW n p l).bytes=((st 0).1,frameW n l,0):=by
 have hpos:=W.pos
 have hd:=W.ind B.right hp (i:=0) q_
 have hF:=Xg W B hp (k:=0) q_
 rw[Ct,zC q_]at hF
 have hlen:=hF.len
 obtain ⟨v,hv,v0,e⟩:=W.start.1
 have e1:(st 0).1=Cq n (nth n.ports p).dev v:=by rw[e];dsimp only;rw[Bt,zC B.right]
 have hdo:=Adl (n:=n) (dev:=(nth n.ports p).dev) (v:=v) (by rw[← e1];exact hd.1)
 rw[← e1]at hdo
 have e0:=W.dom 0 q_
 have e0:(nth l 0).domain=(st 0).1:=e0
 have hdt:Bt n (nth n.ports p).dev v=(st 0).1:=by rw[Bt,zC B.right,e1]
 have hvl:=(Ev B.right hd.2).2.1
 rw[← Ae hd.2,hdo.2.2]at hvl
 rw[injectW,Ae2 W B hp]
 dsimp only
 rw[e0,hdo.2.2,J7 hF.ok]
 dsimp only
 by_cases c:v=(nth n.ports p).native
 ·rw[zA (λ hh=>hh c),Z7 B.right hp hF.ok hF.typ hF.src (by rw[← c];exact v0),← c,hdt]
 ·have hin:inB (nth n.ports p).tagged v=true:=by
   rcases yB.1 hv with h | h
   ·exact zW h c
   ·exact inB_iff.2 h
  rw[zC c,Xl B.right hp hF.ok hF.typ q_ hF.src hvl hin,hdt]
theorem Axw (hc:Cn n=true) (hlp:(nth n.ports p).link<0):InvK n p l st r 0 (doW n ⟨newT n,false,[]⟩ (injectW n p l)).m:=by
 have hpos:=W.pos
 have hd:=W.ind B.right hp (i:=0) q_
 have hpl:Af p n.ports.length=true:=by rw[Af,zL hp.1,zL (by have:=hp.2;omega)];rfl
 have e:(doW n ⟨newT n,false,[]⟩ (injectW n p l)).m=comeM ⟨(newT n).up,(newT n).tables,(newT n).queues,(newT n).now,(newT n).injected+1,(newT n).drops⟩ (st 0).1 ⟨p,0,(newT n).injected+1,frameW n l⟩ 0:=by
  show (doT n (newT n) (injectW n p l)).1=_
  rw[doT,zC (show (injectW n p l).kind=1 from rfl)]
  show injectT n (newT n) p (injectW n p l).bytes=_
  rw[injectT,zA (by rw[hpl];rintro (hh | hh);cases hh;omega),Aly W B hp]
 rw[e]
 have cs:=T1 ⟨(newT n).up,(newT n).tables,(newT n).queues,(newT n).now,(newT n).injected+1,(newT n).drops⟩ (st 0).1 ⟨p,0,(newT n).injected+1,frameW n l⟩ 0
 have hq:∀ X,queueL ⟨(newT n).up,(newT n).tables,(newT n).queues,(newT n).now,(newT n).injected+1,(newT n).drops⟩ X=[]:=by
  intro X
  show ((List.replicate n.domains.length ([]:List QueuedM))[X.toNat]?).getD []=[]
  rw[tQ]
  split<;>rfl
 have ht:∀ X,tableL (comeM ⟨(newT n).up,(newT n).tables,(newT n).queues,(newT n).now,(newT n).injected+1,(newT n).drops⟩ (st 0).1 ⟨p,0,(newT n).injected+1,frameW n l⟩ 0) X=[]:=by
  intro X
  rw[tableL,cs.tables]
  show ((List.replicate n.domains.length ([]:List EntryM))[X.toNat]?).getD []=[]
  rw[tQ]
  split<;>rfl
 have hlen:(newT n).queues.length=n.domains.length:=xM
 refine⟨by rw[cs.len];exact hlen,by rw[cs.up];exact ok_iff.2 ⟨xM,B.right,hc⟩,cs.now,λ X=>?_,⟨[],⟨p,0,1,frameW n l⟩,?_,?_,E,.inl ⟨E,E⟩⟩,λ X hX=>⟨0,0,?_,.inl E,.inl E⟩⟩
 ·rw[ht]
  exact⟨by decide,λ e he=>by cases he⟩
 ·rw[L2,hq,zC ⟨rfl,rfl,by show _<(newT n).queues.length;rw[hlen];exact hd.2,by decide⟩]
  rfl
 ·rw[Ct,zC q_]
 ·rw[L2,hq]
  have h0:(if 0<r then 1 else 2:Nat)=1:=zC q_
  rw[h0]
  split<;>simp
theorem Ayc (S:Ql n p l st) (hc:Cn n=true) (hlp:(nth n.ports p).link<0):∀ k,k<l.length→InvK n p l st r k (goW n p l k).m
 | 0,_=>Axw W B hp hc hlp
 | k+1,h=>by
  have I:=Ayc S hc hlp k q_
  have e:(linkW n (goW n p l k) (nth l ((k+1:Nat):Int))).m=upK n (goW n p l k).m (nth l ((k+1:Nat):Int)):=by
   rw[linkW,upK]
   split
   ·rw[doW,doT,zA y_,zA y_,zA y_,zA y_,zC rfl,zC (by rw[upW,yE,xM])]
   ·rfl
  have h1:=Azt W B hp S hc hlp h I
  rw[← e]at h1
  show InvK n p l st r (k+1) (Se n (linkW n (goW n p l k) (nth l ((k+1:Nat):Int))) (nth l ((k:Nat):Int)).domain).m
  rw[W.dom k q_]
  exact h1
theorem Ayk (S:Ql n p l st) (hc:Cn n=true) (hlp:(nth n.ports p).link<0) {to:Int} (hto:0≤to∧to.toNat<n.ports.length) (hlt:(nth n.ports to).link<0) (hne:p≠to) (hg:inB (At n (st (l.length-1)).1) to=true) :
  ∃ s∈(doT n (goW n p l (l.length-1)).m (pickX (goW n p l (l.length-1)).m (st (l.length-1)).1)).2,s.port=to∧s.origin=1:=by
 have hpos:=W.pos
 have hk:l.length-1<l.length:=by omega
 have I:=Ayc W B hp S hc hlp _ hk
 have hd:=W.ind B.right hp hk
 obtain ⟨pre,q,h1,h2,h3,h4⟩:=I.last
 have hroom:=Af9 W B hp hk h4 I.up
 have ht:=I.tabs (st (l.length-1)).1
 obtain ⟨_,b⟩:=Alt W B hp S hk q_ h2 hroom ht.1 ht.2
 have hF:=Xg W B hp hk
 have hdo:=Afj (by rw[I.len];exact Iz hd) h1 (by rw[I.now];exact b)
 rw[hdo,h3]
 have hm:=inB_iff.1 hg
 have hx:to≠q.from_:=by
  rcases h4 with ⟨_,h⟩ | ⟨_,h⟩ | ⟨_,_,⟨h,_⟩ | ⟨z,hz,ez,h⟩⟩
  ·rw[h];exact λ e=>hne e.symm
  ·omega
  ·omega
  ·intro e
   have ho:=Aa0 ez
   have:=(Hn (i:=Ay n z) (by rw[Oz ho];exact((Cs B.right (W.ind B.right hp (i:=l.length-1-1) q_)).1 hz).1.1)).2.1
   rw[← h,← e]at this
   omega
 have hin:to∈Ch n (I4 n (goW n p l (l.length-1)).m.up) q.from_ (Au n (st (l.length-1)).1):=by
  rw[Ch,vW,Me B hd]
  refine⟨hm,?_⟩
  rw[usableB,zL hlt,zJ hx]
  rfl
 refine⟨_,Af6 n 1 _ _ (Qw n (st (l.length-1)).1 (Ct n l st r (l.length-1)) to) (vT _ (yH.2 ⟨to,hin,E⟩)) ?_,?_,E⟩
 ·rw[Ahn B hd hm hF]
  exact zC hlt
 ·rw[Ahn B hd hm hF]
end
theorem Yn (n:Net):∀ (L:List StepM) (m:MacM) (x:StepM),Ds n m (L++[x])=((doT n (Ds n m L).1 x).1,(Ds n m L).2++(doT n (Ds n m L).1 x).2)
 | [],m,x=>by simp[Ds]
 | y::L,m,x=>by
  rw[wN,Ds,Yn n L,Ds]
  simp
theorem Apu {n:Net} {s:GoM} (h:(Ds n (newT n) s.out).1=s.m) (x:StepM):(Ds n (newT n) (doW n s x).out).1=(doW n s x).m:=by
 rw[doW,Yn,h]
theorem Apc (n:Net) (p:Int) (l:List Hop):∀ k,(Ds n (newT n) (goW n p l k).out).1=(goW n p l k).m
 | 0=>Apu rfl _
 | k+1=>by
  refine Apu ?_ _
  rw[linkW]
  split
  ·exact Apu (Apc n p l k) _
  ·exact Apc n p l k
theorem Ayb (n:Net) (p:Int) (l:List Hop):∀ k,∃ rest,(goW n p l k).out=injectW n p l::rest∧rest.length≤2 * k∧∀ y∈rest,(y.kind=2∨y.kind=5)∧y.bytes=[]
 | 0=>⟨[],rfl,zZ _,λ y hy=>by cases hy⟩
 | k+1=>by
  obtain ⟨rest,h1,h2,h3⟩:=Ayb n p l k
  have hk:∀ (m:MacM) (d:Int),(pickX m d).kind=2:=λ _ _=>rfl
  show ∃ rest,(Se n (linkW n (goW n p l k) (nth l ((k+1:Nat):Int))) (nth l ((k:Nat):Int)).domain).out=_∧_
  rw[Se,doW,linkW]
  split
  ·refine⟨rest++[⟨5,0,0,0,[],upW n (nth l ((k+1:Nat):Int))⟩]++[_],by rw[doW,h1];rfl,by simp;omega,λ y hy=>?_⟩
   simp only[yF,zX]at hy
   rcases hy with (hy | rfl) | rfl
   ·exact h3 y hy
   ·exact⟨.inr E,E⟩
   ·exact⟨.inl E,E⟩
  ·refine⟨rest++[_],by rw[h1];rfl,by simp;omega,λ y hy=>?_⟩
   rcases yF.1 hy with hy | hy
   ·exact h3 y hy
   ·rw[zX.1 hy];exact⟨.inl rfl,rfl⟩
theorem Ag7 {n:Net} (B:BuiltK n) (hc:Cn n=true) {p to:Int} (h:(wscriptT n p to).2=0) :
  ∃ rest x,(wscriptT n p to).1=injectW n p (wayT n p to).1::rest++[x]∧(rest.length+2≤4 * n.domains.length+2)∧(∀ y∈rest++[x],(y.kind=2∨y.kind=5)∧y.bytes=[]) ∧
   ∃ s∈(doT n (Ds n (newT n) (injectW n p (wayT n p to).1::rest)).1 x).2,s.port=to∧s.origin=1:=by
 rw[wscriptT]at h ⊢
 split at h
 ·rename_i hk
  rw[zC hk]
  split at h
  ·rename_i hw
   rw[zC hw]
   obtain ⟨_,h1,h2,h3,m,x,g1,g2,g3,g4,g5⟩:=(Ae1 (n:=n) (p:=p) (to:=to)).1 hw
   have hf:=Amz B.num.addr hw
   obtain ⟨st,r,W,hx,_⟩:=Aa8 g4
   generalize (wayT n p to).1=l at *
   have hpp:=Jh h1
   have htt:=Jh h2
   simp only[Ji,zB,zG]at h1 h2
   have S:Ql n p l st:=by
    intro k hk2
    rw[← hx]at hk2
    have:=g5 k x hk2 g2
    omega
   rw[hx]at g2
   obtain ⟨rest,o1,o2,o3⟩:=Ayb n p l (l.length-1)
   have hr:=Apc n p l (l.length-1)
   have hd:=W.dom (l.length-1) q_
   have ei:((l.length:Int)-1)=((l.length-1:Nat):Int):=by omega
   obtain ⟨s,s1,s2⟩:=Ayk W B hpp S hc h1.2 htt h2.2 h3 g2
   refine⟨rest,pickX (goW n p l (l.length-1)).m (st (l.length-1)).1,?_,by omega,λ y hy=>?_,s,?_,s2⟩
   ·show (Aut n p l).out=_
    rw[Aut,Se,doW,ei,hd,o1]
   ·rcases yF.1 hy with hy | hy
    ·exact o3 y hy
    ·rw[zX.1 hy];exact⟨.inl rfl,rfl⟩
   ·rw[← o1,hr]
    exact s1
  ·cases h
 ·cases h
end Go.Sy.YtljngfegfclkpaaGreat
namespace Go.Sy
theorem Ax8 {P:Program} {o:Oper} {s:SS} {x y:Operand} {at_:Array TypeId} {k k':IntKind} {m n:Int} (h:o.op=.call ⟨.builtin .max,#[x,y],at_⟩)
  (hx:ev s x=.val (.int k m)) (hy:ev s y=.val (.int k' n)):Good P o s ⟨.val (.int k (if n>m then n else m)),[],[]⟩ :=
 Good.pure λ κ a w _ hr ho=>by
  have h1:=hr x (by simp[h,Op.operands,Call.operands])
  have h2:=hr y (by simp[h,Op.operands,Call.operands])
  rw[hx]at h1
  rw[hy]at h2
  refine⟨.int k (if n>m then n else m),?_,by simp[Rd]⟩
  simp[execOp,h,resolve,invoke,builtin,Builtin.max_,Builtin.max2,h1.val,h2.val]
end Go.Sy
namespace Go.Sy.YtljngfegfclkpaaGreat
open Go.Proofs
attribute [local irreducible] Go.Sy.G Go.Sy.DR
set_option maxRecDepth 100000
set_option maxHeartbeats 4000000
theorem Hu {f:List Int} (hf:Di f) {i:Int} (h0:0≤i) (hi:i.toNat<f.length):0≤nth f i∧nth f i≤i:=by
 rw[Ae hi]
 have:=hf i.toNat hi
 omega
theorem Lz {f:List Int} (hf:Di f) {i:Nat} (_hi:i<f.length) {x:Int} (h0:0≤x) (hx:x≤i):Di (f.set i x):=by
 intro k hk
 rw[yE]at hk
 rw[wU]
 split
 ·rename_i e;subst e;exact⟨h0,hx⟩
 ·exact hf k hk
theorem Ae7:∀ (m k k':Nat) (f:List Int) (i:Int),Di f→0≤i→i.toNat<f.length→i.toNat≤m→i.toNat+1≤k→i.toNat+1≤k'→Ajg k f i=Ajg k' f i
 | m,0,_,_,_,_,_,_,_,h,_=>by omega
 | m,_+1,0,_,_,_,_,_,_,_,h=>by omega
 | m,k+1,k'+1,f,i,hf,h0,hi,hm,h1,h2=>by
  rw[Ajg,Ajg]
  by_cases e:nth f i=i
  ·rw[zC e,zC e]
  ·rw[zA e,zA e]
   obtain ⟨a1,a2⟩:=Hu hf h0 hi
   obtain ⟨b1,b2⟩:=Hu hf a1 (by omega:(nth f i).toNat<f.length)
   match m with
   | 0=>omega
   | m+1 =>
    exact Ae7 m k k' _ _ (Lz hf hi b1 q_) b1 (by rw[yE];omega) q_ q_ q_
theorem Aqh {f:List Int} {i:Int} (h:nth f i=i):Kl f i=(f,i):=by rw[Kl,Ajg,zC h]
theorem Ajf {f:List Int} {i:Int} (hf:Di f) (h0:0≤i) (hi:i.toNat<f.length) (h:nth f i≠i):Kl f i=Kl (f.set i.toNat (nth f (nth f i))) (nth f (nth f i)):=by
 obtain ⟨a1,a2⟩:=Hu hf h0 hi
 obtain ⟨b1,b2⟩:=Hu hf a1 (by omega:(nth f i).toNat<f.length)
 rw[Kl,Ajg,zA h,Kl]
 exact Ae7 i.toNat _ _ _ _ (Lz hf hi b1 q_) b1 (by rw[yE];omega) q_ q_ q_
theorem Mx:∀ (m:Nat) (f:List Int) (i:Int),Di f→0≤i→i.toNat<f.length→i.toNat≤m→Di (Kl f i).1∧(Kl f i).1.length=f.length∧0≤(Kl f i).2∧(Kl f i).2≤i
 | m,f,i,hf,h0,hi,hm=>by
  by_cases e:nth f i=i
  ·rw[Aqh e];exact⟨hf,rfl,h0,wG _⟩
  ·obtain ⟨a1,a2⟩:=Hu hf h0 hi
   obtain ⟨b1,b2⟩:=Hu hf a1 (by omega:(nth f i).toNat<f.length)
   rw[Ajf hf h0 hi e]
   match m with
   | 0=>omega
   | m+1 =>
    obtain ⟨c1,c2,c3,c4⟩:=Mx m _ _ (Lz hf hi b1 q_) b1 (by rw[yE];omega:(nth f (nth f i)).toNat<(f.set i.toNat (nth f (nth f i))).length) q_
    exact⟨c1,by rw[c2,yE],c3,by omega⟩
theorem Aco {f:List Int} {a b:Int} (hf:Di f) (ha:0≤a∧a.toNat<f.length) (hb:0≤b∧b.toNat<f.length):Di (Uu f a b).1∧(Uu f a b).1.length=f.length:=by
 obtain ⟨a1,a2,a3,a4⟩:=Mx a.toNat f a hf ha.1 ha.2 (zZ _)
 obtain ⟨b1,b2,b3,b4⟩:=Mx b.toNat (Kl f a).1 b a1 hb.1 q_ (zZ _)
 unfold Uu
 dsimp only
 generalize Kl (Kl f a).1 b=y at *
 generalize Kl f a=x at *
 refine⟨Lz b1 q_ q_ q_,by rw[yE];omega⟩
theorem Ai0 (k:Nat):Di (L6 k)∧(L6 k).length=k:=by
 refine⟨λ i hi=>?_,by simp[L6]⟩
 simp[L6]
def alJ (k j:Nat):List Int:=(List.range j).map (λ i:Nat=>(i:Int))++List.replicate (k-j) 0
theorem Ay6 (k:Nat):alJ k 0=List.replicate k 0:=by simp[alJ]
theorem A1b (k j:Nat) (h:j≤k):(alJ k j).length=k:=by simp[alJ];omega
theorem Ay7 (k j:Nat) (h:j<k):(alJ k j).set ((j:Nat):Int).toNat (j:Int)=alJ k (j+1):=by
 have hl:((List.range j).map (λ i:Nat=>(i:Int))).length=j:=by simp
 rw[zR,alJ,alJ,uX _ _ q_,hl,uU,show k-j=(k-(j+1))+1 by omega,tH,vZ,wL,wK,yU]
 rfl
theorem aloneS (k:Nat) (hk:k≤100000):Sq 136 [Aa k] [] (.osl 900) [(900,.row 1 Aa (L6 k))]:=cT F136 Tryz.ntmps136 λ F hF=>by
 have hfull:alJ k k=L6 k:=by simp[alJ,L6]
 refine T ?_
 refine X (Bw Γ.toTy (d:=6) (n:=k) Aa 0 E E E E E E E E q_ q_ E E E) ?_
 refine T ?_
 refine Db (λ j:Nat=>j≤k) (λ j=>[(3,.osl 1000),(8,Aa k),(9,Aa j)]) (λ j=>[(1000,.row 1 Aa (alJ k j))]) (λ j=>k-j) 0 [(1000,6)] q_ ⟨⟨E,E,zD Aa (by rw[xM]),E,E,E,Y⟩,⟨.inl (zD (Ob.row 1 Aa) (Ay6 k)),E,Y⟩,E,E⟩ ?_
 intro j hj
 have hl:=A1b k j hj
 refine T ?_
 constructor<;>intro h
 ·have hlt:j<k:=qA h
  clear h
  have hne:alJ k j≠[]:=λ e=>by rw[e]at hl;simp at hl;omega
  have hnx:=Ay7 k j hlt
  refine T ?_
  refine⟨(j:Int),E,E,?_⟩
  refine T ?_
  exact Bd (j+1) [] hlt q_ ⟨⟨E,E,E,E,E,E,Y⟩,⟨.inl (zD (Ob.row 1 Aa) hnx.symm),E,Y⟩,E,E⟩
 ·have hje:j=k:=qB h
  clear h
  subst hje
  rw[hfull]
  refine T ?_
  exact done E (.cons .tmp .nil) [(900,1000)] [(900,.row 1 Aa (L6 j))] (λ _ h=>h) E E U
theorem Asm (l:List Int) (h0:0<l.length) (hl:l.length<2147483648):Sp 138 [.sl 1 Aa l] (Aa (Akn l)):=cT F138 Tryz.ntmps138 λ F hF=>by
 have f0:decide ((l.length:Int)<1)=false:=zJ q_
 have hz:(0:Int).toNat<l.length:=h0
 have hst:Akn l=Aei (l[(0:Int).toNat]'hz) (l.drop 1):=by rw[Akn,Ae hz]
 refine T ?_
 refine Db (λ x:Nat × Int=>1≤x.1∧x.1≤l.length∧Akn l=Aei x.2 (l.drop x.1)) (λ x=>[(0,.sl 1 Aa l),(3,Aa x.2),(4,Aa x.1)]) (λ _=>[]) (λ x=>l.length-x.1) (1,l[(0:Int).toNat]'hz) [] ⟨by omega,by omega,hst⟩ U ?_
 rintro ⟨i,m⟩ ⟨h1,h2,hI⟩
 dsimp only at h1 h2 hI ⊢
 refine T ?_
 constructor<;>intro h
 ·have hlt:i<l.length:=qA h
  have hlt0:((i:Nat):Int).toNat<l.length:=hlt
  clear h
  rw[yI hlt,Aei]at hI
  refine T ?_
  refine X (W8 E E E) ?_
  exact Bd (i+1,min m l[i]) [] ⟨by dsimp only;omega,hlt,hI⟩ (by dsimp only;omega) ⟨⟨E,E,zD Aa (by dsimp only;show min m l[i]=if l[i]<m then l[i] else m;omega),E,E,E,Y⟩,Y,E,E⟩
 ·have hie:i=l.length:=qB h
  clear h
  rw[hie,tC,Aei]at hI
  rw[hI]
  refine T ?_
  exact D
theorem topS (f:List Int) (i:Int) (hf:Di f) (h0:0≤i) (hi:i.toNat<f.length) (hl:f.length≤100000):Sq 205 [.osl 900,Aa i] [(900,.row 1 Aa f)] (Aa (Kl f i).2) [(900,.row 1 Aa (Kl f i).1)]:=cT F205 Tryz.ntmps205 λ F hF=>by
 refine T ?_
 refine Db (λ x:List Int × Int=>Di x.1∧x.1.length=f.length∧0≤x.2∧x.2.toNat<f.length∧Kl f i=Kl x.1 x.2) (λ x=>[(0,.osl 900),(1,Aa x.2)]) (λ x=>[(900,.row 1 Aa x.1)]) (λ x=>x.2.toNat) (f,i) [] ⟨hf,E,h0,hi,E⟩ U ?_
 rintro ⟨g,k⟩ ⟨h1,h2,h3,h4,hI⟩
 dsimp only at h1 h2 h3 h4 hI ⊢
 have hk0:k.toNat<g.length:=by omega
 have hn:=Ae hk0
 by_cases e:nth g k=k
 ·have hb:(g[k.toNat] == k)=true:=by rw[← hn];exact beq_iff_eq.mpr e
  have hb':(!(g[k.toNat] == k))=false:=by rw[hb];rfl
  rw[hI,Aqh e]
  refine T ?_
  exact done E (.cons .tmp .nil) [(900,900)] [(900,.row 1 Aa g)] (λ _ h=>h) E E U
 ·obtain ⟨a1,a2⟩:=Hu h1 h3 hk0
  obtain ⟨b1,b2⟩:=Hu h1 a1 (by omega:(nth g k).toNat<g.length)
  have hk1:(g[k.toNat]'hk0).toNat<g.length:=by omega
  have hn1:nth g (nth g k)=g[(g[k.toNat]'hk0).toNat]'hk1:=by rw[hn];exact Ae hk1
  have hs:=Ajf h1 h3 hk0 e
  have hb:(g[k.toNat] == k)=false:=by rw[← hn];exact beq_eq_false_iff_ne.mpr e
  have hb':(!(g[k.toNat] == k))=true:=by rw[hb];rfl
  refine T ?_
  refine⟨nth g (nth g k),zD (λ x=>cellsOf (Aa x)) hn1,E,?_⟩
  have hk2:k.toNat<(g.set k.toNat (nth g (nth g k))).length:=by rw[yE];exact hk0
  have hn2:(g.set k.toNat (nth g (nth g k)))[k.toNat]'hk2=nth g (nth g k):=uB _
  refine T ?_
  refine Bd (g.set k.toNat (nth g (nth g k)),nth g (nth g k)) [] ⟨Lz h1 hk0 b1 q_,by dsimp only;rw[yE];exact h2,b1,by dsimp only;omega,by dsimp only;rw[hI,hs]⟩ (by dsimp only;omega) ⟨⟨E,E,zD Aa hn2.symm,E,Y⟩,⟨.inl E,E,Y⟩,E,E⟩
theorem A1p (f:List Int) (a b:Int) (hf:Di f) (ha:0≤a∧a.toNat<f.length) (hb:0≤b∧b.toNat<f.length) (hl:f.length≤100000):Sq 139 [.osl 900,Aa a,Aa b] [(900,.row 1 Aa f)] (Ac (Uu f a b).2) [(900,.row 1 Aa (Uu f a b).1)]:=cT F139 Tryz.ntmps139 λ F hF=>by
 obtain ⟨a1,a2,a3,a4⟩:=Mx a.toNat f a hf ha.1 ha.2 (zZ _)
 obtain ⟨b1,b2,b3,b4⟩:=Mx b.toNat (Kl f a).1 b a1 hb.1 q_ (zZ _)
 have F1:=topS f a hf ha.1 ha.2 hl
 have F2:=topS (Kl f a).1 b a1 hb.1 q_ q_
 rw[Uu]
 dsimp only
 generalize hy:Kl (Kl f a).1 b=y at *
 generalize hx:Kl f a=x at *
 have hm:(if y.2>x.2 then y.2 else x.2).toNat<y.1.length:=by split<;>omega
 have hm0:0≤(if y.2>x.2 then y.2 else x.2):=by split<;>omega
 have e1:(max x.2 y.2).toNat=(if y.2>x.2 then y.2 else x.2).toNat:=by rw[Int.max_def];split<;>split<;>omega
 have e2:(min x.2 y.2)=(if y.2<x.2 then y.2 else x.2):=by rw[Int.min_def];split<;>split<;>omega
 rw[e1,e2]
 refine T ?_
 refine X (Ad [(900,900)] E F205 F1 E W E V) ?_
 refine T ?_
 refine X (Ad [(900,900)] E F205 F2 E W E V) ?_
 refine T ?_
 refine X (Ax8 E E E) ?_
 refine T ?_
 refine X (W8 E E E) ?_
 refine T ?_
 refine⟨_,E,E,?_⟩
 refine T ?_
 exact done E (.cons .tmp .nil) [(900,900)] [(900,.row 1 Aa (y.1.set (if y.2>x.2 then y.2 else x.2).toNat (if y.2<x.2 then y.2 else x.2)))] (λ _ h=>h) E E U
theorem Wy {n:Net} {i:Nat} {v:Int} (h:(linkDomT n i v).2=true) (hi:i<n.ports.length):Ce n.ports[i] v=true:=by
 have e:nth n.ports ((i:Nat):Int)=n.ports[i]:=Ae (l:=n.ports) (i:=((i:Nat):Int)) hi
 unfold linkDomT at h
 split at h
 ·rename_i h3
  unfold crossT at h3
  split at h3
  ·rename_i h4
   rw[e]at h4
   exact h4.2.1
  ·cases h3
 ·cases h
theorem Uo {n:Net} (hr:Ab n=true) {f:List Int} {i:Nat} (hi:i<n.ports.length) {v:Int} (hf:Di f) (hl:n.domains.length≤f.length):Di (Do n f i v)∧(Do n f i v).length=f.length:=by
 unfold Do
 split
 ·rename_i h
  have h2:=Ke h
  have hm:Ce n.ports[i] v=true:=Wy h hi
  have h3:=S8 hr hi hm
  have e:nth n.ports ((i:Nat):Int)=n.ports[i]:=Ae (l:=n.ports) (i:=((i:Nat):Int)) hi
  rw[e]
  exact Aco hf ⟨h3.1,by omega⟩ ⟨h2.1,by omega⟩
 ·exact⟨hf,E⟩
theorem Kj {α:Type} {g:List Int→α→List Int} {k:Nat}:∀ {l:List α} {f:List Int},(∀ a∈l,∀ f,Di f→k≤f.length→Di (g f a)∧(g f a).length=f.length)→Di f→k≤f.length→Di (l.foldl g f)∧(l.foldl g f).length=f.length
 | [],_,_,h,_=>⟨h,rfl⟩
 | a::l,f,hg,h,hk=>by
  obtain ⟨h1,h2⟩:=hg a y_ f h hk
  obtain ⟨h3,h4⟩:=Kj (l:=l) (λ b hb=>hg b (by simp[hb])) h1 (by omega:k≤(g f a).length)
  exact⟨h3,by rw[wT,h4,h2]⟩
theorem So {n:Net} (hr:Ab n=true) {f:List Int} {i:Nat} (hi:i<n.ports.length) (hf:Di f) (hl:n.domains.length≤f.length):Di (Ia n f i)∧(Ia n f i).length=f.length :=
 Kj (λ _ _ _ h1 h2=>Uo hr hi h1 h2) hf hl
theorem Ahw {n:Net} (hr:Ab n=true) {f:List Int} (hf:Di f) (hl:n.domains.length≤f.length):Di (Tt n f)∧(Tt n f).length=f.length :=
 Kj (λ i hi _ h1 h2=>So hr (by simpa using hi) h1 h2) hf hl
theorem Air (l:List Int) (hl:l.length<2147483648):Sq 90 [.sl 1 Aa l] [] (.osl 0) [(0,.row 1 Aa l)]:=cT F90 Tryz.ntmps90 λ F hF=>by
 refine fW ?_
 refine Du E (.inl E) E E E .sl E E ?_
 intro b hb
 cases b
 ·refine fU ?_
  refine Ag (Ah Γ.toTy 7 E E E E E (.lit (e:=Aa) (l:=[]) E E) .sl y_ (by simp;omega) (by simp;omega)) E E ?_
  refine fU ?_
  exact done E (.cons .tmp .nil) [(0,7)] [(0,.row 1 Aa l)] (λ _ h=>h) E E ⟨Y,⟨.inl E,E,Y⟩,E,E⟩
 ·have h0:l=[]:=zQ (hb rfl)
  subst h0
  refine fU ?_
  refine Co 2 1000 1 Aa E E ?_
  exact done E (.cons .tmp .nil) [(0,1000)] [(0,.row 1 Aa [])] (λ _ h=>h) E E ⟨Y,⟨.inl E,E,Y⟩,E,E⟩
theorem A0i (n:Net) (f:List Int) (hn:n.Fin) (hr:Ab n=true) (hf:Di f) (hl:n.domains.length≤f.length) (hl2:f.length≤100000):Sq 137 [Aj n,.osl 900] [(900,.row 1 Aa f)] (.tup []) [(900,.row 1 Aa (Tt n f))]:=cT F137 Tryz.ntmps137 λ F hF=>by
 have hp:n.ports.length<2147483648:=hn.ports
 refine T ?_
 refine Az 2 8 (Aj n) E E E ?_
 refine T ?_
 refine A5 n.ports.length (λ j=>[(1,.osl 900),(2,.ref 8 (Aj n) 0),(11,.sl 7 Aw n.ports),(12,Aa n.ports.length),(13,Aa j)]) (λ j=>[(900,.row 1 Aa ((List.range j).foldl (Ia n) f))]) [] U ?_
 intro j hj
 refine T ?_
 constructor<;>intro h
 ·have hlt:j<n.ports.length:=qA h
  have hj0:((j:Nat):Int).toNat<n.ports.length:=hlt
  clear h
  have htag:n.ports[((j:Nat):Int).toNat].tagged.length<2147483648:=hn.tagged _ (zE hj0)
  have htag2:n.ports[j].tagged.length<2147483648:=htag
  have hnp:nth n.ports ((j:Nat):Int)=n.ports[((j:Nat):Int).toNat]:=Ae hj0
  obtain ⟨g1,g2⟩:Di ((List.range j).foldl (Ia n) f)∧((List.range j).foldl (Ia n) f).length=f.length:=Kj (λ i hi _ h1 h2=>So hr (by have:=xC.1 hi;omega) h1 h2) hf hl
  refine T ?_
  refine Xd (Ad [(0,60)] E F90 (Air n.ports[((j:Nat):Int).toNat].tagged htag) E Y E ⟨.inr E,Y⟩) ?_
  refine T ?_
  refine Xd (Ah Γ.toTy 61 rfl rfl rfl rfl rfl (.row rfl) (.lit (e:=Aa) (l:=[n.ports[((j:Nat):Int).toNat].native]) rfl rfl) (by intro k hk;cases hk;decide) (by simp;omega) (by simp;omega)) ?_
  refine T ?_
  refine Az 5 7 (Aw n.ports[((j:Nat):Int).toNat]) E E E ?_
  have hlen:(n.ports[((j:Nat):Int).toNat].tagged++[n.ports[((j:Nat):Int).toNat].native]).length=n.ports[((j:Nat):Int).toNat].tagged.length+1:=by simp
  refine T ?_
  obtain ⟨vl,hvl⟩:∃ vl,n.ports[((j:Nat):Int).toNat].tagged++[n.ports[((j:Nat):Int).toNat].native]=vl:=⟨_,rfl⟩
  have hvlen:vl.length<2147483649:=by rw[← hvl,hlen];omega
  obtain ⟨fj,hfj⟩:∃ fj,(List.range j).foldl (Ia n) f=fj:=⟨_,rfl⟩
  rw[hfj]at g1 g2
  refine A5 vl.length (λ i=>[(1,.osl 900),(2,.ref 8 (Aj n) 0),(4,Aa j),(5,.ref 7 (Aw n.ports[((j:Nat):Int).toNat]) 0),(11,.sl 7 Aw n.ports),(12,Aa n.ports.length),(13,Aa j),(24,.osl 1000),(25,Aa vl.length),(26,Aa i)])
   (λ i=>[(900,.row 1 Aa ((vl.take i).foldl (λ f v=>Do n f j v) fj)),(1000,.row 1 Aa vl)]) [(1000,61)] ⟨⟨rfl,rfl,rfl,rfl,rfl,rfl,rfl,rfl,rfl,rfl,rfl,rfl,rfl,rfl,rfl,rfl,zD (λ l:List Int=>Aa l.length) hvl.symm,rfl,rfl,rfl,trivial⟩,⟨.inl (zD (Ob.row 1 Aa) hfj.symm),rfl,.inl (zD (Ob.row 1 Aa) hvl.symm),rfl,trivial⟩,rfl,rfl⟩ ?_
  intro i hi
  refine T ?_
  constructor<;>intro h
  ·have hit:i<vl.length:=qA h
   have hi0:((i:Nat):Int).toNat<vl.length:=hit
   clear h
   obtain ⟨e1,e2⟩:Di ((vl.take i).foldl (λ f v=>Do n f j v) fj)∧((vl.take i).foldl (λ f v=>Do n f j v) fj).length=fj.length:=Kj (λ _ _ _ h1 h2=>Uo hr hlt h1 h2) g1 q_
   have hnx:(vl.take (i+1)).foldl (λ f v=>Do n f j v) fj=Do n ((vl.take i).foldl (λ f v=>Do n f j v) fj) j (vl[((i:Nat):Int).toNat]'hi0):=by
    rw[zY hit,xB];rfl
   have q:=Ww n hn j (vl[((i:Nat):Int).toNat]'hi0)
   refine T ?_
   refine C q F115 ?_
   cases hb:(linkDomT n j (vl[((i:Nat):Int).toNat]'hi0)).2
   ·have hz:Do n ((vl.take i).foldl (λ f v=>Do n f j v) fj) j (vl[((i:Nat):Int).toNat]'hi0)=(vl.take i).foldl (λ f v=>Do n f j v) fj:=by rw[Do,zA (by rw[hb];decide)]
    rw[hz]at hnx
    refine T ?_
    exact Ax [] q_ ⟨⟨E,E,E,E,E,E,E,E,E,E,E,E,E,E,E,E,E,E,E,E,Y⟩,⟨.inl (zD (Ob.row 1 Aa) hnx),E,.inl E,E,Y⟩,E,E⟩
   ·have hin:=Ke hb
    have hm:Ce (n.ports[((j:Nat):Int).toNat]'hj0) (vl[((i:Nat):Int).toNat]'hi0)=true:=Wy hb hlt
    have hdm:=S8 hr hlt hm
    have q2:=J4 n hn hr (n.ports[((j:Nat):Int).toNat]'hj0).dev (vl[((i:Nat):Int).toNat]'hi0)
    have hz:Do n ((vl.take i).foldl (λ f v=>Do n f j v) fj) j (vl[((i:Nat):Int).toNat]'hi0)=(Uu ((vl.take i).foldl (λ f v=>Do n f j v) fj) (Cq n (n.ports[((j:Nat):Int).toNat]'hj0).dev (vl[((i:Nat):Int).toNat]'hi0)) (linkDomT n j (vl[((i:Nat):Int).toNat]'hi0)).1).1:=by rw[Do,zC hb,hnp]
    rw[hz]at hnx
    have q3:=A1p ((vl.take i).foldl (λ f v=>Do n f j v) fj) (Cq n (n.ports[((j:Nat):Int).toNat]'hj0).dev (vl[((i:Nat):Int).toNat]'hi0)) (linkDomT n j (vl[((i:Nat):Int).toNat]'hi0)).1 e1 ⟨hdm.1,yO hdm.2 q_⟩ ⟨hin.1,by omega⟩ q_
    refine T ?_
    refine C q2 F62 ?_
    refine T ?_
    refine X (Ad [(900,900)] E F139 q3 E W E V) ?_
    refine T ?_
    exact Ax [] q_ ⟨⟨E,E,E,E,E,E,E,E,E,E,E,E,E,E,E,E,E,E,E,E,Y⟩,⟨.inl (zD (Ob.row 1 Aa) hnx),E,.inl E,E,Y⟩,E,E⟩
  ·have hie:i=vl.length:=qB h
   clear h
   subst hie
   have hnx:(List.range (j+1)).foldl (Ia n) f=(vl.take vl.length).foldl (λ f v=>Do n f j v) fj:=by
    rw[wL,xB,hfj,yG,← hvl]
    show Ia n fj j=_
    rw[Ia,hnp]
   refine T ?_
   exact Ax [] q_ ⟨⟨E,E,E,E,E,E,E,E,E,E,Y⟩,⟨.inl (zD (Ob.row 1 Aa) hnx),E,Y⟩,E,E⟩
 ·have hje:j=n.ports.length:=qB h
  clear h
  subst hje
  refine T ?_
  exact A4 E .nil [(900,900)] [(900,.row 1 Aa (Tt n f))] (λ _ h=>h) E E U
end Go.Sy.YtljngfegfclkpaaGreat
namespace Go.Sy.YtljngfegfclkpaaGreat
open Go.Proofs
attribute [local irreducible] Go.Sy.G Go.Sy.DR
set_option maxRecDepth 100000
set_option maxHeartbeats 4000000
theorem Aq7:∀ (l:List Int) (m:Int),Aei m l=m∨Aei m l∈l
 | [],_=>.inl rfl
 | x::l,m=>by
  rw[Aei]
  rcases Aq7 l (min m x) with h | h
  ·rw[h,Int.min_def]
   split
   ·exact .inl E
   ·exact .inr y_
  ·exact .inr (by simp[h])
theorem A0g {l:List Int} (h:l≠[]):Akn l∈l:=by
 match l,h with
 | x::l,_ =>
  show Aei (nth (x::l) 0) l∈x::l
  rw[show nth (x::l) 0=x from rfl]
  rcases Aq7 l x with h | h
  ·rw[h];simp
  ·simp[h]
theorem loopS (n:Net) (hn:n.Fin):Sp 78 [Aj n] (.tup [Aa (loopT n).1,Ac (loopT n).2]):=cT F78 Tryz.ntmps78 λ F hF=>by
 have qn:=Av n hn
 have hT:=loopT.eq_1 n
 generalize loopT n=res at *
 cases hr:Ab n with
 | false =>
  rw[hr]at qn
  rw[hr,zC rfl]at hT
  subst hT
  refine T ?_
  refine C qn F19 ?_
  refine T ?_
  exact D
 | true =>
 rw[hr]at qn
 rw[hr,zA y_]at hT
 obtain ⟨_,_,_,hmany,_⟩:=Agh hr
 obtain ⟨fa1,fa2⟩:=Ai0 (2 * n.domains.length)
 have fl:=Ahw hr fa1 q_
 have q1:=aloneS (2 * n.domains.length) q_
 rw[show ((2 * n.domains.length:Nat):Int)=2 * (n.domains.length:Int) from by omega]at q1
 have q2:=A0i n (L6 (2 * n.domains.length)) hn hr fa1 q_ q_
 refine T ?_
 refine C qn F19 ?_
 refine Az 1 8 (Aj n) E E E ?_
 refine T ?_
 refine X (Ad [(900,700)] E F136 q1 E W E V) ?_
 refine T ?_
 refine X (Ad [(900,700)] E F137 q2 E W E V) ?_
 refine T ?_
 refine Db (λ x:Nat × List Int=>x.1≤n.domains.length∧Di x.2∧x.2.length=2 * n.domains.length∧res=O3 n x.2 x.1 (n.domains.drop x.1)) (λ x=>[(1,.ref 8 (Aj n) 0),(4,Aa n.domains.length),(5,.osl 1000),(22,.sl 6 An n.domains),(23,Aa n.domains.length),(24,Aa x.1)])
  (λ x=>[(1000,.row 1 Aa x.2)]) (λ x=>n.domains.length-x.1) (0,Tt n (L6 (2 * n.domains.length))) [(1000,700)] ⟨by omega,fl.1,by dsimp only;rw[fl.2,fa2],hT⟩ U ?_
 rintro ⟨i,f⟩ ⟨h1,h2,h3,hI⟩
 dsimp only at h1 h2 h3 hI ⊢
 refine T ?_
 constructor<;>intro h
 ·have hlt:i<n.domains.length:=qA h
  have hi0:((i:Nat):Int).toNat<n.domains.length:=hlt
  clear h
  rw[yI hlt,O3]at hI
  have hpl:n.domains[((i:Nat):Int).toNat].peers.length<2147483648:=hn.peers _ (zE hi0)
  refine T ?_
  constructor<;>intro h
  ·have hpe:n.domains[i].peers=[]:=zQ (by have:=eq_of_beq h;have e:(n.domains[((i:Nat):Int).toNat]'hi0).peers.length=n.domains[i].peers.length:=rfl;omega)
   clear h
   rw[zC hpe]at hI
   refine T ?_
   exact Bd (i+1,f) [] ⟨hlt,h2,h3,hI⟩ (by dsimp only;omega) ⟨⟨E,E,E,E,E,E,E,E,E,E,E,E,Y⟩,⟨.inl E,E,Y⟩,E,E⟩
  have hpe:n.domains[i].peers≠[]:=λ e=>by
   have e2:(n.domains[((i:Nat):Int).toNat]'hi0).peers=[]:=e
   rw[e2]at h
   cases h
  clear h
  rw[zA hpe]at hI
  dsimp only at hI
  have hpm:=Apo hr hlt (A0g hpe)
  have qm:=Asm (n.domains[((i:Nat):Int).toNat]'hi0).peers (by have:=xF.2 hpe;exact this) hpl
  obtain ⟨m,hm⟩:∃ m,Akn (n.domains[((i:Nat):Int).toNat]'hi0).peers=m:=⟨_,rfl⟩
  have hm':Akn n.domains[i].peers=m:=hm
  have emin:min (i:Int) m=if m<(i:Int) then m else (i:Int):=by rw[Int.min_def];split<;>split<;>omega
  rw[hm]at qm
  rw[hm']at hI hpm
  rw[emin]at hI
  have hmb:0≤(if m<(i:Int) then m else (i:Int))∧(if m<(i:Int) then m else (i:Int))<n.domains.length:=by split<;>omega
  have q3:=A1p f i ((n.domains.length:Int)+(if m<(i:Int) then m else (i:Int))) h2 ⟨by omega,by omega⟩ ⟨by omega,by omega⟩ q_
  have q3f:=Aco h2 (⟨by omega,by omega⟩:0≤(i:Int)∧(i:Int).toNat<f.length) (⟨by omega,by omega⟩:0≤(n.domains.length:Int)+(if m<(i:Int) then m else (i:Int))∧((n.domains.length:Int)+(if m<(i:Int) then m else (i:Int))).toNat<f.length)
  have hb48:(n.domains.length:Int)+(if m<(i:Int) then m else (i:Int))<100:=by omega
  generalize (Uu f i ((n.domains.length:Int)+(if m<(i:Int) then m else (i:Int))))=r at *
  obtain ⟨g,ok⟩:=r
  dsimp only at hI q3f
  refine T ?_
  refine C qm F138 ?_
  refine T ?_
  refine X (W8 E E E) ?_
  refine T ?_
  refine X (Ad [(900,1000)] E F139 q3 E W E V) ?_
  cases ok with
  | false =>
   rw[zC rfl]at hI
   rw[hI]
   refine T ?_
   exact D
  | true =>
   rw[zA j_]at hI
   refine T ?_
   exact Bd (i+1,g) [] ⟨hlt,q3f.1,by dsimp only;omega,hI⟩ (by dsimp only;omega) ⟨⟨E,E,E,E,E,E,E,E,E,E,E,E,Y⟩,⟨.inl E,E,Y⟩,E,E⟩
 ·have hie:i=n.domains.length:=qB h
  clear h
  rw[hie,tC,O3]at hI
  rw[hI]
  refine T ?_
  exact D
end Go.Sy.YtljngfegfclkpaaGreat
