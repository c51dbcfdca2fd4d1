/-
  I25 NB21 ON1 ON2 ON3 ON4 ON5 ON6 ON7 ON8 RL1 RL2 RL3 ON9 D0 D5 D6 E16 E17 E18 E25 E26 E27 E28 E30 E31 D3 D4 D7 D8 D9 D10 BF1 E32 E19 E33 E34 BF2: parts of a proof, joined by program.
-/
import Derived.Test.YtdkfcckkkfghgaaGreatDoorXQ8
import Derived.Test.YtdkfcckkkfghgaaGreatDoorXQ7
import Derived.Test.YtdkfcckkkfghgaaGreatDoorXQ4
import Derived.Test.YtdkfcckkkfghgaaGreatDoorXQ3
import Derived.Test.YtdkfcckkkfghgaaGreatDoorXQ5
set_option linter.all false
set_option linter.unusedVariables false
set_option linter.unusedSimpArgs false
set_option linter.deprecated false
namespace Go.Sy.YtdkfcckkkfghgaaGreatDoor
open Go.Proofs
theorem Aoz {α:Type} (p:α→Bool) (f:α→α) (l:List α) (h:∀ x,p (f x)=p x):B4 p (l.map f)=B4 p l:=by
 have e:(l.map f).findIdx? p=l.findIdx? p:=by
  rw[List.findIdx?_map]
  congr 1
  funext x
  exact h x
 rw[B4,B4,e]
theorem Acl {n:Net} (h:(meshNT n).2.2=0):(meshNT n).1=Al n∧(meshNT n).2.1=0∧Ah (Al n)=true∧n.floods.find? (fun f=>!(agreesB n f))=none:=by
 rw[meshNT]at h ⊢
 split at h
 ·simp at h
 rename_i h1
 rw[if_neg h1]
 cases hf:n.floods.find? (fun f=>!(agreesB n f)) with
 | some f=>rw[hf]at h;simp at h
 | none =>
  rw[hf]at h
  dsimp only at h ⊢
  split at h
  ·simp at h
  rename_i h2
  rw[if_neg h2]
  exact⟨q_,q_,by simpa using h2,q_⟩
end Go.Sy.YtdkfcckkkfghgaaGreatDoor
namespace Go.Sy.YtdkfcckkkfghgaaGreatDoor
open Go.Proofs
attribute [local irreducible] Go.Sy.G Go.Sy.DR
set_option maxRecDepth 100000
set_option maxHeartbeats 4000000
theorem Aqs {l:List LineM} (h:linesGreat l=false):∀ x∈l,LineOK x→LineW x:=by
 intro x hx ho
 refine⟨Al8 h x hx,ho,?_,?_,?_,?_,?_⟩
 all_goals
  rw[linesGreat]at h
  split at h
  ·cases h
  ·have:=Og l 0 h x hx
   simp only[Q0,List.forall_mem_cons]at this
   omega
end Go.Sy.YtdkfcckkkfghgaaGreatDoor
namespace Go.Sy.YtdkfcckkkfghgaaGreatDoor
open Go.Proofs
def has (p:List LineM) (k:Int) (q:LineM→Prop):Prop:=∃ x∈p,x.kind=k∧q x
theorem Ag {p:List LineM} {k:Int} {q:LineM→Prop} {x:LineM} (h:x.kind≠k):has (x::p) k q↔has p k q:=by
 constructor
 ·rintro ⟨y,hy,h1,h2⟩
  rcases List.mem_cons.1 hy with rfl | hy
  ·exact absurd h1 h
  ·exact⟨y,hy,h1,h2⟩
 ·rintro ⟨y,hy,h1,h2⟩
  exact⟨y,List.mem_cons_of_mem _ hy,h1,h2⟩
theorem Hd {p:List LineM} {k:Int} {q:LineM→Prop} {x:LineM} (h:x.kind=k):has (x::p) k q↔has p k q∨q x:=by
 constructor
 ·rintro ⟨y,hy,h1,h2⟩
  rcases List.mem_cons.1 hy with rfl | hy
  ·exact .inr h2
  ·exact .inl ⟨y,hy,h1,h2⟩
 ·rintro (⟨y,hy,h1,h2⟩ | h2)
  ·exact⟨y,List.mem_cons_of_mem _ hy,h1,h2⟩
  ·exact⟨x,by simp,h,h2⟩
theorem Ce {p:List LineM} {k:Int} {q r:LineM→Prop} (h:has p k q) (hi:∀ x,q x→r x):has p k r:=by
 obtain ⟨y,hy,h1,h2⟩:=h
 exact⟨y,hy,h1,hi y h2⟩
def dn (n:Net) (i:Int):ByteArray:=(nth n.devices i).name
structure Rep (n:Net) (p:List LineM):Prop where
 nm:∀ i j:Int,Af i n.devices.length=true→Af j n.devices.length=true→dn n i=dn n j→i=j
 pnm:∀ i j:Int,Af i n.ports.length=true→Af j n.ports.length=true→(nth n.ports i).dev=(nth n.ports j).dev→(nth n.ports i).name=(nth n.ports j).name→i=j
 dev:∀ s m,(∃ d∈n.devices,d.name=s∧d.mac=m)↔has p 1 (fun x=>x.dev=s∧x.mac=m)
 vtep:∀ s a,a≠0→((∃ d∈n.devices,d.name=s∧d.vtep=a)↔has p 5 (fun x=>x.dev=s∧x.addr=a))
 port:∀ s t v T,(∃ q∈n.ports,dn n q.dev=s∧q.name=t∧q.native=v∧q.tagged=T)↔has p 2 (fun x=>x.dev=s∧x.port=t∧x.vlan=v∧x.tagged=T)
 tied:∀ s t,(∃ q∈n.ports,dn n q.dev=s∧q.name=t∧0≤q.link)↔has p 3 (fun x=>(x.dev=s∧x.port=t)∨(x.peer=s∧x.far=t))
 link:∀ s t s' t',(∃ k∈n.links,dn n (nth n.ports k.a).dev=s∧(nth n.ports k.a).name=t∧dn n (nth n.ports k.b).dev=s'∧(nth n.ports k.b).name=t')↔has p 3 (fun x=>x.dev=s∧x.port=t∧x.peer=s'∧x.far=t')
 dom:∀ s v,(∃ d∈n.domains,dn n d.dev=s∧d.vlan=v)↔0<v∧has p 2 (fun x=>x.dev=s∧v∈x.vlan::x.tagged)
 vni:∀ s v w,w≠0→((∃ d∈n.domains,dn n d.dev=s∧d.vlan=v∧d.vni=w)↔has p 6 (fun x=>x.dev=s∧x.vlan=v∧x.num=w))
 dirb:∀ s v,(∃ d∈n.domains,dn n d.dev=s∧d.vlan=v∧0≤d.irb)↔has p 9 (fun x=>x.dev=s∧x.vlan=v)
 stat:∀ s v m,(∃ e∈n.statics,dn n (nth n.domains e.domain).dev=s∧(nth n.domains e.domain).vlan=v∧e.mac=m)↔has p 4 (fun x=>x.dev=s∧x.vlan=v∧x.mac=m)
 flood:∀ s w A,(∃ f∈n.floods,dn n f.dev=s∧f.vni=w∧f.addrs=A)↔has p 7 (fun x=>x.dev=s∧x.num=w∧x.addrs=A)
 vrf:∀ s t,(∃ v∈n.vrfs,dn n v.dev=s∧v.name=t)↔has p 8 (fun x=>x.dev=s∧x.name=t)
 ok:∀ y∈p,Ao y=true
 six:∀ s,has p 6 (fun y=>y.dev=s)→has p 5 (fun y=>y.dev=s)
 irb:∀ s a b,(∃ x∈n.irbs,dn n (nth n.vrfs x.vrf).dev=s∧x.addr=a∧x.bits=b)↔has p 9 (fun x=>x.dev=s∧x.addr=a∧x.bits=b)
theorem D7 {k:Int} {q:LineM→Prop}:¬ has [] k q:=by rintro ⟨x,hx,_⟩;cases hx
theorem O5:Rep emptyN [] where
 nm i j h:=by have:=place_iff.1 h;simp[emptyN]at this;omega
 pnm i j h:=by have:=place_iff.1 h;simp[emptyN]at this;omega
 dev s m:=by simp[emptyN,D7]
 vtep s a _:=by simp[emptyN,D7]
 port s t v T:=by simp[emptyN,D7]
 tied s t:=by simp[emptyN,D7]
 link s t a b:=by simp[emptyN,D7]
 dom s v:=by simp[emptyN,D7]
 vni s v w _:=by simp[emptyN,D7]
 dirb s v:=by simp[emptyN,D7]
 stat s v m:=by simp[emptyN,D7]
 flood s w A:=by simp[emptyN,D7]
 vrf s t:=by simp[emptyN,D7]
 ok y h:=by cases h
 six s h:=absurd h D7
 irb s a b:=by simp[emptyN,D7]
theorem D4 {i:Int} {k:Nat} (h:Af i k=true):∃ j:Nat,i=j∧j<k:=by
 have:=place_iff.1 h
 exact⟨i.toNat,by omega,by omega⟩
theorem Ba {α:Type} [Inhabited α] {l:List α} {i:Int} (h:Af i l.length=true):nth l i∈l:=by
 obtain ⟨j,rfl,hj⟩:=D4 h
 rw[← Cc l j hj]
 exact List.getElem_mem hj
theorem Co {α:Type} [Inhabited α] {l:List α} {x:α} (h:x∈l):∃ i:Nat,i<l.length∧nth l (i:Int)=x:=by
 obtain ⟨i,hi,rfl⟩:=List.mem_iff_getElem.1 h
 exact⟨i,hi,(Cc l i hi).symm⟩
theorem Cf {i k:Nat} (h:i<k):Af (i:Int) k=true:=place_iff.2 j_
theorem Le {α:Type} {P:α→Bool} {l:List α}:0≤B4 P l↔∃ x∈l,P x=true:=by
 rw[idxI_nonneg,List.any_eq_true]
theorem H9 {α:Type} [Inhabited α] {P:α→Bool} {l:List α} (h:0≤B4 P l):Af (B4 P l) l.length=true∧P (nth l (B4 P l))=true:=by
 obtain ⟨a,b⟩:=Ir h
 exact⟨place_iff.2 j_,b⟩
section
variable {n:Net} {p:List LineM} (r:Rep n p) (hr:NetR n)
include r
theorem Ui (s:ByteArray):0≤Ap n s↔∃ d∈n.devices,d.name=s:=by
 rw[Ap,Le];simp
theorem C7 (s:ByteArray):0≤Ap n s↔has p 1 (fun x=>x.dev=s):=by
 rw[Ui r]
 constructor
 ·rintro ⟨d,hd,e⟩
  exact Ce ((r.dev s d.mac).1 ⟨d,hd,e,q_⟩) fun x hx=>hx.1
 ·rintro ⟨x,hx,h1,h2⟩
  obtain ⟨d,hd,e,_⟩:=(r.dev s x.mac).2 ⟨x,hx,h1,h2,rfl⟩
  exact⟨d,hd,e⟩
theorem Du {s:ByteArray} (h:0≤Ap n s):Af (Ap n s) n.devices.length=true∧dn n (Ap n s)=s:=by
 obtain ⟨a,b⟩:=H9 h
 exact⟨a,beq_iff_eq.1 b⟩
theorem Ef {s:ByteArray} (h:0≤Ap n s) {i:Int} (hi:Af i n.devices.length=true):dn n i=s↔i=Ap n s:=by
 obtain ⟨a,b⟩:=Du r h
 constructor
 ·intro e;exact r.nm _ _ hi a (e.trans b.symm)
 ·rintro rfl;exact b
theorem Me {i:Int} (hi:Af i n.devices.length=true):Ap n (dn n i)=i:=by
 have h:0≤Ap n (dn n i):=(Ui r _).2 ⟨_,Ba hi,rfl⟩
 exact((Ef r h hi).1 q_).symm
include hr
theorem Df {q:Port} (h:q∈n.ports):Af q.dev n.devices.length=true:=by
 obtain ⟨i,hi,rfl⟩:=Co h
 exact(portB_iff.1 (hr.port i hi)).1
theorem B2 {q:Domain} (h:q∈n.domains):Af q.dev n.devices.length=true:=by
 obtain ⟨i,hi,rfl⟩:=Co h
 exact(bareB_iff.1 (hr.bare i hi)).1
theorem Jv {q:Flood} (h:q∈n.floods):Af q.dev n.devices.length=true:=by
 obtain ⟨i,hi,rfl⟩:=Co h
 exact(floodB_iff.1 (hr.flood i hi)).1
theorem I4 {q:Vrf} (h:q∈n.vrfs):Af q.dev n.devices.length=true:=by
 obtain ⟨i,hi,rfl⟩:=Co h
 exact(vrfB_iff.1 (hr.vrf i hi)).1
theorem Lu {q:Static} (h:q∈n.statics):Af q.domain n.domains.length=true:=by
 obtain ⟨i,hi,rfl⟩:=Co h
 exact(staticB_iff.1 (hr.static i hi)).1
theorem O9 {q:Irb} (h:q∈n.irbs):Af q.domain n.domains.length=true∧Af q.vrf n.vrfs.length=true:=by
 obtain ⟨i,hi,rfl⟩:=Co h
 have:=irbB_iff.1 (hr.irb i hi)
 exact⟨this.1,this.2.1⟩
theorem Yj {q:Link} (h:q∈n.links):Af q.a n.ports.length=true∧Af q.b n.ports.length=true:=by
 obtain ⟨i,hi,rfl⟩:=Co h
 have:=linkB_iff.1 (hr.link i hi)
 exact⟨this.1,this.2.1⟩
theorem Abu {s:ByteArray} (h:0≤Ap n s) (t:ByteArray):0≤E9 n (Ap n s) t↔has p 2 (fun x=>x.dev=s∧x.port=t):=by
 rw[E9,Le]
 simp only[Bool.and_eq_true,beq_iff_eq]
 constructor
 ·rintro ⟨q,hq,e1,e2⟩
  exact Ce ((r.port s t q.native q.tagged).1 ⟨q,hq,(Ef r h (Df r hr hq)).2 e1,e2,q_,q_⟩) fun x hx=>⟨hx.1,hx.2.1⟩
 ·rintro ⟨x,hx,h1,h2,h3⟩
  obtain ⟨q,hq,e1,e2,_⟩:=(r.port s t x.vlan x.tagged).2 ⟨x,hx,h1,h2,h3,rfl,rfl⟩
  exact⟨q,hq,(Ef r h (Df r hr hq)).1 e1,e2⟩
theorem Sg {s t:ByteArray} (h:0≤Ap n s) (ht:0≤E9 n (Ap n s) t):Af (E9 n (Ap n s) t) n.ports.length=true∧(nth n.ports (E9 n (Ap n s) t)).dev=Ap n s∧dn n (nth n.ports (E9 n (Ap n s) t)).dev=s∧(nth n.ports (E9 n (Ap n s) t)).name=t:=by
 obtain ⟨a,b⟩:=H9 ht
 simp only[Bool.and_eq_true,beq_iff_eq]at b
 have b1:(nth n.ports (E9 n (Ap n s) t)).dev=Ap n s:=b.1
 exact⟨a,b1,by rw[b1];exact(Du r h).2,b.2⟩
theorem Aei {s t:ByteArray} (h:0≤Ap n s) (ht:0≤E9 n (Ap n s) t) (v:Int) (T:List Int):((nth n.ports (E9 n (Ap n s) t)).native=v∧(nth n.ports (E9 n (Ap n s) t)).tagged=T)↔has p 2 (fun x=>x.dev=s∧x.port=t∧x.vlan=v∧x.tagged=T):=by
 obtain ⟨a,b,c,d⟩:=Sg r hr h ht
 rw[← r.port]
 constructor
 ·rintro ⟨e1,e2⟩
  exact⟨_,Ba a,c,d,e1,e2⟩
 ·rintro ⟨q,hq,e1,e2,e3,e4⟩
  obtain ⟨i,hi,rfl⟩:=Co hq
  have:=r.pnm _ _ (Cf hi) a (((Ef r h (Df r hr hq)).1 e1).trans b.symm) (e2.trans d.symm)
  rw[← this]
  exact⟨e3,e4⟩
theorem Aeh {s t:ByteArray} (h:0≤Ap n s) (ht:0≤E9 n (Ap n s) t):0≤(nth n.ports (E9 n (Ap n s) t)).link↔has p 3 (fun x=>(x.dev=s∧x.port=t)∨(x.peer=s∧x.far=t)):=by
 obtain ⟨a,b,c,d⟩:=Sg r hr h ht
 rw[← r.tied]
 constructor
 ·intro e
  exact⟨_,Ba a,c,d,e⟩
 ·rintro ⟨q,hq,e1,e2,e3⟩
  obtain ⟨i,hi,rfl⟩:=Co hq
  have:=r.pnm _ _ (Cf hi) a (((Ef r h (Df r hr hq)).1 e1).trans b.symm) (e2.trans d.symm)
  rw[← this]
  exact e3
theorem Qd {s:ByteArray} (h:0≤Ap n s) (v:Int):0≤Bj n (Ap n s) v↔0<v∧has p 2 (fun x=>x.dev=s∧v∈x.vlan::x.tagged):=by
 rw[Bj,Le,← r.dom]
 simp only[Bool.and_eq_true,beq_iff_eq]
 constructor
 ·rintro ⟨q,hq,e1,e2⟩
  exact⟨q,hq,(Ef r h (B2 r hr hq)).2 e1,e2⟩
 ·rintro ⟨q,hq,e1,e2⟩
  exact⟨q,hq,(Ef r h (B2 r hr hq)).1 e1,e2⟩
theorem Lg {i v:Int} (hd:0≤Bj n i v):Af (Bj n i v) n.domains.length=true∧(nth n.domains (Bj n i v)).dev=i∧(nth n.domains (Bj n i v)).vlan=v:=by
 obtain ⟨a,b⟩:=H9 hd
 simp only[Bool.and_eq_true,beq_iff_eq]at b
 exact⟨a,b.1,b.2⟩
theorem Je {i:Int} (hi:Af i n.domains.length=true):Bj n (nth n.domains i).dev (nth n.domains i).vlan=i:=by
 obtain ⟨j,rfl,hj⟩:=D4 hi
 exact(bareB_iff.1 (hr.bare j hj)).2.2.2.2
theorem Akc {s:ByteArray} {v:Int} (h:0≤Ap n s) (hd:0≤Bj n (Ap n s) v) {w:Int} (hw:w≠0):(nth n.domains (Bj n (Ap n s) v)).vni=w↔has p 6 (fun x=>x.dev=s∧x.vlan=v∧x.num=w):=by
 obtain ⟨a,b,c⟩:=Lg r hr hd
 rw[← r.vni _ _ _ hw]
 constructor
 ·intro e
  exact⟨_,Ba a,by rw[b];exact(Du r h).2,c,e⟩
 ·rintro ⟨q,hq,e1,e2,e3⟩
  obtain ⟨i,hi,rfl⟩:=Co hq
  have e1:=(Ef r h (B2 r hr hq)).1 e1
  rw[← e1,← e2,Je r hr (Cf hi)]
  exact e3
theorem Aqx {s:ByteArray} {v:Int} (h:0≤Ap n s) (hd:0≤Bj n (Ap n s) v):0≤(nth n.domains (Bj n (Ap n s) v)).irb↔has p 9 (fun x=>x.dev=s∧x.vlan=v):=by
 obtain ⟨a,b,c⟩:=Lg r hr hd
 rw[← r.dirb]
 constructor
 ·intro e
  exact⟨_,Ba a,by rw[b];exact(Du r h).2,c,e⟩
 ·rintro ⟨q,hq,e1,e2,e3⟩
  obtain ⟨i,hi,rfl⟩:=Co hq
  have e1:=(Ef r h (B2 r hr hq)).1 e1
  rw[← e1,← e2,Je r hr (Cf hi)]
  exact e3
theorem S6 {s:ByteArray} (h:0≤Ap n s) {w:Int} (hw:w≠0):0≤Et n (Ap n s) w↔has p 6 (fun x=>x.dev=s∧x.num=w):=by
 rw[Et,Le]
 simp only[Bool.and_eq_true,beq_iff_eq,bne_iff_ne,ne_eq]
 constructor
 ·rintro ⟨q,hq,e1,e2,_⟩
  exact Ce ((r.vni s q.vlan w hw).1 ⟨q,hq,(Ef r h (B2 r hr hq)).2 e1,q_,e2⟩) fun x hx=>⟨hx.1,hx.2.2⟩
 ·rintro ⟨x,hx,h1,h2,h3⟩
  obtain ⟨q,hq,e1,e2,e3⟩:=(r.vni s x.vlan w hw).2 ⟨x,hx,h1,h2,rfl,h3⟩
  exact⟨q,hq,(Ef r h (B2 r hr hq)).1 e1,e3,hw⟩
theorem Ab6 {a:Int} (ha:a≠0):0≤Bp n a↔has p 5 (fun x=>x.addr=a):=by
 rw[Bp,Le]
 simp only[beq_iff_eq]
 constructor
 ·rintro ⟨d,hd,e⟩
  exact Ce ((r.vtep d.name a ha).1 ⟨d,hd,q_,e⟩) fun x hx=>hx.2
 ·rintro ⟨x,hx,h1,h2⟩
  obtain ⟨d,hd,_,e⟩:=(r.vtep x.dev a ha).2 ⟨x,hx,h1,rfl,h2⟩
  exact⟨d,hd,e⟩
theorem Ic {s:ByteArray} (h:0≤Ap n s) {a:Int} (ha:a≠0):(nth n.devices (Ap n s)).vtep=a↔has p 5 (fun x=>x.dev=s∧x.addr=a):=by
 obtain ⟨b,c⟩:=Du r h
 rw[← r.vtep _ _ ha]
 constructor
 ·intro e
  exact⟨_,Ba b,c,e⟩
 ·rintro ⟨d,hd,e1,e2⟩
  obtain ⟨i,hi,rfl⟩:=Co hd
  have:=(Ef r h (Cf hi)).1 e1
  rw[← this]
  exact e2
theorem Yh {s:ByteArray} (h:0≤Ap n s) (w:Int):0≤C4 n (Ap n s) w↔has p 7 (fun x=>x.dev=s∧x.num=w):=by
 rw[C4,Le]
 simp only[Bool.and_eq_true,beq_iff_eq]
 constructor
 ·rintro ⟨q,hq,e1,e2⟩
  exact Ce ((r.flood s w q.addrs).1 ⟨q,hq,(Ef r h (Jv r hr hq)).2 e1,e2,q_⟩) fun x hx=>⟨hx.1,hx.2.1⟩
 ·rintro ⟨x,hx,h1,h2,h3⟩
  obtain ⟨q,hq,e1,e2,_⟩:=(r.flood s w x.addrs).2 ⟨x,hx,h1,h2,h3,rfl⟩
  exact⟨q,hq,(Ef r h (Jv r hr hq)).1 e1,e2⟩
theorem Abh {s:ByteArray} (h:0≤Ap n s) (t:ByteArray):0≤Sa n (Ap n s) t↔has p 8 (fun x=>x.dev=s∧x.name=t):=by
 rw[Sa,Le,← r.vrf]
 simp only[Bool.and_eq_true,beq_iff_eq]
 constructor
 ·rintro ⟨q,hq,e1,e2⟩
  exact⟨q,hq,(Ef r h (I4 r hr hq)).2 e1,e2⟩
 ·rintro ⟨q,hq,e1,e2⟩
  exact⟨q,hq,(Ef r h (I4 r hr hq)).1 e1,e2⟩
theorem Aa4 {s:ByteArray} {v:Int} (h:0≤Ap n s) (hd:0≤Bj n (Ap n s) v) (m:Int):0≤Uf n (Bj n (Ap n s) v) m↔has p 4 (fun x=>x.dev=s∧x.vlan=v∧x.mac=m):=by
 obtain ⟨a,b,c⟩:=Lg r hr hd
 rw[Uf,Le,← r.stat]
 simp only[Bool.and_eq_true,beq_iff_eq]
 constructor
 ·rintro ⟨q,hq,e1,e2⟩
  exact⟨q,hq,by rw[e1,b];exact(Du r h).2,by rw[e1];exact c,e2⟩
 ·rintro ⟨q,hq,e1,e2,e3⟩
  have hp:=Lu r hr hq
  have e1:=(Ef r h (B2 r hr (Ba hp))).1 e1
  refine⟨q,hq,?_,e3⟩
  rw[← e1,← e2,Je r hr hp]
end
end Go.Sy.YtdkfcckkkfghgaaGreatDoor
namespace Go.Sy.YtdkfcckkkfghgaaGreatDoor
open Go.Proofs
theorem B7 {c:Prop} [Decidable c] {m:Net} {e:Int} {y:Net × Int} (he:e≠0):(if c then (m,e) else y).2=0↔¬ c∧y.2=0:=by
 by_cases h:c
 ·simp[h,he]
 ·simp[h]
theorem Jd {c:Int} {y:Net × Int}:(if c≠0 then (emptyN,c) else y).2=0↔c=0∧y.2=0:=by
 by_cases h:c=0
 ·simp[h]
 ·simp[h]
theorem Ke {n:Net} (hr:NetR n) {x:LineM} {k:Int} (hk:x.kind=k):¬ fitsB n x k=false↔Ao x=true:=by
 have:=netR_iff.2 hr
 simp[fitsB,hk,this]
theorem D8 {n:Net} (hr:NetR n) {x:LineM} {k:Int} (hk:x.kind=k):(begT n x k).2=0↔Ao x=true∧0≤Ap n x.dev:=by
 have h:=Ke hr hk
 rw[begT]
 by_cases h1:fitsB n x k=false
 ·rw[if_pos h1]
  have:¬ Ao x=true:=fun e=>(h.2 e) h1
  simp[this]
 ·rw[if_neg h1]
  have:=h.1 h1
  by_cases h2:Ap n x.dev<0
  ·rw[if_pos h2];simp;omega
  ·rw[if_neg h2];simp[this];omega
theorem Q6 {n:Net} {x:LineM} {k:Int} (h:(begT n x k).2=0):(begT n x k).1=Ap n x.dev:=by
 rw[begT]at h ⊢
 split at h
 ·simp at h
 rename_i h1
 rw[if_neg h1]
 split at h
 ·simp at h
 rename_i h2
 rw[if_neg h2]
theorem Ajm {x:LineM} (h:Ao x=true) (hk:x.kind=4):0<x.vlan:=by
 simp only[Ao,A0,hk,Int.reduceEq,↓reduceIte,Bool.and_eq_true]at h
 have:=within_iff.1 h.1.1;omega
theorem J7 {x:LineM} (h:Ao x=true) (hk:x.kind=5):x.addr≠0:=by
 simp only[Ao,A0,hk,Int.reduceEq,↓reduceIte,Bool.and_eq_true,decide_eq_true_eq]at h
 exact h.1
theorem Abr {x:LineM} (h:Ao x=true) (hk:x.kind=6):0<x.vlan∧0<x.num:=by
 simp only[Ao,A0,hk,Int.reduceEq,↓reduceIte,Bool.and_eq_true]at h
 have:=within_iff.1 h.1.1;have:=within_iff.1 h.1.2;omega
theorem Abq {x:LineM} (h:Ao x=true) (hk:x.kind=7):0<x.num∧Hz x.addrs=true:=by
 simp only[Ao,A0,hk,Int.reduceEq,↓reduceIte,Bool.and_eq_true]at h
 have:=within_iff.1 h.1.1;exact⟨by omega,h.1.2⟩
theorem Ajl {x:LineM} (h:Ao x=true) (hk:x.kind=9):0<x.vlan:=by
 simp only[Ao,A0,hk,Int.reduceEq,↓reduceIte,Bool.and_eq_true]at h
 have:=within_iff.1 h.1.1;omega
def Dv (y x:LineM):Prop:=y.kind=x.kind∧(x.kind=1→y.dev=x.dev∨y.mac=x.mac)∧(x.kind=2→y.dev=x.dev∧y.port=x.port) ∧
 (x.kind=3→((y.dev=x.dev∧y.port=x.port)∨(y.peer=x.dev∧y.far=x.port))∨((y.dev=x.peer∧y.port=x.far)∨(y.peer=x.peer∧y.far=x.far))) ∧
 (x.kind=4→y.dev=x.dev∧y.vlan=x.vlan∧y.mac=x.mac)∧(x.kind=5→y.dev=x.dev∨y.addr=x.addr) ∧
 (x.kind=6→(y.dev=x.dev∧y.vlan=x.vlan)∨(y.dev=x.dev∧y.num=x.num))∧(x.kind=7→y.dev=x.dev∧y.num=x.num)∧(x.kind=8→y.dev=x.dev∧y.name=x.name) ∧
 (x.kind=9→(y.dev=x.dev∧y.vlan=x.vlan)∨(y.addr=x.addr∨(y.dev≠x.dev∧(J1 y.addr y.bits x.addr=true∨J1 x.addr x.bits y.addr=true))))
theorem Za {y x:LineM} (h:Dv y x):Dv x y:=by
 obtain ⟨h0,h1,h2,h3,h4,h5,h6,h7,h8,h9⟩:=h
 rw[← h0]at h1 h2 h3 h4 h5 h6 h7 h8 h9
 refine⟨h0.symm,fun k=>?_,fun k=>?_,fun k=>?_,fun k=>?_,fun k=>?_,fun k=>?_,fun k=>?_,fun k=>?_,fun k=>?_⟩
 ·have:=h1 k;simpa [eq_comm] using this
 ·have:=h2 k;simpa [eq_comm] using this
 ·rcases h3 k with (⟨a,b⟩ | ⟨a,b⟩) | (⟨a,b⟩ | ⟨a,b⟩)
  ·exact .inl (.inl ⟨a.symm,b.symm⟩)
  ·exact .inr (.inl ⟨a.symm,b.symm⟩)
  ·exact .inl (.inr ⟨a.symm,b.symm⟩)
  ·exact .inr (.inr ⟨a.symm,b.symm⟩)
 ·have:=h4 k;simpa [eq_comm] using this
 ·have:=h5 k;simpa [eq_comm] using this
 ·have:=h6 k;simpa [eq_comm] using this
 ·have:=h7 k;simpa [eq_comm] using this
 ·have:=h8 k;simpa [eq_comm] using this
 ·rcases h9 k with ⟨a,b⟩ | a | ⟨a,b⟩
  ·exact .inl ⟨a.symm,b.symm⟩
  ·exact .inr (.inl a.symm)
  ·exact .inr (.inr ⟨fun e=>a e.symm,b.symm⟩)
def need (p:List LineM) (x:LineM):Prop:=(1≤x.kind∧x.kind≤9)∧(x.kind=2∨x.kind=5∨x.kind=8→has p 1 fun y=>y.dev=x.dev) ∧
 (x.kind=3→(has p 2 fun y=>y.dev=x.dev∧y.port=x.port)∧(has p 2 fun y=>y.dev=x.peer∧y.port=x.far)∧x.dev≠x.peer) ∧
 (x.kind=4→has p 2 fun y=>y.dev=x.dev∧y.port=x.port∧x.vlan∈y.vlan::y.tagged) ∧
 (x.kind=6→(has p 5 fun y=>y.dev=x.dev)∧has p 2 fun y=>y.dev=x.dev∧x.vlan∈y.vlan::y.tagged) ∧
 (x.kind=7→(has p 6 fun y=>y.dev=x.dev∧y.num=x.num)∧has p 5 fun y=>y.dev=x.dev∧y.addr∉x.addrs) ∧
 (x.kind=9→(has p 8 fun y=>y.dev=x.dev∧y.name=x.name)∧has p 2 fun y=>y.dev=x.dev∧x.vlan∈y.vlan::y.tagged)
def Zl (n:Net) (x:LineM):Prop:=(x.kind=1→n.devices.length<8)∧(x.kind=2→n.ports.length<40∧(At (Ap n x.dev) n.domains (x.vlan::x.tagged)).length≤48)∧(x.kind=3→n.links.length<20)∧(x.kind=4→n.statics.length<64) ∧
 (x.kind=7→n.floods.length<48)∧(x.kind=8→n.vrfs.length<16)
section
variable {n:Net} {p:List LineM} (r:Rep n p) (hr:NetR n) (x:LineM)
include r hr
theorem Adf {s:ByteArray} {q:LineM→Prop} (h:has p 2 fun y=>y.dev=s∧q y):0≤Ap n s:=by
 obtain ⟨y,hy,h1,h2,_⟩:=h
 obtain ⟨d,hd,e,_⟩:=(r.port s y.port y.vlan y.tagged).2 ⟨y,hy,h1,h2,rfl,rfl,rfl⟩
 exact(Ui r s).2 ⟨_,Ba (Df r hr hd),e⟩
theorem W8 (s t:ByteArray):0≤endI n s t↔has p 2 fun y=>y.dev=s∧y.port=t:=by
 rw[endI]
 by_cases h:Ap n s<0
 ·rw[if_pos h]
  refine⟨fun h=>by omega,fun h2=>?_⟩
  have:=Adf r hr h2
  omega
 ·rw[if_neg h]
  exact Abu r hr j_ t
theorem Ac9 {s t:ByteArray} (h:0≤endI n s t):0≤Ap n s∧endI n s t=E9 n (Ap n s) t:=by
 rw[endI]at h ⊢
 by_cases h1:Ap n s<0
 ·rw[if_pos h1]at h;omega
 ·rw[if_neg h1];exact⟨by omega,rfl⟩
theorem Ajw (hk:x.kind=1):(putDevice n x).2=0↔Ao x=true∧¬ (has p 1 fun y=>y.dev=x.dev∨y.mac=x.mac)∧n.devices.length<8:=by
 have hf:=few_iff.1 hr.few
 rw[putDevice,B7 qd,B7 qd,B7 qd,Ke hr hk]
 have e:n.devices.any (fun d=>d.name == x.dev || d.mac == x.mac)=true↔has p 1 fun y=>y.dev=x.dev∨y.mac=x.mac:=by
  rw[List.any_eq_true]
  simp only[Bool.or_eq_true,beq_iff_eq]
  constructor
  ·rintro ⟨d,hd,e⟩
   refine Ce ((r.dev d.name d.mac).1 ⟨d,hd,q_,q_⟩) fun y hy=>?_
   rw[hy.1,hy.2];exact e
  ·rintro ⟨y,hy,h1,h2⟩
   obtain ⟨d,hd,e1,e2⟩:=(r.dev y.dev y.mac).2 ⟨y,hy,h1,rfl,rfl⟩
   exact⟨d,hd,by rw[e1,e2];exact h2⟩
 rw[e]
 simp only[and_true]
 refine and_congr Iff.rfl (and_congr Iff.rfl ?_)
 omega
theorem Ajv (hk:x.kind=2):(putPort n x).2=0↔Ao x=true∧(has p 1 fun y=>y.dev=x.dev)∧¬ (has p 2 fun y=>y.dev=x.dev∧y.port=x.port)∧n.ports.length<40∧(At (Ap n x.dev) n.domains (x.vlan::x.tagged)).length≤48:=by
 have hf:=few_iff.1 hr.few
 rw[putPort,B7 qd,B7 qd,B7 qd,B7 qd,B7 qd,Ke hr hk,← C7 r]
 refine and_congr Iff.rfl ?_
 rw[Int.not_lt]
 refine and_congr_right fun h=>?_
 rw[Abu r hr h]
 simp only[and_true]
 refine and_congr Iff.rfl ?_
 omega
theorem Aju (hk:x.kind=3):(putLink n x).2=0↔Ao x=true∧(has p 2 fun y=>y.dev=x.dev∧y.port=x.port)∧(has p 2 fun y=>y.dev=x.peer∧y.port=x.far)∧x.dev≠x.peer ∧
  ¬ (has p 3 fun y=>(y.dev=x.dev∧y.port=x.port)∨(y.peer=x.dev∧y.far=x.port))∧¬ (has p 3 fun y=>(y.dev=x.peer∧y.port=x.far)∨(y.peer=x.peer∧y.far=x.far))∧n.links.length<20:=by
 have hf:=few_iff.1 hr.few
 rw[putLink]
 dsimp only
 rw[B7 qd,B7 qd,B7 qd,B7 qd,Ke hr hk,← W8 r hr,← W8 r hr]
 refine and_congr Iff.rfl ?_
 simp only[not_or,Int.not_lt,and_true,and_assoc]
 refine and_congr_right fun h1=>and_congr_right fun h2=>?_
 obtain ⟨a1,a2⟩:=Ac9 r hr h1
 obtain ⟨b1,b2⟩:=Ac9 r hr h2
 rw[a2]at h1 ⊢
 rw[b2]at h2 ⊢
 rw[← Aeh r hr a1 h1,← Aeh r hr b1 h2]
 have ed:(nth n.ports (E9 n (Ap n x.dev) x.port)).dev=(nth n.ports (E9 n (Ap n x.peer) x.far)).dev↔x.dev=x.peer:=by
  rw[(Sg r hr a1 h1).2.1,(Sg r hr b1 h2).2.1]
  constructor
  ·intro e
   rw[← (Du r a1).2,← (Du r b1).2,e]
  ·intro e;rw[e]
 rw[not_congr ed]
 refine and_congr Iff.rfl ?_
 constructor
 ·rintro ⟨a,b,c⟩;exact⟨by omega,by omega,by omega⟩
 ·rintro ⟨a,b,c⟩;exact⟨by omega,by omega,by omega⟩
theorem Yf (q:Port) (v:Int) (hv:v≠0):Ck q v=true↔v∈q.native::q.tagged:=by
 rw[Ck]
 simp only[Bool.or_eq_true,beq_iff_eq,List.mem_cons]
 have hi:inB q.tagged v=true↔v∈q.tagged:=by rw[O7];simp
 grind
theorem Ajt (hk:x.kind=4):(putStatic n x).2=0↔Ao x=true∧(has p 2 fun y=>y.dev=x.dev∧y.port=x.port∧x.vlan∈y.vlan::y.tagged)∧¬ (has p 4 fun y=>y.dev=x.dev∧y.vlan=x.vlan∧y.mac=x.mac)∧n.statics.length<64:=by
 have hf:=few_iff.1 hr.few
 rw[putStatic]
 dsimp only
 rw[B7 qd,B7 qd,B7 qd,B7 qd,B7 qd,Ke hr hk]
 refine and_congr_right fun hR=>?_
 have hv:=Ajm hR hk
 simp only[not_or,Int.not_lt,and_true,and_assoc]
 constructor
 ·rintro ⟨h1,h2,h3,h4,h5,h6⟩
  refine⟨?_,?_,by omega⟩
  ·obtain ⟨a,b,c,d⟩:=Sg r hr h1 h2
   refine Ce ((Aei r hr h1 h2 _ _).1 ⟨q_,q_⟩) fun y hy=>⟨hy.1,hy.2.1,?_⟩
   rw[hy.2.2.1,hy.2.2.2]
   exact(Yf r hr _ _ j_).1 (by simpa using h4)
  ·rw[← Aa4 r hr h1 h3];omega
 ·rintro ⟨h1,h2,h3⟩
  have d1:=Adf r hr h1
  have d2:0≤E9 n (Ap n x.dev) x.port:=(Abu r hr d1 _).2 (Ce h1 fun y hy=>⟨hy.1,hy.2.1⟩)
  have d3:0≤Bj n (Ap n x.dev) x.vlan:=(Qd r hr d1 _).2 ⟨hv,Ce h1 fun y hy=>⟨hy.1,hy.2.2⟩⟩
  refine⟨d1,d2,d3,?_,?_,by omega⟩
  ·obtain ⟨y,hy,k1,k2,k3,k4⟩:=h1
   have:=(Aei r hr d1 d2 y.vlan y.tagged).2 ⟨y,hy,k1,k2,k3,rfl,rfl⟩
   have hm:=(Yf r hr (nth n.ports (E9 n (Ap n x.dev) x.port)) x.vlan j_).2 (by rw[this.1,this.2];exact k4)
   rw[hm];simp
  ·rw[← Aa4 r hr d1 d3]at h2;omega
theorem Ajs (hk:x.kind=5):(putVtep n x).2=0↔Ao x=true∧(has p 1 fun y=>y.dev=x.dev)∧¬ has p 5 fun y=>y.dev=x.dev∨y.addr=x.addr:=by
 rw[putVtep]
 dsimp only
 rw[Jd,D8 hr hk,← C7 r,and_assoc]
 refine and_congr_right fun hR=>and_congr_right fun h1=>?_
 have ha:=J7 hR hk
 rw[Q6 ((D8 hr hk).2 ⟨hR,h1⟩),B7 qd]
 simp only[and_true]
 rw[not_congr]
 constructor
 ·rintro (h | h)
  ·have:=(Ic r hr h1 h).1 rfl
   exact Ce this fun y hy=>.inl hy.1
  ·exact Ce ((Ab6 r hr ha).1 h) fun y hy=>.inr hy
 ·rintro ⟨y,hy,k1,k2 | k2⟩
  ·have hy1:=J7 (r.ok y hy) k1
   have:=(Ic r hr h1 hy1).2 ⟨y,hy,k1,k2,rfl⟩
   exact .inl (by rw[this];exact hy1)
  ·exact .inr ((Ab6 r hr ha).2 ⟨y,hy,k1,k2⟩)
theorem Xf {s:ByteArray} (h:0≤Ap n s):(nth n.devices (Ap n s)).vtep≠0↔has p 5 fun y=>y.dev=s:=by
 constructor
 ·intro e
  exact Ce ((Ic r hr h e).1 q_) fun y hy=>hy.1
 ·rintro ⟨y,hy,k1,k2⟩
  have hy1:=J7 (r.ok y hy) k1
  rw[(Ic r hr h hy1).2 ⟨y,hy,k1,k2,rfl⟩]
  exact hy1
theorem Af3 {s:ByteArray} {v:Int} (h:0≤Ap n s) (hd:0≤Bj n (Ap n s) v):(nth n.domains (Bj n (Ap n s) v)).vni≠0↔has p 6 fun y=>y.dev=s∧y.vlan=v:=by
 constructor
 ·intro e
  exact Ce ((Akc r hr h hd e).1 q_) fun y hy=>⟨hy.1,hy.2.1⟩
 ·rintro ⟨y,hy,k1,k2,k3⟩
  have hy1:=(Abr (r.ok y hy) k1).2
  rw[(Akc r hr h hd j_).2 ⟨y,hy,k1,k2,k3,rfl⟩]
  omega
theorem Aio {k:Int} {f g:LineM→Prop}:has p k (fun y=>f y∨g y)↔has p k f∨has p k g:=by
 constructor
 ·rintro ⟨y,hy,k1,k2 | k2⟩
  ·exact .inl ⟨y,hy,k1,k2⟩
  ·exact .inr ⟨y,hy,k1,k2⟩
 ·rintro (h | h)
  ·exact Ce h fun y hy=>.inl hy
  ·exact Ce h fun y hy=>.inr hy
theorem Ajr (hk:x.kind=6):(putVni n x).2=0↔Ao x=true∧(has p 1 fun y=>y.dev=x.dev)∧(has p 5 fun y=>y.dev=x.dev)∧(has p 2 fun y=>y.dev=x.dev∧x.vlan∈y.vlan::y.tagged)∧¬ has p 6 fun y=>(y.dev=x.dev∧y.vlan=x.vlan)∨(y.dev=x.dev∧y.num=x.num):=by
 rw[putVni]
 dsimp only
 rw[Jd,D8 hr hk,← C7 r,and_assoc]
 refine and_congr_right fun hR=>and_congr_right fun h1=>?_
 obtain ⟨ha,hb⟩:=Abr hR hk
 rw[Q6 ((D8 hr hk).2 ⟨hR,h1⟩),B7 qd,B7 qd,B7 qd]
 simp only[and_true]
 rw[← Xf r hr h1]
 refine and_congr_right fun _=>?_
 rw[Int.not_lt]
 have e:(has p 2 fun y=>y.dev=x.dev∧x.vlan∈y.vlan::y.tagged)↔0≤Bj n (Ap n x.dev) x.vlan:=by rw[Qd r hr h1];simp[ha]
 rw[e]
 refine and_congr_right fun h2=>?_
 rw[Aio r hr,← Af3 r hr h1 h2,← S6 r hr h1 j_]
theorem Ajq (hk:x.kind=7):(putFlood n x).2=0↔Ao x=true∧(has p 1 fun y=>y.dev=x.dev)∧(has p 6 fun y=>y.dev=x.dev∧y.num=x.num)∧(¬ has p 7 fun y=>y.dev=x.dev∧y.num=x.num)∧(nth n.devices (Ap n x.dev)).vtep∉x.addrs∧n.floods.length<48:=by
 have hf:=few_iff.1 hr.few
 rw[putFlood]
 dsimp only
 rw[Jd,D8 hr hk,← C7 r,and_assoc]
 refine and_congr_right fun hR=>and_congr_right fun h1=>?_
 obtain ⟨ha,hb⟩:=Abq hR hk
 rw[Q6 ((D8 hr hk).2 ⟨hR,h1⟩),B7 qd,B7 qd,B7 qd,B7 qd,Int.not_lt,S6 r hr h1 j_,Yh r hr h1]
 simp only[and_true,O7,List.contains_iff_mem]
 refine and_congr Iff.rfl (and_congr Iff.rfl (and_congr Iff.rfl ?_))
 omega
theorem Ajp (hk:x.kind=8):(putVrf n x).2=0↔Ao x=true∧(has p 1 fun y=>y.dev=x.dev)∧(¬ has p 8 fun y=>y.dev=x.dev∧y.name=x.name)∧n.vrfs.length<16:=by
 have hf:=few_iff.1 hr.few
 rw[putVrf]
 dsimp only
 rw[Jd,D8 hr hk,← C7 r,and_assoc]
 refine and_congr_right fun hR=>and_congr_right fun h1=>?_
 rw[Q6 ((D8 hr hk).2 ⟨hR,h1⟩),B7 qd,B7 qd,Abh r hr h1]
 simp only[and_true]
 refine and_congr Iff.rfl ?_
 omega
theorem Ajo (hk:x.kind=9):(putIrb n x).2=0↔Ao x=true∧(has p 1 fun y=>y.dev=x.dev)∧(has p 8 fun y=>y.dev=x.dev∧y.name=x.name)∧(has p 2 fun y=>y.dev=x.dev∧x.vlan∈y.vlan::y.tagged) ∧
  ¬ has p 9 fun y=>(y.dev=x.dev∧y.vlan=x.vlan)∨(y.addr=x.addr∨(y.dev≠x.dev∧(J1 y.addr y.bits x.addr=true∨J1 x.addr x.bits y.addr=true))):=by
 rw[putIrb]
 dsimp only
 rw[Jd,D8 hr hk,← C7 r,and_assoc]
 refine and_congr_right fun hR=>and_congr_right fun h1=>?_
 have ha:=Ajl hR hk
 rw[Q6 ((D8 hr hk).2 ⟨hR,h1⟩),B7 qd,B7 qd,B7 qd,Int.not_lt,Abh r hr h1,Int.not_lt]
 simp only[and_true]
 refine and_congr Iff.rfl ?_
 have e:(has p 2 fun y=>y.dev=x.dev∧x.vlan∈y.vlan::y.tagged)↔0≤Bj n (Ap n x.dev) x.vlan:=by rw[Qd r hr h1];simp[ha]
 rw[e]
 refine and_congr_right fun h2=>?_
 rw[Aio r hr,← Aqx r hr h1 h2]
 refine not_congr (or_congr Iff.rfl ?_)
 rw[List.any_eq_true]
 simp only[clashB,Bool.or_eq_true,Bool.and_eq_true,beq_iff_eq,bne_iff_ne,ne_eq]
 constructor
 ·rintro ⟨i,hi,e⟩
  have hp:=I4 r hr (Ba (O9 r hr hi).2)
  refine Ce ((r.irb (dn n (nth n.vrfs i.vrf).dev) i.addr i.bits).1 ⟨i,hi,q_,q_,q_⟩) fun y hy=>?_
  rw[hy.1,hy.2.1,hy.2.2,Ef r h1 hp]
  exact e
 ·rintro ⟨y,hy,k1,k2⟩
  obtain ⟨i,hi,e1,e2,e3⟩:=(r.irb y.dev y.addr y.bits).2 ⟨y,hy,k1,rfl,rfl,rfl⟩
  have hp:=I4 r hr (Ba (O9 r hr hi).2)
  refine⟨i,hi,?_⟩
  rw[← Ef r h1 hp,e1,e2,e3]
  exact k2
end
end Go.Sy.YtdkfcckkkfghgaaGreatDoor
namespace Go.Sy.YtdkfcckkkfghgaaGreatDoor
open Go.Proofs
theorem Xu {x:LineM} (h:Ao x=true):x.kind=1∨x.kind=2∨x.kind=3∨x.kind=4∨x.kind=5∨x.kind=6∨x.kind=7∨x.kind=8∨x.kind=9:=by
 by_cases k1:x.kind=1;· simp[k1]
 by_cases k2:x.kind=2;· simp[k2]
 by_cases k3:x.kind=3;· simp[k3]
 by_cases k4:x.kind=4;· simp[k4]
 by_cases k5:x.kind=5;· simp[k5]
 by_cases k6:x.kind=6;· simp[k6]
 by_cases k7:x.kind=7;· simp[k7]
 by_cases k8:x.kind=8;· simp[k8]
 by_cases k9:x.kind=9;· simp[k9]
 simp only[Ao,A0,if_neg k1,if_neg k2,if_neg k3,if_neg k4,if_neg k5,if_neg k6,if_neg k7,if_neg k8,if_neg k9,Bool.false_and]at h
 cases h
theorem Xx {n:Net} {x:LineM} (hr:NetR n) (h:(putT n x).2=0):Ao x=true:=by
 have hk:x.kind=1∨x.kind=2∨x.kind=3∨x.kind=4∨x.kind=5∨x.kind=6∨x.kind=7∨x.kind=8∨x.kind=9:=by
  rw[putT]at h
  repeat' split at h
  all_goals first | omega | (simp at h)
 rcases hk with hk | hk | hk | hk | hk | hk | hk | hk | hk
 all_goals simp only[putT,hk,Int.reduceEq,↓reduceIte]at h
 ·rw[putDevice,B7 qd,Ke hr hk]at h;exact h.1
 ·rw[putPort,B7 qd,Ke hr hk]at h;exact h.1
 ·rw[putLink,B7 qd,Ke hr hk]at h;exact h.1
 ·rw[putStatic,B7 qd,Ke hr hk]at h;exact h.1
 ·rw[putVtep,Jd,D8 hr hk]at h;exact h.1.1
 ·rw[putVni,Jd,D8 hr hk]at h;exact h.1.1
 ·rw[putFlood,Jd,D8 hr hk]at h;exact h.1.1
 ·rw[putVrf,Jd,D8 hr hk]at h;exact h.1.1
 ·rw[putIrb,Jd,D8 hr hk]at h;exact h.1.1
theorem He {p:List LineM} {x:LineM} {k:Int} {q:LineM→Prop} (hk:x.kind=k) (hq:∀ y,y.kind=k→(Dv y x↔q y)):(∀ y∈p,¬ Dv y x)↔¬ has p k q:=by
 constructor
 ·rintro h ⟨y,hy,k1,k2⟩
  exact h y hy ((hq y k1).2 k2)
 ·intro h y hy hc
  have k1:y.kind=k:=hc.1.trans hk
  exact h ⟨y,hy,k1,(hq y k1).1 hc⟩
section
variable {n:Net} {p:List LineM} (r:Rep n p) (hr:NetR n) (x:LineM)
include r hr
theorem Akf {s:ByteArray} (h:has p 5 fun y=>y.dev=s):has p 1 fun y=>y.dev=s:=by
 obtain ⟨y,hy,h1,h2⟩:=h
 obtain ⟨d,hd,e,_⟩:=(r.vtep s y.addr (J7 (r.ok y hy) h1)).2 ⟨y,hy,h1,h2,rfl⟩
 exact(C7 r s).1 ((Ui r s).2 ⟨d,hd,e⟩)
theorem Aqz {s:ByteArray} {q:LineM→Prop} (h:has p 8 fun y=>y.dev=s∧q y):has p 1 fun y=>y.dev=s:=by
 obtain ⟨y,hy,h1,h2,_⟩:=h
 obtain ⟨d,hd,e,_⟩:=(r.vrf s y.name).2 ⟨y,hy,h1,h2,rfl⟩
 exact(C7 r s).1 ((Ui r s).2 ⟨_,Ba (I4 r hr hd),e⟩)
theorem Ann:(putT n x).2=0↔Ao x=true∧need p x∧(∀ y∈p,¬ Dv y x)∧Zl n x:=by
 by_cases hR:¬ Ao x=true
 ·exact⟨fun h=>absurd (Xx hr h) hR,fun h=>absurd h.1 hR⟩
 have hR:=Decidable.not_not.1 hR
 rcases Xu hR with hk | hk | hk | hk | hk | hk | hk | hk | hk
 ·rw[He hk (q:=fun y=>y.dev=x.dev∨y.mac=x.mac) (fun y h=>by simp[Dv,hk,h]),show putT n x=putDevice n x by simp[putT,hk],Ajw r hr x hk]
  simp[need,Zl,hk]
 ·rw[He hk (q:=fun y=>y.dev=x.dev∧y.port=x.port) (fun y h=>by simp[Dv,hk,h]),show putT n x=putPort n x by simp[putT,hk],Ajv r hr x hk]
  simp[need,Zl,hk]
 ·rw[He hk (q:=fun y=>((y.dev=x.dev∧y.port=x.port)∨(y.peer=x.dev∧y.far=x.port))∨((y.dev=x.peer∧y.port=x.far)∨(y.peer=x.peer∧y.far=x.far))) (fun y h=>by simp[Dv,hk,h]),show putT n x=putLink n x by simp[putT,hk],Aju r hr x hk,
   Aio r hr (f:=fun y=>(y.dev=x.dev∧y.port=x.port)∨(y.peer=x.dev∧y.far=x.port)) (g:=fun y=>(y.dev=x.peer∧y.port=x.far)∨(y.peer=x.peer∧y.far=x.far))]
  simp only[need,Zl,hk,hR,true_and,not_or,and_assoc,Int.reduceEq,or_self,false_implies,forall_const,and_true,Int.reduceLE,ne_eq]
 ·rw[He hk (q:=fun y=>y.dev=x.dev∧y.vlan=x.vlan∧y.mac=x.mac) (fun y h=>by simp[Dv,hk,h]),show putT n x=putStatic n x by simp[putT,hk],Ajt r hr x hk]
  simp[need,Zl,hk]
 ·rw[He hk (q:=fun y=>y.dev=x.dev∨y.addr=x.addr) (fun y h=>by simp[Dv,hk,h]),show putT n x=putVtep n x by simp[putT,hk],Ajs r hr x hk]
  simp[need,Zl,hk]
 ·rw[He hk (q:=fun y=>(y.dev=x.dev∧y.vlan=x.vlan)∨(y.dev=x.dev∧y.num=x.num)) (fun y h=>by simp[Dv,hk,h]),show putT n x=putVni n x by simp[putT,hk],Ajr r hr x hk]
  simp only[need,Zl,hk,hR,true_and]
  simp only[Int.reduceEq,or_self,false_implies,forall_const,true_and,and_true,Int.reduceLE,and_self]
  constructor
  ·rintro ⟨a,b,c,d⟩;exact⟨⟨b,c⟩,d⟩
  ·rintro ⟨⟨b,c⟩,d⟩;exact⟨Akf r hr b,b,c,d⟩
 ·rw[He hk (q:=fun y=>y.dev=x.dev∧y.num=x.num) (fun y h=>by simp[Dv,hk,h]),show putT n x=putFlood n x by simp[putT,hk],Ajq r hr x hk]
  simp only[need,Zl,hk,hR,true_and]
  simp only[Int.reduceEq,or_self,false_implies,forall_const,true_and,and_true,Int.reduceLE,and_self]
  constructor
  ·rintro ⟨a,b,c,d,e⟩
   have d1:=(C7 r _).2 a
   have h5:=(Xf r hr d1).2 (r.six _ (Ce b fun y hy=>hy.1))
   exact⟨⟨b,Ce ((Ic r hr d1 h5).1 q_) fun y hy=>⟨hy.1,by rw[hy.2];exact d⟩⟩,c,e⟩
  ·rintro ⟨⟨b,y,hy,k1,k2,k3⟩,d,e⟩
   have a:=Akf r hr ⟨y,hy,k1,k2⟩
   have d1:=(C7 r _).2 a
   refine⟨a,b,d,?_,e⟩
   rw[(Ic r hr d1 (J7 (r.ok y hy) k1)).2 ⟨y,hy,k1,k2,rfl⟩]
   exact k3
 ·rw[He hk (q:=fun y=>y.dev=x.dev∧y.name=x.name) (fun y h=>by simp[Dv,hk,h]),show putT n x=putVrf n x by simp[putT,hk],Ajp r hr x hk]
  simp[need,Zl,hk]
 ·rw[He hk (q:=fun y=>(y.dev=x.dev∧y.vlan=x.vlan)∨(y.addr=x.addr∨(y.dev≠x.dev∧(J1 y.addr y.bits x.addr=true∨J1 x.addr x.bits y.addr=true)))) (fun y h=>by simp[Dv,hk,h]),show putT n x=putIrb n x by simp[putT,hk],Ajo r hr x hk]
  simp only[need,Zl,hk,hR,true_and]
  simp only[Int.reduceEq,or_self,false_implies,forall_const,true_and,and_true,Int.reduceLE,and_self]
  constructor
  ·rintro ⟨a,b,c,d⟩;exact⟨⟨b,c⟩,d⟩
  ·rintro ⟨⟨b,c⟩,d⟩;exact⟨Aqz r hr b,b,c,d⟩
end
end Go.Sy.YtdkfcckkkfghgaaGreatDoor
namespace Go.Sy.YtdkfcckkkfghgaaGreatDoor
open Go.Proofs
theorem Bw {c:Prop} [Decidable c] {m:Net} {e:Int} {y:Net × Int} (he:e≠0) (h:(if c then (m,e) else y).2=0):(if c then (m,e) else y)=y:=by
 by_cases hc:c
 ·rw[if_pos hc]at h;exact absurd h he
 ·rw[if_neg hc]
theorem Oh {c:Int} {y:Net × Int} (h:(if c≠0 then (emptyN,c) else y).2=0):(if c≠0 then (emptyN,c) else y)=y:=by
 by_cases hc:c≠0
 ·rw[if_pos hc]at h;exact absurd h hc
 ·rw[if_neg hc]
theorem Mb {α:Type} {P:α→Prop} {l:List α} {y:α}:(∃ q∈l++[y],P q)↔(∃ q∈l,P q)∨P y:=by
 simp only[List.mem_append,List.mem_singleton,or_and_right,exists_or,exists_eq_left]
theorem C6 {α:Type} {P Q:α→Prop} {l:List α} (h:∀ q∈l,(P q↔Q q)):(∃ q∈l,P q)↔∃ q∈l,Q q:=by
 constructor
 ·rintro ⟨q,hq,e⟩;exact⟨q,hq,(h q hq).1 e⟩
 ·rintro ⟨q,hq,e⟩;exact⟨q,hq,(h q hq).2 e⟩
theorem Y4 {α:Type} [Inhabited α] {P:α→Prop} {l:List α} {y:α} {j:Nat} (hj:j<l.length) (h:P (nth l (j:Int))→P y):(∃ q∈l.set j y,P q)↔(∃ q∈l,P q)∨P y:=by
 constructor
 ·rintro ⟨q,hq,e⟩
  rcases List.mem_or_eq_of_mem_set hq with hq | rfl
  ·exact .inl ⟨q,hq,e⟩
  ·exact .inr e
 ·rintro (⟨q,hq,e⟩ | e)
  ·obtain ⟨i,hi,rfl⟩:=List.mem_iff_getElem.1 hq
   by_cases ij:i=j
   ·subst ij
    refine⟨y,List.mem_set hi y,h ?_⟩
    rw[← Cc l i hi];exact e
   ·refine⟨l[i],?_,e⟩
    refine List.mem_iff_getElem.2 ⟨i,by simpa using hi,?_⟩
    rw[List.getElem_set_ne j_]
  ·exact⟨y,List.mem_set hj y,e⟩
theorem Qc {α:Type} [Inhabited α] {P:α→Prop} {l:List α} {y:α} {j:Nat} (hj:j<l.length) (h:P (nth l (j:Int))↔P y):(∃ q∈l.set j y,P q)↔(∃ q∈l,P q):=by
 rw[Y4 hj h.1]
 refine⟨fun e=>?_,.inl⟩
 rcases e with e | e
 ·exact e
 ·exact⟨_,Ba (Cf hj),h.2 e⟩
theorem Kh {α β:Type} [Inhabited α] (l:List α) (x:α) (j:Nat) (i:Int) (f:α→β) (hf:f x=f (nth l (j:Int))) (hj:j<l.length):f (nth (l.set j x) i)=f (nth l i):=by
 by_cases e:i.toNat=j
 ·have:nth (l.set j x) i=x:=by rw[nth,e,List.getElem?_set_self hj];rfl
  have h2:nth l i=nth l (j:Int):=Jl _ e
  rw[this,h2,hf]
 ·rw[Em _ _ e]
theorem Oz (dev:Int):∀ (l:List Int) (ds:List Domain),∃ e,At dev ds l=ds++e
 | [],ds=>⟨[],(List.append_nil _).symm⟩
 | v::l,ds=>by
  obtain ⟨e,he⟩:=Oz dev l (Bh dev ds v)
  have h1:∃ e,Bh dev ds v=ds++e:=by
   rw[Bh];split
   ·exact⟨_,q_⟩
   ·exact⟨[],(List.append_nil _).symm⟩
  obtain ⟨e1,h1⟩:=h1
  exact⟨e1++e,by rw[show At dev ds (v::l)=At dev (Bh dev ds v) l from q_,he,h1,List.append_assoc]⟩
theorem Oy (dev:Int):∀ (l:List Int) (ds:List Domain) (d:Domain),d∈At dev ds l→d∈ds∨∃ v∈l,0<v∧d=⟨dev,v,0,-1,0,[]⟩
 | [],ds,d,h=>.inl h
 | v::l,ds,d,h=>by
  rcases Oy dev l (Bh dev ds v) d h with h1 | ⟨w,hw,h0,e⟩
  ·rw[Bh]at h1
   split at h1
   ·rename_i hc
    rcases List.mem_append.1 h1 with h1 | h1
    ·exact .inl h1
    ·exact .inr ⟨v,by simp,hc.1,List.mem_singleton.1 h1⟩
   ·exact .inl h1
  ·exact .inr ⟨w,by simp[hw],h0,e⟩
theorem Wr (dev:Int):∀ (l:List Int) (ds:List Domain) (v:Int),v∈l→0<v→∃ d∈At dev ds l,d.dev=dev∧d.vlan=v
 | [],ds,v,h,_=>by cases h
 | w::l,ds,v,h,h0=>by
  rcases List.mem_cons.1 h with rfl | h
  ·have h1:∃ d∈Bh dev ds v,d.dev=dev∧d.vlan=v:=by
    rw[Bh]
    split
    ·exact⟨_,List.mem_append_right _ (List.mem_singleton.2 q_),q_,q_⟩
    ·rename_i hc
     cases ha:ds.any (fun d=>d.dev == dev && d.vlan == v) with
     | false=>exact absurd ⟨h0,ha⟩ hc
     | true =>
      obtain ⟨d,hd,e⟩:=List.any_eq_true.1 ha
      simp only[Bool.and_eq_true,beq_iff_eq]at e
      exact⟨d,hd,e⟩
   obtain ⟨d,hd,e⟩:=h1
   obtain ⟨t,ht⟩:=Oz dev l (Bh dev ds v)
   exact⟨d,by rw[show At dev ds (v::l)=At dev (Bh dev ds v) l from q_,ht];exact List.mem_append_left _ hd,e⟩
  ·exact Wr dev l (Bh dev ds w) v h h0
section
variable {n:Net} {p:List LineM} (r:Rep n p) (hr:NetR n) {x:LineM}
include r hr
theorem Oc (h:Ao x=true):∀ y∈x::p,Ao y=true:=fun y hy=>by
 rcases List.mem_cons.1 hy with rfl | hy
 ·exact h
 ·exact r.ok y hy
theorem K1 (h:x.kind=6→has p 5 fun y=>y.dev=x.dev) (s:ByteArray) (h6:has (x::p) 6 fun y=>y.dev=s):has (x::p) 5 fun y=>y.dev=s:=by
 have hm:∀ s,(has p 5 fun y=>y.dev=s)→has (x::p) 5 fun y=>y.dev=s:=fun s ⟨y,hy,e⟩=>⟨y,List.mem_cons_of_mem _ hy,e⟩
 by_cases hk:x.kind=6
 ·rcases (Hd hk).1 h6 with h6 | h6
  ·exact hm s (r.six s h6)
  ·rw[← h6];exact hm _ (h hk)
 ·exact hm s (r.six s ((Ag hk).1 h6))
theorem Aec {D:List Device} (hD:n.devices.length≤D.length) (hdn:∀ i,Af i n.devices.length=true→(nth D i).name=dn n i) (hk:x.kind=1∨x.kind=5) (hR:Ao x=true)
  (h1:∀ i j:Int,Af i D.length=true→Af j D.length=true→(nth D i).name=(nth D j).name→i=j)
  (h2:∀ s m,(∃ d∈D,d.name=s∧d.mac=m)↔has (x::p) 1 (fun x=>x.dev=s∧x.mac=m))
  (h3:∀ s a,a≠0→((∃ d∈D,d.name=s∧d.vtep=a)↔has (x::p) 5 (fun x=>x.dev=s∧x.addr=a))):Rep { n with devices:=D } (x::p) where
 nm:=h1
 dev:=h2
 vtep:=h3
 ok:=Oc r hr hR
 six:=K1 r hr fun h=>by omega
 pnm:=r.pnm
 port s t v T:=(C6 fun q hq=>by rw[dn,hdn _ (Df r hr hq)]).trans ((r.port s t v T).trans (Ag j_).symm)
 tied s t:=(C6 fun q hq=>by rw[dn,hdn _ (Df r hr hq)]).trans ((r.tied s t).trans (Ag j_).symm)
 link s t a b:=(C6 fun q hq=>by
  have:=Yj r hr hq
  rw[dn,dn,hdn _ (Df r hr (Ba this.1)),hdn _ (Df r hr (Ba this.2))]).trans ((r.link s t a b).trans (Ag j_).symm)
 dom s v:=(C6 fun q hq=>by rw[dn,hdn _ (B2 r hr hq)]).trans ((r.dom s v).trans (and_congr Iff.rfl (Ag j_).symm))
 vni s v w hw:=(C6 fun q hq=>by rw[dn,hdn _ (B2 r hr hq)]).trans ((r.vni s v w hw).trans (Ag j_).symm)
 dirb s v:=(C6 fun q hq=>by rw[dn,hdn _ (B2 r hr hq)]).trans ((r.dirb s v).trans (Ag j_).symm)
 stat s v m:=(C6 fun q hq=>by rw[dn,hdn _ (B2 r hr (Ba (Lu r hr hq)))]).trans ((r.stat s v m).trans (Ag j_).symm)
 flood s w A:=(C6 fun q hq=>by rw[dn,hdn _ (Jv r hr hq)]).trans ((r.flood s w A).trans (Ag j_).symm)
 vrf s t:=(C6 fun q hq=>by rw[dn,hdn _ (I4 r hr hq)]).trans ((r.vrf s t).trans (Ag j_).symm)
 irb s a b:=(C6 fun q hq=>by rw[dn,hdn _ (I4 r hr (Ba (O9 r hr hq).2))]).trans ((r.irb s a b).trans (Ag j_).symm)
theorem rep1 (hk:x.kind=1) (h:(putDevice n x).2=0):Rep (putDevice n x).1 (x::p):=by
 obtain ⟨hR,hno,_⟩:=(Ajw r hr x hk).1 h
 have e:putDevice n x=({ n with devices:=n.devices++[⟨x.row,x.num,x.dev,x.mac,0⟩] },0):=by
  rw[putDevice]at h ⊢
  have e1:=Bw qd h
  rw[e1]at h ⊢
  have e2:=Bw qd h
  rw[e2]at h ⊢
  have e3:=Bw qd h
  rw[e3]
 rw[e]
 have hold:∀ i:Int,Af i n.devices.length=true→nth (n.devices++[(⟨x.row,x.num,x.dev,x.mac,0⟩:Device)]) i=nth n.devices i:=fun i hi=>by
  have:=place_iff.1 hi
  exact Ed _ _ j_
 have hne:∀ i:Int,Af i n.devices.length=true→(nth n.devices i).name≠x.dev:=fun i hi en=>by
  refine hno (Ce ((r.dev x.dev (nth n.devices i).mac).1 ⟨_,Ba hi,en,q_⟩) fun y hy=>.inl hy.1)
 have hcase:∀ i:Int,Af i (n.devices++[(⟨x.row,x.num,x.dev,x.mac,0⟩:Device)]).length=true→Af i n.devices.length=true∨i=(n.devices.length:Int):=fun i hi=>by
  have:=place_iff.1 hi
  simp only[List.length_append,List.length_singleton]at this
  by_cases e:i=(n.devices.length:Int)
  ·exact .inr e
  ·exact .inl (place_iff.2 j_)
 refine Aec r hr qe (fun i hi=>by rw[hold i hi];rfl) (.inl hk) hR ?_ ?_ ?_
 ·intro i j hi hj en
  rcases hcase i hi with hi | rfl<;>rcases hcase j hj with hj | rfl
  ·rw[hold i hi,hold j hj]at en
   exact r.nm i j hi hj en
  ·rw[hold i hi,Da]at en
   exact absurd en (hne i hi)
  ·rw[hold j hj,Da]at en
   exact absurd en.symm (hne j hj)
  ·rfl
 ·intro s m
  rw[Mb,Hd hk,r.dev]
 ·intro s a ha
  rw[Mb,Ag j_,r.vtep s a ha]
  refine⟨fun h=>?_,.inl⟩
  rcases h with h | h
  ·exact h
  ·exact absurd h.2.symm ha
theorem rep5 (hk:x.kind=5) (h:(putVtep n x).2=0):Rep (putVtep n x).1 (x::p):=by
 obtain ⟨hR,hd,hno⟩:=(Ajs r hr x hk).1 h
 have h1:=(C7 r _).2 hd
 obtain ⟨a1,a2⟩:=Du r h1
 obtain ⟨j,ej,hj⟩:=D4 a1
 have e:putVtep n x=({ n with devices:=n.devices.set j { nth n.devices (j:Int) with vtep:=x.addr } },0):=by
  rw[putVtep]at h ⊢
  dsimp only at h ⊢
  have e1:=Oh h
  rw[e1]at h ⊢
  have e2:=Bw qd h
  rw[e2]
  rw[Q6 ((D8 hr hk).2 ⟨hR,h1⟩),ej,U4,Int.toNat_natCast]
 rw[e]
 rw[ej]at a2
 have hz:(nth n.devices (j:Int)).vtep=0:=by
  have:=not_congr (Xf r hr h1)
  rw[ej]at this
  exact Decidable.not_not.1 (this.2 fun h=>hno (Ce h fun y hy=>.inl hy))
 have hname:∀ i,(nth (n.devices.set j { nth n.devices (j:Int) with vtep:=x.addr }) i).name=dn n i:=fun i=>Kh _ _ j i Device.name rfl hj
 refine Aec r hr qe (fun i hi=>hname i) (.inr hk) hR ?_ ?_ ?_
 ·intro i k hi hj en
  rw[List.length_set]at hi hj
  rw[hname,hname]at en
  exact r.nm i k hi hj en
 ·intro s m
  refine Iff.trans (Qc hj Iff.rfl) ?_
  rw[Ag j_,r.dev]
 ·intro s a ha
  refine Iff.trans (Y4 hj (fun h=>absurd (h.2.symm.trans hz) ha)) ?_
  rw[Hd hk,r.vtep s a ha]
  refine or_congr Iff.rfl ?_
  show dn n (j:Int)=s∧x.addr=a↔_
  rw[a2]
end
end Go.Sy.YtdkfcckkkfghgaaGreatDoor
namespace Go.Sy.YtdkfcckkkfghgaaGreatDoor
open Go.Proofs
theorem An3 {α:Type} [Inhabited α] {l e:List α} {i:Int} (h:i.toNat<l.length):nth (l++e) i=nth l i:=by
 rw[nth,nth,List.getElem?_append_left h]
section
variable {n:Net} {p:List LineM} (r:Rep n p) (hr:NetR n) {x:LineM}
include r hr
theorem rep2 (hk:x.kind=2) (h:(putPort n x).2=0):Rep (putPort n x).1 (x::p):=by
 obtain ⟨hR,hd,hno,_⟩:=(Ajv r hr x hk).1 h
 have h1:=(C7 r _).2 hd
 obtain ⟨a1,a2⟩:=Du r h1
 have e:putPort n x=({ n with ports:=n.ports++[⟨x.row,Ap n x.dev,x.vlan,x.cost,-1,x.port,x.tagged⟩],domains:=At (Ap n x.dev) n.domains (x.vlan::x.tagged) },0):=by
  rw[putPort]at h ⊢
  have e1:=Bw qd h
  rw[e1]at h ⊢
  have e2:=Bw qd h
  rw[e2]at h ⊢
  have e3:=Bw qd h
  rw[e3]at h ⊢
  have e4:=Bw qd h
  rw[e4]at h ⊢
  have e5:=Bw qd h
  rw[e5]
 rw[e]
 generalize hD:At (Ap n x.dev) n.domains (x.vlan::x.tagged)=D
 obtain ⟨E,hE⟩:=Oz (Ap n x.dev) (x.vlan::x.tagged) n.domains
 rw[hD]at hE
 have hnew:=Oy (Ap n x.dev) (x.vlan::x.tagged) n.domains
 have hall:=Wr (Ap n x.dev) (x.vlan::x.tagged) n.domains
 rw[hD]at hnew hall
 have hin:∀ d∈n.domains,d∈D:=fun d hd=>by rw[hE];exact List.mem_append_left _ hd
 have hdom:∀ i:Int,Af i n.domains.length=true→nth D i=nth n.domains i:=fun i hi=>by
  have:=place_iff.1 hi
  rw[hE]
  exact An3 (show i.toNat<n.domains.length by omega)
 have hold:∀ i:Int,Af i n.ports.length=true→nth (n.ports++[(⟨x.row,Ap n x.dev,x.vlan,x.cost,-1,x.port,x.tagged⟩:Port)]) i=nth n.ports i:=fun i hi=>by
  have:=place_iff.1 hi
  exact Ed _ _ j_
 have hne:∀ i:Int,Af i n.ports.length=true→(nth n.ports i).dev=Ap n x.dev→(nth n.ports i).name≠x.port:=fun i hi ed en=>by
  refine hno (Ce ((r.port x.dev x.port (nth n.ports i).native (nth n.ports i).tagged).1 ⟨_,Ba hi,by rw[ed];exact a2,en,q_,q_⟩) fun y hy=>⟨hy.1,hy.2.1⟩)
 have hcase:∀ i:Int,Af i (n.ports++[(⟨x.row,Ap n x.dev,x.vlan,x.cost,-1,x.port,x.tagged⟩:Port)]).length=true→Af i n.ports.length=true∨i=(n.ports.length:Int):=fun i hi=>by
  have:=place_iff.1 hi
  simp only[List.length_append,List.length_singleton]at this
  by_cases e:i=(n.ports.length:Int)
  ·exact .inr e
  ·exact .inl (place_iff.2 j_)
 exact {
  nm:=r.nm
  dev:=fun s m=>(r.dev s m).trans (Ag j_).symm
  vtep:=fun s a ha=>(r.vtep s a ha).trans (Ag j_).symm
  ok:=Oc r hr hR
  six:=K1 r hr fun h=>by omega
  pnm:=fun i j hi hj ed en=>by
   rcases hcase i hi with hi | rfl<;>rcases hcase j hj with hj | rfl
   ·rw[hold i hi,hold j hj]at en ed
    exact r.pnm i j hi hj ed en
   ·rw[hold i hi,Da]at en ed
    exact absurd en (hne i hi ed)
   ·rw[hold j hj,Da]at en ed
    exact absurd en.symm (hne j hj ed.symm)
   ·rfl
  port:=fun s t v T=>by
   rw[Hd hk]
   refine Iff.trans Mb (or_congr (r.port s t v T) ?_)
   show dn n (Ap n x.dev)=s∧_↔_
   rw[a2]
  tied:=fun s t=>by
   rw[Ag j_,← r.tied]
   refine Iff.trans Mb ⟨fun h=>?_,.inl⟩
   rcases h with h | h
   ·exact h
   ·exact absurd h.2.2 (by show ¬ (0:Int)≤-1;omega)
  link:=fun s t a b=>by
   rw[Ag j_,← r.link]
   refine C6 fun q hq=>?_
   have:=Yj r hr hq
   dsimp only
   rw[hold _ this.1,hold _ this.2]
   rfl
  dom:=fun s v=>by
   rw[Hd hk]
   constructor
   ·rintro ⟨d,hd,e1,e2⟩
    rcases hnew d hd with hd | ⟨w,hw,h0,rfl⟩
    ·have:=(r.dom s v).1 ⟨d,hd,e1,e2⟩
     exact⟨this.1,.inl this.2⟩
    ·have e2:w=v:=e2
     subst e2
     exact⟨h0,.inr ⟨a2.symm.trans e1,hw⟩⟩
   ·rintro ⟨h0,h⟩
    rcases h with h | ⟨h2,h3⟩
    ·obtain ⟨d,hd,e⟩:=(r.dom s v).2 ⟨h0,h⟩
     exact⟨d,hin d hd,e⟩
    ·obtain ⟨d,hd,e1,e2⟩:=hall v h3 h0
     exact⟨d,hd,by rw[e1];exact a2.trans h2,e2⟩
  vni:=fun s v w hw=>by
   rw[Ag j_,← r.vni s v w hw]
   constructor
   ·rintro ⟨d,hd,e1,e2,e3⟩
    rcases hnew d hd with hd | ⟨_,_,h0,rfl⟩
    ·exact⟨d,hd,e1,e2,e3⟩
    ·exact absurd e3.symm hw
   ·rintro ⟨d,hd,e⟩
    exact⟨d,hin d hd,e⟩
  dirb:=fun s v=>by
   rw[Ag j_,← r.dirb s v]
   constructor
   ·rintro ⟨d,hd,e1,e2,e3⟩
    rcases hnew d hd with hd | ⟨_,_,h0,rfl⟩
    ·exact⟨d,hd,e1,e2,e3⟩
    ·exact absurd e3 (by show ¬ (0:Int)≤-1;omega)
   ·rintro ⟨d,hd,e⟩
    exact⟨d,hin d hd,e⟩
  stat:=fun s v m=>by
   rw[Ag j_,← r.stat s v m]
   refine C6 fun q hq=>?_
   dsimp only
   rw[hdom _ (Lu r hr hq)]
   rfl
  flood:=fun s w A=>(r.flood s w A).trans (Ag j_).symm
  vrf:=fun s t=>(r.vrf s t).trans (Ag j_).symm
  irb:=fun s a b=>(r.irb s a b).trans (Ag j_).symm }
theorem rep4 (hk:x.kind=4) (h:(putStatic n x).2=0):Rep (putStatic n x).1 (x::p):=by
 obtain ⟨hR,hpt,hno,_⟩:=(Ajt r hr x hk).1 h
 have d1:=Adf r hr hpt
 have d3:0≤Bj n (Ap n x.dev) x.vlan:=(Qd r hr d1 _).2 ⟨Ajm hR hk,Ce hpt fun y hy=>⟨hy.1,hy.2.2⟩⟩
 obtain ⟨b1,b2,b3⟩:=Lg r hr d3
 have e:putStatic n x=({ n with statics:=n.statics++[⟨x.row,Bj n (Ap n x.dev) x.vlan,E9 n (Ap n x.dev) x.port,x.mac⟩] },0):=by
  rw[putStatic]at h ⊢
  dsimp only at h ⊢
  have e1:=Bw qd h
  rw[e1]at h ⊢
  have e2:=Bw qd h
  rw[e2]at h ⊢
  have e3:=Bw qd h
  rw[e3]at h ⊢
  have e4:=Bw qd h
  rw[e4]at h ⊢
  have e5:=Bw qd h
  rw[e5]
 rw[e]
 exact {
  nm:=r.nm
  dev:=fun s m=>(r.dev s m).trans (Ag j_).symm
  vtep:=fun s a ha=>(r.vtep s a ha).trans (Ag j_).symm
  ok:=Oc r hr hR
  six:=K1 r hr fun h=>by omega
  pnm:=r.pnm
  port:=fun s t v T=>(r.port s t v T).trans (Ag j_).symm
  tied:=fun s t=>(r.tied s t).trans (Ag j_).symm
  link:=fun s t a b=>(r.link s t a b).trans (Ag j_).symm
  dom:=fun s v=>(r.dom s v).trans (and_congr Iff.rfl (Ag j_).symm)
  vni:=fun s v w hw=>(r.vni s v w hw).trans (Ag j_).symm
  dirb:=fun s v=>(r.dirb s v).trans (Ag j_).symm
  stat:=fun s v m=>by
   rw[Hd hk]
   refine Iff.trans Mb (or_congr (r.stat s v m) ?_)
   show dn n (nth n.domains (Bj n (Ap n x.dev) x.vlan)).dev=s∧(nth n.domains (Bj n (Ap n x.dev) x.vlan)).vlan=v∧_↔_
   rw[b2,b3,(Du r d1).2]
  flood:=fun s w A=>(r.flood s w A).trans (Ag j_).symm
  vrf:=fun s t=>(r.vrf s t).trans (Ag j_).symm
  irb:=fun s a b=>(r.irb s a b).trans (Ag j_).symm }
theorem rep7 (hk:x.kind=7) (h:(putFlood n x).2=0):Rep (putFlood n x).1 (x::p):=by
 obtain ⟨hR,hd,_⟩:=(Ajq r hr x hk).1 h
 have h1:=(C7 r _).2 hd
 have e:putFlood n x=({ n with floods:=n.floods++[⟨x.row,Ap n x.dev,x.num,x.addrs⟩] },0):=by
  rw[putFlood]at h ⊢
  dsimp only at h ⊢
  have e1:=Oh h
  rw[e1]at h ⊢
  have e2:=Bw qd h
  rw[e2]at h ⊢
  have e3:=Bw qd h
  rw[e3]at h ⊢
  have e4:=Bw qd h
  rw[e4]at h ⊢
  have e5:=Bw qd h
  rw[e5,Q6 ((D8 hr hk).2 ⟨hR,h1⟩)]
 rw[e]
 exact {
  nm:=r.nm
  dev:=fun s m=>(r.dev s m).trans (Ag j_).symm
  vtep:=fun s a ha=>(r.vtep s a ha).trans (Ag j_).symm
  ok:=Oc r hr hR
  six:=K1 r hr fun h=>by omega
  pnm:=r.pnm
  port:=fun s t v T=>(r.port s t v T).trans (Ag j_).symm
  tied:=fun s t=>(r.tied s t).trans (Ag j_).symm
  link:=fun s t a b=>(r.link s t a b).trans (Ag j_).symm
  dom:=fun s v=>(r.dom s v).trans (and_congr Iff.rfl (Ag j_).symm)
  vni:=fun s v w hw=>(r.vni s v w hw).trans (Ag j_).symm
  dirb:=fun s v=>(r.dirb s v).trans (Ag j_).symm
  stat:=fun s v m=>(r.stat s v m).trans (Ag j_).symm
  flood:=fun s w A=>by
   rw[Hd hk]
   refine Iff.trans Mb (or_congr (r.flood s w A) ?_)
   show dn n (Ap n x.dev)=s∧_↔_
   rw[(Du r h1).2]
  vrf:=fun s t=>(r.vrf s t).trans (Ag j_).symm
  irb:=fun s a b=>(r.irb s a b).trans (Ag j_).symm }
theorem rep8 (hk:x.kind=8) (h:(putVrf n x).2=0):Rep (putVrf n x).1 (x::p):=by
 obtain ⟨hR,hd,_⟩:=(Ajp r hr x hk).1 h
 have h1:=(C7 r _).2 hd
 have e:putVrf n x=({ n with vrfs:=n.vrfs++[⟨x.row,Ap n x.dev,x.name,x.imports,x.exports⟩] },0):=by
  rw[putVrf]at h ⊢
  dsimp only at h ⊢
  have e1:=Oh h
  rw[e1]at h ⊢
  have e2:=Bw qd h
  rw[e2]at h ⊢
  have e3:=Bw qd h
  rw[e3,Q6 ((D8 hr hk).2 ⟨hR,h1⟩)]
 rw[e]
 exact {
  nm:=r.nm
  dev:=fun s m=>(r.dev s m).trans (Ag j_).symm
  vtep:=fun s a ha=>(r.vtep s a ha).trans (Ag j_).symm
  ok:=Oc r hr hR
  six:=K1 r hr fun h=>by omega
  pnm:=r.pnm
  port:=fun s t v T=>(r.port s t v T).trans (Ag j_).symm
  tied:=fun s t=>(r.tied s t).trans (Ag j_).symm
  link:=fun s t a b=>(r.link s t a b).trans (Ag j_).symm
  dom:=fun s v=>(r.dom s v).trans (and_congr Iff.rfl (Ag j_).symm)
  vni:=fun s v w hw=>(r.vni s v w hw).trans (Ag j_).symm
  dirb:=fun s v=>(r.dirb s v).trans (Ag j_).symm
  stat:=fun s v m=>(r.stat s v m).trans (Ag j_).symm
  flood:=fun s w A=>(r.flood s w A).trans (Ag j_).symm
  vrf:=fun s t=>by
   rw[Hd hk]
   refine Iff.trans Mb (or_congr (r.vrf s t) ?_)
   show dn n (Ap n x.dev)=s∧_↔_
   rw[(Du r h1).2]
  irb:=fun s a b=>by
   rw[Ag j_,← r.irb s a b]
   refine C6 fun q hq=>?_
   have:=place_iff.1 (O9 r hr hq).2
   have e:nth (n.vrfs++[(⟨x.row,Ap n x.dev,x.name,x.imports,x.exports⟩:Vrf)]) q.vrf=nth n.vrfs q.vrf:=Ed _ _ j_
   dsimp only
   rw[e]
   rfl }
theorem rep6 (hk:x.kind=6) (h:(putVni n x).2=0):Rep (putVni n x).1 (x::p):=by
 obtain ⟨hR,hd,h5,h2,hno⟩:=(Ajr r hr x hk).1 h
 have h1:=(C7 r _).2 hd
 have d3:0≤Bj n (Ap n x.dev) x.vlan:=(Qd r hr h1 _).2 ⟨(Abr hR hk).1,h2⟩
 obtain ⟨b1,b2,b3⟩:=Lg r hr d3
 obtain ⟨j,ej,hj⟩:=D4 b1
 have e:putVni n x=({ n with domains:=n.domains.set j { nth n.domains (j:Int) with vni:=x.num,row:=x.row } },0):=by
  rw[putVni]at h ⊢
  dsimp only at h ⊢
  have e1:=Oh h
  rw[e1]at h ⊢
  have e2:=Bw qd h
  rw[e2]at h ⊢
  have e3:=Bw qd h
  rw[e3]at h ⊢
  have e4:=Bw qd h
  rw[e4,Q6 ((D8 hr hk).2 ⟨hR,h1⟩),ej,Int.toNat_natCast]
 rw[e]
 have hz:(nth n.domains (j:Int)).vni=0:=by
  have:=not_congr (Af3 r hr h1 d3)
  rw[ej]at this
  exact Decidable.not_not.1 (this.2 fun h=>hno (Ce h fun y hy=>.inl hy))
 rw[ej]at b2 b3
 exact {
  nm:=r.nm
  dev:=fun s m=>(r.dev s m).trans (Ag j_).symm
  vtep:=fun s a ha=>(r.vtep s a ha).trans (Ag j_).symm
  ok:=Oc r hr hR
  six:=K1 r hr fun _=>h5
  pnm:=r.pnm
  port:=fun s t v T=>(r.port s t v T).trans (Ag j_).symm
  tied:=fun s t=>(r.tied s t).trans (Ag j_).symm
  link:=fun s t a b=>(r.link s t a b).trans (Ag j_).symm
  dom:=fun s v=>Iff.trans (Qc hj Iff.rfl) ((r.dom s v).trans (and_congr Iff.rfl (Ag j_).symm))
  vni:=fun s v w hw=>by
   refine Iff.trans (Y4 hj (fun h=>absurd (h.2.2.symm.trans hz) hw)) ?_
   rw[Hd hk]
   refine or_congr (r.vni s v w hw) ?_
   show dn n (nth n.domains (j:Int)).dev=s∧(nth n.domains (j:Int)).vlan=v∧_↔_
   rw[b2,b3,(Du r h1).2]
  dirb:=fun s v=>Iff.trans (Qc hj Iff.rfl) ((r.dirb s v).trans (Ag j_).symm)
  stat:=fun s v m=>by
   rw[Ag j_,← r.stat s v m]
   refine C6 fun q hq=>?_
   dsimp only
   rw[Kh n.domains { nth n.domains (j:Int) with vni:=x.num,row:=x.row } j q.domain Domain.dev rfl hj,Kh n.domains { nth n.domains (j:Int) with vni:=x.num,row:=x.row } j q.domain Domain.vlan rfl hj]
   rfl
  flood:=fun s w A=>(r.flood s w A).trans (Ag j_).symm
  vrf:=fun s t=>(r.vrf s t).trans (Ag j_).symm
  irb:=fun s a b=>(r.irb s a b).trans (Ag j_).symm }
theorem rep9 (hk:x.kind=9) (h:(putIrb n x).2=0):Rep (putIrb n x).1 (x::p):=by
 obtain ⟨hR,hd,h8,h2,hno⟩:=(Ajo r hr x hk).1 h
 have h1:=(C7 r _).2 hd
 have d3:0≤Bj n (Ap n x.dev) x.vlan:=(Qd r hr h1 _).2 ⟨Ajl hR hk,h2⟩
 obtain ⟨b1,b2,b3⟩:=Lg r hr d3
 obtain ⟨j,ej,hj⟩:=D4 b1
 have hv:0≤Sa n (Ap n x.dev) x.name:=(Abh r hr h1 _).2 h8
 have hvd:(nth n.vrfs (Sa n (Ap n x.dev) x.name)).dev=Ap n x.dev:=by
  have:=(H9 hv).2
  simp only[Bool.and_eq_true,beq_iff_eq]at this
  exact this.1
 have e:putIrb n x=({ n with domains:=n.domains.set j { nth n.domains (j:Int) with irb:=n.irbs.length },irbs:=n.irbs++[⟨x.row,j,Sa n (Ap n x.dev) x.name,x.addr,x.bits⟩] },0):=by
  rw[putIrb]at h ⊢
  dsimp only at h ⊢
  have e1:=Oh h
  rw[e1]at h ⊢
  have e2:=Bw qd h
  rw[e2]at h ⊢
  have e3:=Bw qd h
  rw[e3]at h ⊢
  have e4:=Bw qd h
  rw[e4,Q6 ((D8 hr hk).2 ⟨hR,h1⟩),ej,Int.toNat_natCast]
 rw[e]
 rw[ej]at b2 b3
 exact {
  nm:=r.nm
  dev:=fun s m=>(r.dev s m).trans (Ag j_).symm
  vtep:=fun s a ha=>(r.vtep s a ha).trans (Ag j_).symm
  ok:=Oc r hr hR
  six:=K1 r hr fun h=>by omega
  pnm:=r.pnm
  port:=fun s t v T=>(r.port s t v T).trans (Ag j_).symm
  tied:=fun s t=>(r.tied s t).trans (Ag j_).symm
  link:=fun s t a b=>(r.link s t a b).trans (Ag j_).symm
  dom:=fun s v=>Iff.trans (Qc hj Iff.rfl) ((r.dom s v).trans (and_congr Iff.rfl (Ag j_).symm))
  vni:=fun s v w hw=>Iff.trans (Qc hj Iff.rfl) ((r.vni s v w hw).trans (Ag j_).symm)
  dirb:=fun s v=>by
   refine Iff.trans (Y4 hj (fun h=>⟨h.1,h.2.1,by show (0:Int)≤(n.irbs.length:Int);omega⟩)) ?_
   rw[Hd hk]
   refine or_congr (r.dirb s v) ?_
   show dn n (nth n.domains (j:Int)).dev=s∧(nth n.domains (j:Int)).vlan=v∧(0:Int)≤(n.irbs.length:Int)↔_
   rw[b2,b3,(Du r h1).2]
   simp
  stat:=fun s v m=>by
   rw[Ag j_,← r.stat s v m]
   refine C6 fun q hq=>?_
   dsimp only
   rw[Kh n.domains { nth n.domains (j:Int) with irb:=n.irbs.length } j q.domain Domain.dev rfl hj,Kh n.domains { nth n.domains (j:Int) with irb:=n.irbs.length } j q.domain Domain.vlan rfl hj]
   rfl
  flood:=fun s w A=>(r.flood s w A).trans (Ag j_).symm
  vrf:=fun s t=>(r.vrf s t).trans (Ag j_).symm
  irb:=fun s a b=>by
   rw[Hd hk]
   refine Iff.trans Mb (or_congr (r.irb s a b) ?_)
   show dn n (nth n.vrfs (Sa n (Ap n x.dev) x.name)).dev=s∧_↔_
   rw[hvd,(Du r h1).2] }
theorem Aji {β:Type} (l:List Port) (i k j:Int) (f:Port→β) (hf:∀ q:Port,f { q with link:=k }=f q) (hi:Af i l.length=true):f (nth (Cv l i k) j)=f (nth l j):=by
 obtain ⟨a,rfl,ha⟩:=D4 hi
 rw[Cv,Int.toNat_natCast]
 exact Kh _ _ a j f (hf _) ha
theorem Am1 (l:List Port) (i k:Int) (P:Port→Prop) (hP:∀ q:Port,P { q with link:=k }↔P q) (hi:Af i l.length=true):(∃ q∈Cv l i k,P q)↔∃ q∈l,P q:=by
 obtain ⟨a,rfl,ha⟩:=D4 hi
 rw[Cv,Int.toNat_natCast]
 exact Qc ha (hP _).symm
theorem Ajg (l:List Port) (i k:Int) (P:Port→Prop) (hP:P (nth l i)→P { nth l i with link:=k }) (hi:Af i l.length=true):(∃ q∈Cv l i k,P q)↔(∃ q∈l,P q)∨P { nth l i with link:=k }:=by
 obtain ⟨a,rfl,ha⟩:=D4 hi
 rw[Cv,Int.toNat_natCast]
 exact Y4 ha hP
theorem rep3 (hk:x.kind=3) (h:(putLink n x).2=0):Rep (putLink n x).1 (x::p):=by
 obtain ⟨hR,ha,hb,hne,hno1,hno2,_⟩:=(Aju r hr x hk).1 h
 have a0:=(W8 r hr _ _).2 ha
 have b0:=(W8 r hr _ _).2 hb
 obtain ⟨a1,a2⟩:=Ac9 r hr a0
 obtain ⟨b1,b2⟩:=Ac9 r hr b0
 have a3:=a0
 have b3:=b0
 rw[a2]at a3
 rw[b2]at b3
 obtain ⟨c1,_,c2,c3⟩:=Sg r hr a1 a3
 obtain ⟨d1,_,d2,d3⟩:=Sg r hr b1 b3
 rw[← a2]at c1 c2 c3
 rw[← b2]at d1 d2 d3
 have e:putLink n x=({ n with ports:=Cv (Cv n.ports (endI n x.dev x.port) n.links.length) (endI n x.peer x.far) n.links.length,links:=n.links++[⟨x.row,endI n x.dev x.port,endI n x.peer x.far⟩] },0):=by
  rw[putLink]at h ⊢
  dsimp only at h ⊢
  have e1:=Bw qd h
  rw[e1]at h ⊢
  have e2:=Bw qd h
  rw[e2]at h ⊢
  have e3:=Bw qd h
  rw[e3]at h ⊢
  have e4:=Bw qd h
  rw[e4]
 rw[e]
 generalize endI n x.dev x.port=a at *
 generalize endI n x.peer x.far=b at *
 have hl1:(Cv n.ports a n.links.length).length=n.ports.length:=List.length_set
 have hl2:(Cv (Cv n.ports a n.links.length) b n.links.length).length=n.ports.length:=List.length_set.trans hl1
 have d1':Af b (Cv n.ports a n.links.length).length=true:=by rw[hl1];exact d1
 have hf:∀ {β:Type} (f:Port→β) (_:∀ q:Port,f { q with link:=(n.links.length:Int) }=f q) (j:Int),f (nth (Cv (Cv n.ports a n.links.length) b n.links.length) j)=f (nth n.ports j):=fun f hf j =>
  (Aji r hr _ _ _ j f hf d1').trans (Aji r hr _ _ _ j f hf c1)
 have hex:∀ P:Port→Prop,(∀ q:Port,P { q with link:=(n.links.length:Int) }↔P q)→((∃ q∈Cv (Cv n.ports a n.links.length) b n.links.length,P q)↔∃ q∈n.ports,P q):=fun P hP =>
  (Am1 r hr _ _ _ P hP d1').trans (Am1 r hr _ _ _ P hP c1)
 exact {
  nm:=r.nm
  dev:=fun s m=>(r.dev s m).trans (Ag j_).symm
  vtep:=fun s a ha=>(r.vtep s a ha).trans (Ag j_).symm
  ok:=Oc r hr hR
  six:=K1 r hr fun h=>by omega
  pnm:=fun i j hi hj ed en=>by
   dsimp only at hi hj ed en
   rw[hl2]at hi hj
   rw[hf Port.dev (fun _=>rfl),hf Port.dev (fun _=>rfl)]at ed
   rw[hf Port.name (fun _=>rfl),hf Port.name (fun _=>rfl)]at en
   exact r.pnm i j hi hj ed en
  port:=fun s t v T=>(hex (fun q=>dn n q.dev=s∧q.name=t∧q.native=v∧q.tagged=T) fun _=>Iff.rfl).trans ((r.port s t v T).trans (Ag j_).symm)
  tied:=fun s t=>by
   have p1:=Ajg r hr n.ports a n.links.length (fun q=>dn n q.dev=s∧q.name=t∧0≤q.link) (fun h=>⟨h.1,h.2.1,by show (0:Int)≤(n.links.length:Int);omega⟩) c1
   have p2:=Ajg r hr (Cv n.ports a n.links.length) b n.links.length (fun q=>dn n q.dev=s∧q.name=t∧0≤q.link) (fun h=>⟨h.1,h.2.1,by show (0:Int)≤(n.links.length:Int);omega⟩) d1'
   refine Iff.trans p2 ?_
   rw[p1,Hd hk,r.tied,or_assoc]
   refine or_congr Iff.rfl (or_congr ?_ ?_)
   ·show dn n (nth n.ports a).dev=s∧(nth n.ports a).name=t∧(0:Int)≤(n.links.length:Int)↔_
    rw[c2,c3];simp
   ·show dn n (nth (Cv n.ports a n.links.length) b).dev=s∧(nth (Cv n.ports a n.links.length) b).name=t∧(0:Int)≤(n.links.length:Int)↔_
    rw[Aji r hr n.ports a n.links.length b Port.dev (fun _=>rfl) c1,Aji r hr n.ports a n.links.length b Port.name (fun _=>rfl) c1,d2,d3];simp
  link:=fun s t s' t'=>by
   rw[Hd hk]
   refine Iff.trans Mb (or_congr ?_ ?_)
   ·rw[← r.link]
    refine C6 fun q hq=>?_
    dsimp only
    rw[hf Port.dev (fun _=>rfl),hf Port.dev (fun _=>rfl),hf Port.name (fun _=>rfl),hf Port.name (fun _=>rfl)]
    rfl
   ·dsimp only
    rw[hf Port.dev (fun _=>rfl),hf Port.dev (fun _=>rfl),hf Port.name (fun _=>rfl),hf Port.name (fun _=>rfl)]
    show dn n (nth n.ports a).dev=s∧(nth n.ports a).name=t∧dn n (nth n.ports b).dev=s'∧_↔_
    rw[c2,c3,d2,d3]
  dom:=fun s v=>(r.dom s v).trans (and_congr Iff.rfl (Ag j_).symm)
  vni:=fun s v w hw=>(r.vni s v w hw).trans (Ag j_).symm
  dirb:=fun s v=>(r.dirb s v).trans (Ag j_).symm
  stat:=fun s v m=>(r.stat s v m).trans (Ag j_).symm
  flood:=fun s w A=>(r.flood s w A).trans (Ag j_).symm
  vrf:=fun s t=>(r.vrf s t).trans (Ag j_).symm
  irb:=fun s a b=>(r.irb s a b).trans (Ag j_).symm }
theorem Ajn (h:(putT n x).2=0):Rep (putT n x).1 (x::p):=by
 rcases Xu (Xx hr h) with hk | hk | hk | hk | hk | hk | hk | hk | hk
 ·rw[show putT n x=putDevice n x by simp[putT,hk]]at h ⊢;exact rep1 r hr hk h
 ·rw[show putT n x=putPort n x by simp[putT,hk]]at h ⊢;exact rep2 r hr hk h
 ·rw[show putT n x=putLink n x by simp[putT,hk]]at h ⊢;exact rep3 r hr hk h
 ·rw[show putT n x=putStatic n x by simp[putT,hk]]at h ⊢;exact rep4 r hr hk h
 ·rw[show putT n x=putVtep n x by simp[putT,hk]]at h ⊢;exact rep5 r hr hk h
 ·rw[show putT n x=putVni n x by simp[putT,hk]]at h ⊢;exact rep6 r hr hk h
 ·rw[show putT n x=putFlood n x by simp[putT,hk]]at h ⊢;exact rep7 r hr hk h
 ·rw[show putT n x=putVrf n x by simp[putT,hk]]at h ⊢;exact rep8 r hr hk h
 ·rw[show putT n x=putIrb n x by simp[putT,hk]]at h ⊢;exact rep9 r hr hk h
end
end Go.Sy.YtdkfcckkkfghgaaGreatDoor
namespace Go.Sy.YtdkfcckkkfghgaaGreatDoor
open Go.Proofs
def K5:Net→List LineM→Option Net
 | n,[]=>some n
 | n,x::l=>if (putT n x).2=0 then K5 (putT n x).1 l else none
theorem Zc:∀ (l:List LineM) (n:Net),(Hx n l).2.2=0→∃ m,K5 n l=some m∧Hx n l=finishT m
 | [],n,_=>⟨n,rfl,rfl⟩
 | x::l,n,h=>by
  rw[Hx]at h
  by_cases hp:(putT n x).2≠0
  ·rw[if_pos hp]at h;exact absurd h hp
  ·rw[if_neg hp]at h
   obtain ⟨m,h1,h2⟩:=Zc l _ h
   have hp':(putT n x).2=0:=by omega
   exact⟨m,by rw[K5,if_pos hp'];exact h1,by rw[Hx,if_neg hp];exact h2⟩
theorem Xw:∀ (l:List LineM) (n m:Net),K5 n l=some m→Hx n l=finishT m
 | [],n,m,h=>by rw[K5]at h;injection h with h;rw[h];rfl
 | x::l,n,m,h=>by
  rw[K5]at h
  by_cases hp:(putT n x).2=0
  ·rw[if_pos hp]at h
   rw[Hx,if_neg j_]
   exact Xw l _ m h
  ·rw[if_neg hp]at h;cases h
theorem Dt {p p':List LineM} {k:Int} {q:LineM→Prop} (hs:∀ y∈p,y∈p') (h:has p k q):has p' k q:=by
 obtain ⟨y,hy,e⟩:=h
 exact⟨y,hs y hy,e⟩
theorem U9 {p p':List LineM} {x:LineM} (hs:∀ y∈p,y∈p') (h:need p x):need p' x:=by
 obtain ⟨h0,h1,h2,h3,h4,h5,h6⟩:=h
 exact⟨h0,fun k=>Dt hs (h1 k),fun k=>⟨Dt hs (h2 k).1,Dt hs (h2 k).2.1,(h2 k).2.2⟩,fun k=>Dt hs (h3 k),fun k=>⟨Dt hs (h4 k).1,Dt hs (h4 k).2⟩,fun k=>⟨Dt hs (h5 k).1,Dt hs (h5 k).2⟩,fun k=>⟨Dt hs (h6 k).1,Dt hs (h6 k).2⟩⟩
theorem Y8 (x:LineM) (l:List LineM) (k:Int):Cg (x::l) k=(if x.kind=k then 1 else 0)+Cg l k:=by
 rw[Cg,Cg,List.filter_cons]
 by_cases hk:x.kind=k
 ·simp[hk];omega
 ·simp[hk]
theorem Um {l m:List LineM} (h:l.Perm m) (k:Int):Cg l k=Cg m k:=(h.filter _).length_eq
theorem Aan {n:Net} {p:List LineM} {x:LineM} (hm:Many n (Cg p)) (h:(putT n x).2=0):Many (putT n x).1 (Cg (x::p)):=by
 have:=Anm hm h
 have e:(fun k=>Cg p k+if x.kind=k then 1 else 0)=Cg (x::p):=by
  funext k
  rw[Y8];omega
 rw[← e];exact this
theorem Lz:∀ (l:List LineM) (n:Net) (p:List LineM) (m:Net),Rep n p→NetR n→Many n (Cg p)→K5 n l=some m →
  Rep m (l.reverse++p)∧NetR m∧Many m (Cg (l.reverse++p))∧(∀ x∈l,Ao x=true∧need (l++p) x∧∀ y∈p,¬ Dv y x)∧l.Pairwise fun a b=>¬ Dv a b
 | [],n,p,m,r,hr,hm,h=>by
  rw[K5]at h;injection h with h;subst h
  exact⟨r,hr,hm,fun x hx=>by (cases hx),.nil⟩
 | x::l,n,p,m,r,hr,hm,h=>by
  rw[K5]at h
  by_cases hp:(putT n x).2=0
  ·rw[if_pos hp]at h
   obtain ⟨a,b,c,d,e⟩:=Lz l _ (x::p) m (Ajn r hr hp) (Aaj hp) (Aan hm hp) h
   obtain ⟨o1,o2,o3,_⟩:=(Ann r hr x).1 hp
   have el:(x::l).reverse++p=l.reverse++(x::p):=by simp
   rw[el]
   refine⟨a,b,c,fun y hy=>?_,List.pairwise_cons.2 ⟨fun y hy=>(d y hy).2.2 x qe,e⟩⟩
   rcases List.mem_cons.1 hy with rfl | hy
   ·exact⟨o1,U9 (fun z hz=>by simp[hz]) o2,o3⟩
   ·obtain ⟨f,g,i⟩:=d y hy
    exact⟨f,U9 (fun z hz=>by simp at hz ⊢;rcases hz with hz | hz | hz<;>simp[hz]) g,fun z hz=>i z (by simp[hz])⟩
  ·rw[if_neg hp]at h;cases h
structure Valid (l:List LineM):Prop where
 right:∀ x∈l,Ao x=true
 need:∀ x∈l,need l x
 apart:l.Pairwise fun a b=>¬ Dv a b
 few:Cg l 1≤8∧Cg l 2≤40∧Cg l 3≤20∧Cg l 4≤64∧Cg l 7≤48∧Cg l 8≤16
theorem Xv {l:List LineM} {m:Net} (h:K5 emptyN l=some m):Valid l∧Rep m l∧NetR m:=by
 obtain ⟨a,b,c,d,e⟩:=Lz l emptyN [] m O5 K8 Mc h
 rw[List.append_nil]at a c
 have hc:∀ k,Cg l.reverse k=Cg l k:=fun k=>Um (List.reverse_perm l) k
 have hf:=few_iff.1 b.few
 refine⟨⟨fun x hx=>(d x hx).1,fun x hx=>by have:=(d x hx).2.1;rwa [List.append_nil]at this,e,?_⟩,?_,b⟩
 ·have:=c.c1;have:=c.c2;have:=c.c3;have:=c.c4;have:=c.c7;have:=c.c8
  simp only[hc]at *
  omega
 ·have hp:∀ k q,has l.reverse k q↔has l k q:=fun k q=>⟨Dt (fun y hy=>List.mem_reverse.1 hy),Dt (fun y hy=>List.mem_reverse.2 hy)⟩
  exact⟨a.nm,a.pnm,fun s m=>(a.dev s m).trans (hp _ _),fun s b hb=>(a.vtep s b hb).trans (hp _ _),fun s t v T=>(a.port s t v T).trans (hp _ _),fun s t=>(a.tied s t).trans (hp _ _),fun s t b c=>(a.link s t b c).trans (hp _ _),
   fun s v=>(a.dom s v).trans (and_congr Iff.rfl (hp _ _)),fun s v w hw=>(a.vni s v w hw).trans (hp _ _),fun s v=>(a.dirb s v).trans (hp _ _),fun s v m=>(a.stat s v m).trans (hp _ _),fun s w A=>(a.flood s w A).trans (hp _ _),fun s t=>(a.vrf s t).trans (hp _ _),
   fun y hy=>a.ok y (List.mem_reverse.2 hy),fun s h=>(hp _ _).1 (a.six s ((hp _ _).2 h)),fun s b c=>(a.irb s b c).trans (hp _ _)⟩
theorem An5 {p l:List LineM} {x:LineM} (hs:∀ y∈l,stepI x.kind≤stepI y.kind) (h:need (p++x::l) x):need p x:=by
 have low:∀ {k:Int} {q:LineM→Prop},stepI k<stepI x.kind→has (p++x::l) k q→has p k q:=fun {k q} hk ⟨y,hy,h1,h2⟩=>by
  rcases List.mem_append.1 hy with hy | hy
  ·exact⟨y,hy,h1,h2⟩
  ·rcases List.mem_cons.1 hy with rfl | hy
   ·rw[h1]at hk;omega
   ·have:=hs y hy
    rw[h1]at this;omega
 obtain ⟨h0,h1,h2,h3,h4,h5,h6⟩:=h
 refine⟨h0,fun k=>?_,fun k=>?_,fun k=>?_,fun k=>?_,fun k=>?_,fun k=>?_⟩
 ·refine low ?_ (h1 k)
  rcases k with k | k | k<;>(rw[k];decide)
 ·exact⟨low (by rw[k];decide) (h2 k).1,low (by rw[k];decide) (h2 k).2.1,(h2 k).2.2⟩
 ·exact low (by rw[k];decide) (h3 k)
 ·exact⟨low (by rw[k];decide) (h4 k).1,low (by rw[k];decide) (h4 k).2⟩
 ·exact⟨low (by rw[k];decide) (h5 k).1,low (by rw[k];decide) (h5 k).2⟩
 ·exact⟨low (by rw[k];decide) (h6 k).1,low (by rw[k];decide) (h6 k).2⟩
def Agp (ds:List Domain):Prop:=ds.Pairwise fun a b=>¬ (a.dev=b.dev∧a.vlan=b.vlan)
theorem Adm {dev v:Int} {ds:List Domain} (h:Agp ds):Agp (Bh dev ds v):=by
 rw[Bh]
 split
 ·rename_i hc
  refine List.pairwise_append.2 ⟨h,List.pairwise_singleton _ _,fun a ha b hb e=>?_⟩
  rw[List.mem_singleton]at hb
  subst hb
  have:=List.any_eq_false.1 hc.2 a ha
  exact this (by simp[e.1,e.2])
 ·exact h
theorem Q9 {dev:Int}:∀ (l:List Int) {ds:List Domain},Agp ds→Agp (At dev ds l)
 | [],_,h=>h
 | v::l,_,h=>Q9 l (Adm (v:=v) h)
theorem Y7 {n:Net} {p:List LineM} (r:Rep n p) (hr:NetR n):Agp n.domains:=by
 refine List.pairwise_iff_getElem.2 fun i j hi hj hij e=>?_
 rw[Cc _ _ hi,Cc _ _ hj]at e
 have h1:=Je r hr (Cf hi)
 have h2:=Je r hr (Cf hj)
 rw[e.1,e.2,h2]at h1
 omega
theorem Ane {n:Net} {p:List LineM} (r:Rep n p) (hr:NetR n) {x:LineM} (hk:x.kind=2) (h1:0≤Ap n x.dev) {m:Net} {P:List LineM} (r0:Rep m P) (hr0:NetR m) (hx:x∈P) (hs:∀ y∈p,y∈P):(At (Ap n x.dev) n.domains (x.vlan::x.tagged)).length≤48:=by
 have hf:=(few_iff.1 hr0.few).2.2.2.1
 refine Nat.le_trans ?_ hf
 obtain ⟨a1,a2⟩:=Du r h1
 have hap:=Q9 (dev:=Ap n x.dev) (x.vlan::x.tagged) (Y7 r hr)
 have hnew:=Oy (Ap n x.dev) (x.vlan::x.tagged) n.domains
 generalize At (Ap n x.dev) n.domains (x.vlan::x.tagged)=D at *
 have hpl:∀ d∈D,Af d.dev n.devices.length=true:=fun d hd=>by
  rcases hnew d hd with hd | ⟨w,_,_,rfl⟩
  ·exact B2 r hr hd
  ·exact a1
 have:=List.Nodup.length_le_of_subset (l₁:=D.map fun d=>(dn n d.dev,d.vlan)) (l₂:=m.domains.map fun d=>(dn m d.dev,d.vlan)) (by
  rw[List.nodup_iff_pairwise_ne,List.pairwise_map]
  refine List.Pairwise.imp_of_mem ?_ hap
  intro a b ha hb hab e
  injection e with e1 e2
  exact hab ⟨r.nm _ _ (hpl a ha) (hpl b hb) e1,e2⟩) (by
  intro y hy
  obtain ⟨d,hd,rfl⟩:=List.mem_map.1 hy
  have:0<d.vlan∧has P 2 fun y=>y.dev=dn n d.dev∧d.vlan∈y.vlan::y.tagged:=by
   rcases hnew d hd with hd | ⟨w,hw,h0,rfl⟩
   ·have:=(r.dom (dn n d.dev) d.vlan).1 ⟨d,hd,rfl,rfl⟩
    exact⟨this.1,Dt hs this.2⟩
   ·exact⟨h0,x,hx,hk,a2.symm,hw⟩
  obtain ⟨d',hd',e1,e2⟩:=(r0.dom _ _).2 this
  exact List.mem_map.2 ⟨d',hd',by rw[e1,e2]⟩)
 simpa using this
theorem Xh {m0:Net} {P:List LineM} (r0:Rep m0 P) (hr0:NetR m0):∀ (l:List LineM) (n:Net) (p:List LineM),Rep n p→NetR n→Many n (Cg p)→(l.Pairwise fun a b=>stepI a.kind≤stepI b.kind) →
  (∀ x∈l,Ao x=true∧need (p++l) x∧∀ y∈p,¬ Dv y x)→(l.Pairwise fun a b=>¬ Dv a b) →
  (Cg p 1+Cg l 1≤8∧Cg p 2+Cg l 2≤40∧Cg p 3+Cg l 3≤20∧Cg p 4+Cg l 4≤64∧Cg p 7+Cg l 7≤48∧Cg p 8+Cg l 8≤16) →
  (∀ y,y∈p∨y∈l→y∈P)→∃ m,K5 n l=some m
 | [],n,p,_,_,_,_,_,_,_,_=>⟨n,rfl⟩
 | x::l,n,p,r,hr,hm,hs,ha,hc,hf,hP=>by
  obtain ⟨hs1,hs2⟩:=List.pairwise_cons.1 hs
  obtain ⟨hc1,hc2⟩:=List.pairwise_cons.1 hc
  obtain ⟨b1,b2,b3⟩:=ha x qe
  have b4:=An5 hs1 b2
  simp only[Y8]at hf
  have hp:(putT n x).2=0:=by
   refine(Ann r hr x).2 ⟨b1,b4,b3,?_⟩
   refine⟨fun k=>?_,fun k=>⟨?_,?_⟩,fun k=>?_,fun k=>?_,fun k=>?_,fun k=>?_⟩
   ·have:=hm.c1;simp only[k,if_pos]at hf;omega
   ·have:=hm.c2;simp only[k,if_pos]at hf;omega
   ·exact Ane r hr k ((C7 r _).2 (b4.2.1 (.inl k))) r0 hr0 (hP x qe) fun y hy=>hP y (.inl hy)
   ·have:=hm.c3;simp only[k,if_pos]at hf;omega
   ·have:=hm.c4;simp only[k,if_pos]at hf;omega
   ·have:=hm.c7;simp only[k,if_pos]at hf;omega
   ·have:=hm.c8;simp only[k,if_pos]at hf;omega
  obtain ⟨m,hm'⟩:=Xh r0 hr0 l _ (x::p) (Ajn r hr hp) (Aaj hp) (Aan hm hp) hs2 (fun y hy=>by
   obtain ⟨c1,c2,c3⟩:=ha y (by simp[hy])
   refine⟨c1,U9 (fun z hz=>by simp at hz ⊢;rcases hz with hz | hz | hz<;>simp[hz]) c2,fun z hz=>?_⟩
   rcases List.mem_cons.1 hz with rfl | hz
   ·exact hc1 y hy
   ·exact c3 z hz) hc2 (by simp only[Y8];omega) (fun y hy=>hP y (by
    rcases hy with hy | hy
    ·rcases List.mem_cons.1 hy with rfl | hy
     ·exact .inr qe
     ·exact .inl hy
    ·exact .inr (by simp[hy])))
  exact⟨m,by rw[K5,if_pos hp];exact hm'⟩
theorem Anf (l:LineM):Ao (Ek l)=Ao l:=by
 unfold Ek
 by_cases h1:l.kind=1
 ·simp[Ao,A0,E3,h1]
 by_cases h2:l.kind=2
 ·simp[Ao,A0,E3,h1,h2]
 by_cases h3:l.kind=3
 ·simp[Ao,A0,E3,h1,h2,h3]
 by_cases h4:l.kind=4
 ·simp[Ao,A0,E3,h1,h2,h3,h4]
 by_cases h5:l.kind=5
 ·simp[Ao,A0,E3,h1,h2,h3,h4,h5]
 by_cases h6:l.kind=6
 ·simp[Ao,A0,E3,h1,h2,h3,h4,h5,h6]
 by_cases h7:l.kind=7
 ·simp[Ao,A0,E3,h1,h2,h3,h4,h5,h6,h7]
 by_cases h8:l.kind=8
 ·simp[Ao,A0,E3,h1,h2,h3,h4,h5,h6,h7,h8]
 by_cases h9:l.kind=9
 ·simp[Ao,A0,E3,h1,h2,h3,h4,h5,h6,h7,h8,h9]
 simp[Ao,A0,E3,h1,h2,h3,h4,h5,h6,h7,h8,h9]
theorem has_unrow {p:List LineM} {k:Int} {q:LineM→Prop}:has p k (fun x=>q (Ek x))↔has (p.map Ek) k q:=by
 constructor
 ·rintro ⟨y,hy,h1,h2⟩
  exact⟨Ek y,List.mem_map_of_mem hy,h1,h2⟩
 ·rintro ⟨y,hy,h1,h2⟩
  obtain ⟨z,hz,rfl⟩:=List.mem_map.1 hy
  exact⟨z,hz,h1,h2⟩
theorem rep_of {n:Net} {p p':List LineM} (hp:∀ k (q:LineM→Prop),(∀ y,q (Ek y)↔q y)→(has p k q↔has p' k q)) (ho:∀ y∈p',Ao y=true) (a:Rep n p):Rep n p' :=
 ⟨a.nm,a.pnm,fun s m=>(a.dev s m).trans (hp _ _ fun _=>Iff.rfl),fun s b hb=>(a.vtep s b hb).trans (hp _ _ fun _=>Iff.rfl),fun s t v T=>(a.port s t v T).trans (hp _ _ fun _=>Iff.rfl),fun s t=>(a.tied s t).trans (hp _ _ fun _=>Iff.rfl),fun s t b c=>(a.link s t b c).trans (hp _ _ fun _=>Iff.rfl),
   fun s v=>(a.dom s v).trans (and_congr Iff.rfl (hp _ _ fun _=>Iff.rfl)),fun s v w hw=>(a.vni s v w hw).trans (hp _ _ fun _=>Iff.rfl),fun s v=>(a.dirb s v).trans (hp _ _ fun _=>Iff.rfl),fun s v m=>(a.stat s v m).trans (hp _ _ fun _=>Iff.rfl),fun s w A=>(a.flood s w A).trans (hp _ _ fun _=>Iff.rfl),fun s t=>(a.vrf s t).trans (hp _ _ fun _=>Iff.rfl),
   ho,fun s h=>(hp _ _ fun _=>Iff.rfl).1 (a.six s ((hp _ _ fun _=>Iff.rfl).2 h)),fun s b c=>(a.irb s b c).trans (hp _ _ fun _=>Iff.rfl)⟩
def Mr (p p':List LineM):Prop:=(p.map Ek).Perm (p'.map Ek)
theorem Do {p p':List LineM} (h:Mr p p') {k:Int} {q:LineM→Prop} (hq:∀ y,q (Ek y)↔q y) (h1:has p k q):has p' k q:=by
 have e:(fun x=>q (Ek x))=q:=funext fun y=>propext (hq y)
 have h1:has p k (fun x=>q (Ek x)):=by rw[e];exact h1
 have h2:=Dt (fun y hy=>h.mem_iff.1 hy) (has_unrow.1 h1)
 have h3:=has_unrow.2 h2
 rwa [e]at h3
theorem Zg {p p':List LineM} (h:Mr p p'):Mr p' p:=List.Perm.symm h
theorem Vm {p p':List LineM} (h:Mr p p') {y:LineM} (hy:y∈p'):∃ z∈p,Ek z=Ek y:=by
 have:=h.mem_iff.2 (List.mem_map_of_mem hy)
 exact List.mem_map.1 this
theorem Wm {p p':List LineM} (h:Mr p p') (ho:∀ y∈p,Ao y=true):∀ y∈p',Ao y=true:=fun y hy=>by
 obtain ⟨z,hz,e⟩:=Vm h hy
 rw[← Anf,← e,Anf];exact ho z hz
theorem Aai {n:Net} {p p':List LineM} (h:Mr p p') (r:Rep n p):Rep n p' :=
 rep_of (fun _ _ hq=>⟨Do h hq,Do (Zg h) hq⟩) (Wm h r.ok) r
theorem An4 {p:List LineM} {x y:LineM} (e:Ek x=Ek y) (h:need p x):need p y:=by
 have h:need p (Ek x):=h
 rw[e]at h;exact h
theorem Aia {p p':List LineM} (h:Mr p p') {x:LineM} (hn:need p x):need p' x:=by
 obtain ⟨h0,h1,h2,h3,h4,h5,h6⟩:=hn
 exact⟨h0,fun k=>Do h (fun _=>Iff.rfl) (h1 k),fun k=>⟨Do h (fun _=>Iff.rfl) (h2 k).1,Do h (fun _=>Iff.rfl) (h2 k).2.1,(h2 k).2.2⟩,fun k=>Do h (fun _=>Iff.rfl) (h3 k),fun k=>⟨Do h (fun _=>Iff.rfl) (h4 k).1,Do h (fun _=>Iff.rfl) (h4 k).2⟩,
  fun k=>⟨Do h (fun _=>Iff.rfl) (h5 k).1,Do h (fun _=>Iff.rfl) (h5 k).2⟩,fun k=>⟨Do h (fun _=>Iff.rfl) (h6 k).1,Do h (fun _=>Iff.rfl) (h6 k).2⟩⟩
theorem Aa8 {p p':List LineM} (h:Mr p p') (k:Int):Cg p k=Cg p' k:=by
 have e:∀ p:List LineM,Cg (p.map Ek) k=Cg p k:=fun p=>by
  rw[Cg,List.filter_map,List.length_map];rfl
 rw[← e p,← e p']
 exact Um h k
theorem Agd {p p':List LineM} (h:Mr p p') (ha:p.Pairwise fun a b=>¬ Dv a b):p'.Pairwise fun a b=>¬ Dv a b:=by
 have e:∀ p:List LineM,((p.map Ek).Pairwise fun a b=>¬ Dv a b)↔p.Pairwise fun a b=>¬ Dv a b:=fun p=>List.pairwise_map
 rw[← e]at ha ⊢
 exact(h.pairwise_iff (fun hab hba=>hab (Za hba))).1 ha
theorem Adp {p p':List LineM} (h:Mr p p') (v:Valid p):Valid p' where
 right:=Wm h v.right
 need x hx:=by
  obtain ⟨z,hz,e⟩:=Vm h hx
  exact An4 e (Aia h (v.need z hz))
 apart:=Agd h v.apart
 few:=by
  have:=v.few
  simp only[Aa8 h]at this
  exact this
theorem Ad3 (l:List LineM):(Jg l).map Ek=l.map Ek:=by
 apply List.ext_getElem
 ·rw[List.length_map,List.length_map,I7]
 ·intro i h1 h2
  rw[List.getElem_map,List.getElem_map,Ak7]
  rfl
theorem Xp (l:List LineM):Mr l (A6 l):=by
 rw[Mr,A6,Ad3]
 exact((Ahk Jm l).map Ek).symm
theorem Ap7 {x y:LineM} (h:Jm y x=false):stepI x.kind≤stepI y.kind:=by
 refine Int.not_lt.1 fun hlt=>?_
 have:Jm y x=true:=by
  rw[Jm,decide_eq_true_eq,Qz,Aet,Kz]
  have e:Ch (stepI y.kind) (stepI x.kind)=-1:=by rw[Ch,if_pos hlt]
  rw[e,if_pos qd]
  decide
 rw[this]at h;cases h
theorem Ahj (l:List LineM):(A6 l).Pairwise fun a b=>stepI a.kind≤stepI b.kind:=by
 have h:(Bo Jm l).Pairwise fun a b=>stepI a.kind≤stepI b.kind:=List.Pairwise.imp (fun h=>Ap7 h) (I6 lineB_ordy l)
 have e:∀ p:List LineM,((p.map Ek).Pairwise fun a b=>stepI a.kind≤stepI b.kind)↔p.Pairwise fun a b=>stepI a.kind≤stepI b.kind:=fun p=>List.pairwise_map
 rw[← e,A6,Ad3,e]
 exact h
theorem Akb {n m:Net} {p:List LineM} (r:Rep n p) (hr:NetR n) (s:Rep m p):n.domains.length≤m.domains.length:=by
 have:=List.Nodup.length_le_of_subset (l₁:=n.domains.map fun d=>(dn n d.dev,d.vlan)) (l₂:=m.domains.map fun d=>(dn m d.dev,d.vlan)) (by
  rw[List.nodup_iff_pairwise_ne,List.pairwise_map]
  refine List.Pairwise.imp_of_mem ?_ (Y7 r hr)
  intro a b ha hb hab e
  injection e with e1 e2
  exact hab ⟨r.nm _ _ (B2 r hr ha) (B2 r hr hb) e1,e2⟩) (by
  intro y hy
  obtain ⟨d,hd,rfl⟩:=List.mem_map.1 hy
  obtain ⟨d',hd',e1,e2⟩:=(s.dom _ _).2 ((r.dom (dn n d.dev) d.vlan).1 ⟨d,hd,rfl,rfl⟩)
  exact List.mem_map.2 ⟨d',hd',by rw[e1,e2]⟩)
 simpa using this
def Akj (n m:Net):Prop:=m.devices.length=n.devices.length∧m.ports.length=n.ports.length∧m.links.length=n.links.length∧m.domains.length=n.domains.length∧m.statics.length=n.statics.length∧m.floods.length=n.floods.length∧m.vrfs.length=n.vrfs.length∧m.irbs.length=n.irbs.length
theorem Ak0 {l:List LineM} {n:Net} (h:K5 emptyN l=some n):∃ m,K5 emptyN (A6 l)=some m∧Valid l∧Rep n l∧Rep m l∧NetR n∧NetR m∧Akj n m:=by
 obtain ⟨v,r,hr⟩:=Xv h
 have al:=Xp l
 have v':=Adp al v
 obtain ⟨m,hm⟩:=Xh (Aai al r) hr (A6 l) emptyN [] O5 K8 Mc (Ahj l) (fun x hx=>⟨v'.right x hx,v'.need x hx,fun y hy=>by cases hy⟩) v'.apart (by
  have:=v'.few
  simpa [Cg] using this) (fun y hy=>by
  rcases hy with hy | hy
  ·cases hy
  ·exact hy)
 obtain ⟨_,s,hs⟩:=Xv hm
 have s:=Aai (Zg al) s
 obtain ⟨_,_,c1,_⟩:=Lz l emptyN [] n O5 K8 Mc h
 obtain ⟨_,_,c2,_⟩:=Lz (A6 l) emptyN [] m O5 K8 Mc hm
 have e:∀ k,Cg ((A6 l).reverse++[]) k=Cg (l.reverse++[]) k:=fun k=>by
  rw[List.append_nil,List.append_nil,Um (List.reverse_perm _),Um (List.reverse_perm l)]
  exact(Aa8 al k).symm
 exact⟨m,hm,v,r,s,hr,hs,c2.c1.trans ((e 1).trans c1.c1.symm),c2.c2.trans ((e 2).trans c1.c2.symm),c2.c3.trans ((e 3).trans c1.c3.symm),Nat.le_antisymm (Akb s hs r) (Akb r hr s),c2.c4.trans ((e 4).trans c1.c4.symm),c2.c7.trans ((e 7).trans c1.c7.symm),c2.c8.trans ((e 8).trans c1.c8.symm),c2.c9.trans ((e 9).trans c1.c9.symm)⟩
end Go.Sy.YtdkfcckkkfghgaaGreatDoor
namespace Go.Sy.YtdkfcckkkfghgaaGreatDoor
open Go.Proofs
theorem Amx {p:List LineM} (v:Valid p) {x y:LineM} (hx:x∈p) (hy:y∈p) (hc:Dv x y):x=y:=by
 obtain ⟨i,hi,rfl⟩:=List.mem_iff_getElem.1 hx
 obtain ⟨j,hj,rfl⟩:=List.mem_iff_getElem.1 hy
 have h:=List.pairwise_iff_getElem.1 v.apart
 rcases Nat.lt_trichotomy i j with hij | rfl | hij
 ·exact absurd hc (h i j hi hj hij)
 ·rfl
 ·exact absurd (Za hc) (h j i hj hi hij)
theorem An2 {α β:Type} [Inhabited α] [Inhabited β] (f:α→β) {l:List α} {k:Nat} (hk:k<l.length):nth (l.map f) (k:Int)=f (nth l (k:Int)):=by
 rw[A1 (by simpa using hk),A1 (by simpa using hk),List.getElem_map]
def Akh (p:List LineM) (s:ByteArray) (w:Int) (A:List Int):Prop:=(has p 6 fun x=>x.dev=s∧x.num=w)∧∀ a∈A,∃ t,(has p 5 fun x=>x.dev=t∧x.addr=a)∧(has p 6 fun x=>x.dev=t∧x.num=w) ∧
 ∃ B,(has p 7 fun x=>x.dev=t∧x.num=w∧x.addrs=B)∧(∃ c,(has p 5 fun x=>x.dev=s∧x.addr=c)∧c∈B)∧∀ b∈A,b=a∨b∈B
theorem inB_iff {l:List Int} {x:Int}:inB l x=true↔x∈l:=by rw[O7];simp
section
variable {n:Net} {p:List LineM} (r:Rep n p) (hr:NetR n) (v:Valid p)
include r hr v
theorem Aj0 {i:Int} (hi:Af i n.devices.length=true) (h:(nth n.devices i).vtep≠0):Bp n (nth n.devices i).vtep=i:=by
 have h0:0≤Bp n (nth n.devices i).vtep:=by
  rw[Bp,Le]
  exact⟨_,Ba hi,by simp⟩
 obtain ⟨a,b⟩:=H9 (P:=fun d:Device=>d.vtep == (nth n.devices i).vtep) (l:=n.devices) h0
 have b:(nth n.devices (Bp n (nth n.devices i).vtep)).vtep=(nth n.devices i).vtep:=beq_iff_eq.1 b
 obtain ⟨x,hx,x1,x2,x3⟩:=(r.vtep (dn n i) _ h).1 ⟨_,Ba hi,rfl,rfl⟩
 obtain ⟨y,hy,y1,y2,y3⟩:=(r.vtep (dn n (Bp n (nth n.devices i).vtep)) _ h).1 ⟨_,Ba a,rfl,b⟩
 have e:=Amx v hx hy (by simp[Dv,x1,y1,x3,y3])
 refine r.nm _ _ a hi ?_
 rw[← x2,← y2,e]
theorem Ah4 {a:Int} (h:0≤Bp n a):Af (Bp n a) n.devices.length=true∧(nth n.devices (Bp n a)).vtep=a:=by
 obtain ⟨b,c⟩:=H9 (P:=fun d:Device=>d.vtep == a) (l:=n.devices) h
 exact⟨b,beq_iff_eq.1 c⟩
theorem Amv {i w:Int} (h:0≤Et n i w):Af (Et n i w) n.domains.length=true∧(nth n.domains (Et n i w)).dev=i∧(nth n.domains (Et n i w)).vni=w∧w≠0:=by
 obtain ⟨b,c⟩:=H9 (P:=fun d:Domain=>d.dev == i && (d.vni == w && w != 0)) (l:=n.domains) h
 simp only[Bool.and_eq_true,beq_iff_eq,bne_iff_ne,ne_eq]at c
 exact⟨b,c.1,c.2.1,c.2.2⟩
theorem Ajf {i:Int} (hi:Af i n.domains.length=true) (h:(nth n.domains i).vni≠0):Et n (nth n.domains i).dev (nth n.domains i).vni=i:=by
 have h0:0≤Et n (nth n.domains i).dev (nth n.domains i).vni:=by
  rw[Et,Le]
  exact⟨_,Ba hi,by simpa using h⟩
 obtain ⟨a,b,c,_⟩:=Amv r hr v h0
 obtain ⟨x,hx,x1,x2,x3,x4⟩:=(r.vni (dn n (nth n.domains i).dev) _ _ h).1 ⟨_,Ba hi,rfl,rfl,rfl⟩
 obtain ⟨y,hy,y1,y2,y3,y4⟩:=(r.vni (dn n (nth n.domains i).dev) _ _ h).1 ⟨_,Ba a,by rw[b],rfl,c⟩
 have e:=Amx v hx hy (by simp[Dv,x1,y1,x2,y2,x4,y4])
 have k1:=Je r hr a
 have k2:=Je r hr hi
 rw[b,← y3,← e,x3,k2]at k1
 exact k1.symm
theorem L4 {i w:Int} (h:0≤C4 n i w):Af (C4 n i w) n.floods.length=true∧(nth n.floods (C4 n i w)).dev=i∧(nth n.floods (C4 n i w)).vni=w:=by
 obtain ⟨b,c⟩:=H9 (P:=fun d:Flood=>d.dev == i && d.vni == w) (l:=n.floods) h
 simp only[Bool.and_eq_true,beq_iff_eq]at c
 exact⟨b,c.1,c.2⟩
theorem Jb {f:Flood} (hf:f∈n.floods):∃ x∈p,x.kind=7∧x.dev=dn n f.dev∧x.num=f.vni∧x.addrs=f.addrs:=by
 obtain ⟨x,hx,h1,h2,h3,h4⟩:=(r.flood _ _ _).1 ⟨f,hf,rfl,rfl,rfl⟩
 exact⟨x,hx,h1,h2,h3,h4⟩
theorem Aa1 {f:Flood} (hf:f∈n.floods):f.vni≠0:=by
 obtain ⟨x,hx,h1,h2,h3,h4⟩:=Jb r hr v hf
 have:=(Abq (v.right x hx) h1).1
 omega
theorem Aa2 {f:Flood} (hf:f∈n.floods):(nth n.devices f.dev).vtep≠0∧(nth n.devices f.dev).vtep∉f.addrs:=by
 obtain ⟨x,hx,h1,h2,h3,h4⟩:=Jb r hr v hf
 obtain ⟨y,hy,k1,k2,k3⟩:=((v.need x hx).2.2.2.2.2.1 h1).2
 have hp:=Jv r hr hf
 have e:=Me r hp
 have hd:0≤Ap n (dn n f.dev):=by rw[e];have:=place_iff.1 hp;omega
 have ha:=J7 (v.right y hy) k1
 have:=(Ic r hr hd ha).2 ⟨y,hy,k1,k2.trans h2,rfl⟩
 rw[e]at this
 rw[this,← h4]
 exact⟨ha,k3⟩
theorem Zh {f:Flood} (hf:f∈n.floods):agreesB n f=true↔Akh p (dn n f.dev) f.vni f.addrs:=by
 have hw:=Aa1 r hr v hf
 have hp:=Jv r hr hf
 have ed:=Me r hp
 have hd:0≤Ap n (dn n f.dev):=by rw[ed];have:=place_iff.1 hp;omega
 obtain ⟨o1,o2⟩:=Aa2 r hr v hf
 have hc:=(r.vtep (dn n f.dev) _ o1).1 ⟨_,Ba hp,rfl,rfl⟩
 have h6:=S6 r hr hd hw
 rw[ed]at h6
 rw[agreesB,Bool.and_eq_true,decide_eq_true_eq,h6,Akh,List.all_eq_true]
 refine and_congr Iff.rfl ?_
 constructor
 ·intro h a ha
  have:=h a ha
  simp only[agreeA,Bool.and_eq_true,decide_eq_true_eq,bne_iff_ne,ne_eq,inB_iff,List.all_eq_true,Bool.or_eq_true,beq_iff_eq]at this
  obtain ⟨h1,h2,h3,h4,h5,h7⟩:=this
  obtain ⟨b1,b2⟩:=Ah4 r hr v h1
  obtain ⟨c1,c2,c3⟩:=L4 r hr v h4
  have et:=Me r b1
  have hdt:0≤Ap n (dn n (Bp n a)):=by rw[et];exact h1
  have hv:=S6 r hr hdt hw
  rw[et]at hv
  exact⟨dn n (Bp n a),(r.vtep _ _ h2).1 ⟨_,Ba b1,q_,b2⟩,hv.1 h3,_,(r.flood _ _ _).1 ⟨_,Ba c1,by rw[c2],c3,q_⟩,⟨_,hc,h5⟩,h7⟩
 ·intro h a ha
  obtain ⟨t,h5,h6,B,h7,⟨c,hc5,hcB⟩,hB⟩:=h a ha
  obtain ⟨x,hx,x1,x2,x3⟩:=h5
  have ha0:a≠0:=by rw[← x3];exact J7 (v.right x hx) x1
  have h1:=(Ab6 r hr ha0).2 ⟨x,hx,x1,x3⟩
  obtain ⟨b1,b2⟩:=Ah4 r hr v h1
  obtain ⟨y,hy,y1,y2,y3⟩:=(r.vtep (dn n (Bp n a)) a ha0).1 ⟨_,Ba b1,rfl,b2⟩
  have exy:=Amx v hx hy (by simp[Dv,x1,y1,x3,y3])
  have et:dn n (Bp n a)=t:=by rw[← y2,← exy,x2]
  have edt:=Me r b1
  rw[et]at edt
  have hdt:0≤Ap n t:=by rw[edt];exact h1
  have q1:=(S6 r hr hdt hw).2 h6
  have q2:=(Yh r hr hdt f.vni).2 (Ce h7 fun z hz=>⟨hz.1,hz.2.1⟩)
  rw[edt]at q1 q2
  obtain ⟨c1,c2,c3⟩:=L4 r hr v q2
  obtain ⟨z,hz,z1,z2,z3,z4⟩:=h7
  obtain ⟨u,hu,u1,u2,u3,u4⟩:=Jb r hr v (Ba c1)
  have ezu:=Amx v hz hu (by simp[Dv,z1,u1,z2,u2,c2,et,z3,u3,c3])
  have eB:(nth n.floods (C4 n (Bp n a) f.vni)).addrs=B:=by rw[← u4,← ezu,z4]
  obtain ⟨w1,hw1,w2,w3,w4⟩:=hc5
  have hcc:(nth n.devices f.dev).vtep=c:=by
   have:=(Ic r hr hd (a:=c) (by rw[← w4];exact J7 (v.right w1 hw1) w2)).2 ⟨w1,hw1,w2,w3,w4⟩
   rwa [ed]at this
  simp only[agreeA,Bool.and_eq_true,decide_eq_true_eq,bne_iff_ne,ne_eq,inB_iff,List.all_eq_true,Bool.or_eq_true,beq_iff_eq]
  exact⟨h1,ha0,q1,q2,by rw[eB,hcc];exact hcB,by rw[eB];exact hB⟩
theorem Agf {l:List Int} (h:Hz l=true):∀ (j i:Nat),i<j→j<l.length→nth l (i:Int)<nth l (j:Int)
 | 0,i,hi,_=>by omega
 | j+1,i,hi,hj=>by
  have hg:∀ k:Nat,l.getD k 0=nth l (k:Int):=fun k=>by rw[nth,Int.toNat_natCast];rfl
  simp only[Hz,Bool.and_eq_true,List.all_eq_true,List.mem_range,Bool.or_eq_true,decide_eq_true_eq,beq_iff_eq]at h
  have h1:=(h.1 (j+1) hj).2
  have h2:nth l (j:Int)<nth l ((j+1:Nat):Int):=by
   rcases h1 with h1 | h1
   ·omega
   ·rw[hg,hg]at h1;exact h1
  by_cases e:i=j
  ·subst e;exact h2
  ·have:=Agf (l:=l) (by simp only[Hz,Bool.and_eq_true,List.all_eq_true,List.mem_range,Bool.or_eq_true,decide_eq_true_eq,beq_iff_eq];exact h) j i j_ j_
   omega
theorem E4 {i:Int} (hi:Af i n.domains.length=true):nth (Al n).domains i={ nth n.domains i with peers:=peersT n (nth n.domains i) }:=by
 obtain ⟨j,rfl,hj⟩:=D4 hi
 have:(Al n).domains=n.domains.map fun d=>{ d with peers:=peersT n d }:=rfl
 rw[this,A1 (by simpa using hj),A1 (by simpa using hj),List.getElem_map]
theorem Va (ha:∀ f∈n.floods,agreesB n f=true) {i:Int} (hi:Af i n.domains.length=true) (hl:0≤C4 n (nth n.domains i).dev (nth n.domains i).vni)
  {a:Int} (hm:a∈(nth n.floods (C4 n (nth n.domains i).dev (nth n.domains i).vni)).addrs) :
  Af (Et n (Bp n a) (nth n.domains i).vni) n.domains.length=true∧(nth n.domains (Et n (Bp n a) (nth n.domains i).vni)).dev=Bp n a∧Af (Bp n a) n.devices.length=true∧(nth n.domains (Et n (Bp n a) (nth n.domains i).vni)).vni=(nth n.domains i).vni ∧
  Bp n a≠(nth n.domains i).dev∧(nth n.devices (Bp n a)).vtep=a∧a≠0∧(nth n.devices (nth n.domains i).dev).vtep≠0∧i∈peersT n (nth n.domains (Et n (Bp n a) (nth n.domains i).vni)):=by
 obtain ⟨c1,c2,c3⟩:=L4 r hr v hl
 have hg:=ha _ (Ba c1)
 obtain ⟨o1,o2⟩:=Aa2 r hr v (Ba c1)
 have hw:=Aa1 r hr v (Ba c1)
 rw[c2]at o1 o2
 rw[c3]at hw
 rw[agreesB,Bool.and_eq_true,List.all_eq_true]at hg
 have:=hg.2 a hm
 simp only[agreeA,Bool.and_eq_true,decide_eq_true_eq,bne_iff_ne,ne_eq,inB_iff,List.all_eq_true,Bool.or_eq_true,beq_iff_eq]at this
 obtain ⟨h1,h2,h3,h4,h5,h7⟩:=this
 rw[c3]at h3 h4 h5
 rw[c2]at h5
 obtain ⟨b1,b2⟩:=Ah4 r hr v h1
 obtain ⟨e1,e2,e3,e4⟩:=Amv r hr v h3
 have hid:=B2 r hr (Ba hi)
 refine⟨e1,e2,b1,e3,fun e=>?_,b2,h2,o1,?_⟩
 ·rw[e]at b2
  rw[b2]at o2
  exact o2 hm
 ·rw[peersT,e2,e3,if_pos ⟨hw,h4⟩]
  refine List.mem_map.2 ⟨_,h5,?_⟩
  rw[Aj0 r hr v hid o1]
  exact Ajf r hr v hi hw
theorem Sm (ha:∀ f∈n.floods,agreesB n f=true):NetR (Al n):=by
 have hlen:(Al n).domains.length=n.domains.length:=List.length_map _
 have hdom:∀ a b,Bj (Al n) a b=Bj n a b:=fun a b=>Aoz _ _ _ fun _=>rfl
 have hN:=fun {i:Int} (hi:Af i n.domains.length=true)=>E4 r hr v hi
 refine⟨?_,fun i hi=>?_,fun i hi=>?_,fun i hi=>?_,hr.link,fun i hi=>?_,hr.flood,hr.vrf,fun i hi=>?_⟩
 ·have:=few_iff.1 hr.few
  exact few_iff.2 (by rw[hlen];exact this)
 ·rw[hlen]at hi
  rw[hN (Cf hi)]
  obtain ⟨a,b,c,d,e⟩:=bareB_iff.1 (hr.bare i hi)
  exact bareB_iff.2 ⟨a,b,c,d,by rw[hdom];exact e⟩
 ·rw[hlen]at hi
  have hip:=Cf hi
  rw[hN hip,Kn,Us]
  dsimp only
  by_cases hc:(nth n.domains (i:Int)).vni≠0∧0≤C4 n (nth n.domains (i:Int)).dev (nth n.domains (i:Int)).vni
  ·have hpe:peersT n (nth n.domains (i:Int))=(nth n.floods (C4 n (nth n.domains (i:Int)).dev (nth n.domains (i:Int)).vni)).addrs.map fun a=>Et n (Bp n a) (nth n.domains (i:Int)).vni:=if_pos hc
   have hpr:=fun {a:Int}=>Va r hr v ha hip hc.2 (a:=a)
   obtain ⟨c1,c2,c3⟩:=L4 r hr v hc.2
   obtain ⟨x,hx,x1,_,_,x4⟩:=Jb r hr v (Ba c1)
   have hlt:=Agf r hr v (Abq (v.right x hx) x1).2
   rw[x4]at hlt
   rw[hpe]
   generalize (nth n.floods (C4 n (nth n.domains (i:Int)).dev (nth n.domains (i:Int)).vni)).addrs=A at *
   intro j hj
   rw[List.length_map]at hj
   have hget:∀ k:Nat,k<A.length→nth (A.map fun a=>Et n (Bp n a) (nth n.domains (i:Int)).vni) (k:Int)=Et n (Bp n (nth A (k:Int))) (nth n.domains (i:Int)).vni:=fun k hk=>An2 (fun a=>Et n (Bp n a) (nth n.domains (i:Int)).vni) hk
   rw[hget j hj,Bool.and_eq_true,beq_iff_eq]
   obtain ⟨p1,p2,p3,p4,p5,p6,p7,p8,p9⟩:=hpr (Ba (Cf hj))
   constructor
   ·have e:=hN p1
    refine peerB_iff.2 ⟨by rw[hlen];exact p1,fun e=>p5 (by rw[← p2,e]),by rw[e];show Af (nth n.domains _).dev _=true;rw[p2];exact p3,by rw[e];show (nth n.domains _).dev≠_;rw[p2];exact p5,by rw[e];exact p4,hc.1,?_,?_,by rw[e];exact inB_iff.2 p9⟩
    ·rw[e,Jf,bne_iff_ne]
     show (nth n.devices (nth n.domains _).dev).vtep≠0
     rw[p2,p6];exact p7
    ·rw[Jf,bne_iff_ne]
     exact p8
   ·refine Di (by rw[List.length_map];exact hj) (fun k hk hkj=>?_) ?_
    ·rw[Cc,hget k j_,beq_eq_false_iff_ne]
     intro e
     obtain ⟨_,q2,_,_,_,q6,_⟩:=hpr (Ba (Cf (show k<A.length by omega)))
     rw[e,p2]at q2
     rw[← q2,p6]at q6
     have:=hlt j k hkj hj
     omega
    ·rw[Cc,hget j hj,beq_self_eq_true]
  ·have hpe:peersT n (nth n.domains (i:Int))=[]:=if_neg hc
   rw[hpe]
   intro j hj
   simp at hj
 ·obtain ⟨a,b,c,d,e,f,g,q⟩:=portB_iff.1 (hr.port i hi)
  exact portB_iff.2 ⟨a,b,c,d,e,fun v hv=>by rw[hdom];exact f v hv,fun hv=>by rw[hdom];exact g hv,q⟩
 ·obtain ⟨a,b,c,d⟩:=staticB_iff.1 (hr.static i hi)
  have e:=hN a
  refine staticB_iff.2 ⟨by rw[hlen];exact a,b,?_,?_⟩
  ·exact c.trans (congrArg Domain.dev e).symm
  ·have e2:=congrArg Domain.vlan e
   have d:=d
   rw[← e2]at d;exact d
 ·obtain ⟨a,b,c,d,f⟩:=irbB_iff.1 (hr.irb i hi)
  have e:=hN a
  exact irbB_iff.2 ⟨by rw[hlen];exact a,b,(congrArg Domain.dev e).trans c,(congrArg Domain.irb e).trans d,f⟩
end
theorem Alo {n m:Net} {p:List LineM} (r:Rep n p) (hr:NetR n) (s:Rep m p) (hs:NetR m) (v:Valid p) (h:(meshNT n).2.2=0):(meshNT m).2.2=0∧(meshNT m).1=Al m∧NetR (Al m):=by
 obtain ⟨_,_,_,h4⟩:=Acl h
 have ha:∀ f∈n.floods,agreesB n f=true:=fun f hf=>by
  have:=List.find?_eq_none.1 h4 f hf
  simpa using this
 have hb:∀ f∈m.floods,agreesB m f=true:=fun f hf=>by
  rw[Zh s hs v hf]
  obtain ⟨g,hg,e1,e2,e3⟩:=(r.flood _ _ _).2 ((s.flood _ _ _).1 ⟨f,hf,rfl,rfl,rfl⟩)
  rw[← e1,← e2,← e3,← Zh r hr v hg]
  exact ha g hg
 have hR:=Sm s hs v hb
 have e:meshNT m=(Al m,0,0):=by
  have hf:m.floods.find? (fun f=>!(agreesB m f))=none:=List.find?_eq_none.2 fun f hf=>by rw[hb f hf];simp
  rw[meshNT,if_neg (by rw[netR_iff.2 hs];simp),hf]
  dsimp only
  rw[if_neg (by rw[netR_iff.2 hR];simp)]
 rw[e]
 exact⟨q_,q_,hR⟩
end Go.Sy.YtdkfcckkkfghgaaGreatDoor
namespace Go.Sy.YtdkfcckkkfghgaaGreatDoor
open Go.Proofs
inductive Conn (E:Int→Int→Prop):Int→Int→Prop
 | refl (a:Int):Conn E a a
 | edge {a b:Int}:E a b→Conn E a b
 | symm {a b:Int}:Conn E a b→Conn E b a
 | trans {a b c:Int}:Conn E a b→Conn E b c→Conn E a c
theorem Conn.lift {E:Int→Int→Prop} {R:Int→Int→Prop} (h1:∀ a,R a a) (h2:∀ a b,R a b→R b a) (h3:∀ a b c,R a b→R b c→R a c) (h4:∀ a b,E a b→R a b) {a b:Int} (h:Conn E a b):R a b:=by
 induction h with
 | refl a=>exact h1 a
 | edge h=>exact h4 _ _ h
 | symm _ ih=>exact h2 _ _ ih
 | trans _ _ ih1 ih2=>exact h3 _ _ _ ih1 ih2
theorem Conn.sub {E F:Int→Int→Prop} (h:∀ a b,E a b→Conn F a b) {a b:Int} (hc:Conn E a b):Conn F a b:=Conn.lift (R:=Conn F) .refl (fun _ _=>.symm) (fun _ _ _=>.trans) h hc
theorem Conn.mono {E F:Int→Int→Prop} (h:∀ a b,E a b→F a b) {a b:Int} (hc:Conn E a b):Conn F a b:=Conn.sub (fun _ _ he=>.edge (h _ _ he)) hc
theorem Conn.keeps {E:Int→Int→Prop} {Z:Int→Prop} (h:∀ a b,E a b→(Z a↔Z b)) {a b:Int} (hc:Conn E a b):Z a↔Z b:=Conn.lift (R:=fun a b=>Z a↔Z b) (fun _=>Iff.rfl) (fun _ _ h=>h.symm) (fun _ _ _ h1 h2=>h1.trans h2) h hc
theorem Ach {l:List Int} {a b v:Int} (h0:0≤a) (h1:a.toNat<l.length) (hb:0≤b):nth (l.set a.toNat v) b=if b=a then v else nth l b:=by
 unfold nth
 by_cases e:b=a
 ·subst e
  rw[if_pos rfl,List.getElem?_set_self h1]
  rfl
 ·rw[if_neg e,List.getElem?_set_ne j_]
def rtF:Nat→List Int→Int→Int
 | 0,_,i=>i
 | k+1,f,i=>if nth f i=i then i else rtF k f (nth f i)
def rt (f:List Int) (i:Int):Int:=rtF (i.toNat+1) f i
def InR (f:List Int) (i:Int):Prop:=0≤i∧i.toNat<f.length
theorem Ad1 {f:List Int} (hf:Bs f):∀ (m k k':Nat) (i:Int),InR f i→i.toNat≤m→i.toNat+1≤k→i.toNat+1≤k'→rtF k f i=rtF k' f i
 | m,0,_,_,_,_,h,_=>by omega
 | m,_+1,0,_,_,_,_,h=>by omega
 | m,k+1,k'+1,i,hi,hm,h1,h2=>by
  rw[rtF,rtF]
  by_cases e:nth f i=i
  ·rw[if_pos e,if_pos e]
  ·rw[if_neg e,if_neg e]
   obtain ⟨a1,a2⟩:=By hf hi.1 hi.2
   have:=hi.1
   have:=hi.2
   match m with
   | 0=>omega
   | m+1=>exact Ad1 hf m k k' _ ⟨a1,by omega⟩ j_ j_ j_
theorem Km {f:List Int} {i:Int} (h:nth f i=i):rt f i=i:=by rw[rt,rtF,if_pos h]
theorem Sw {f:List Int} (hf:Bs f) {i:Int} (hi:InR f i):InR f (nth f i):=by
 obtain ⟨a1,a2⟩:=By hf hi.1 hi.2
 have:=hi.2
 exact⟨a1,by omega⟩
theorem Ii {f:List Int} (hf:Bs f) {i:Int} (hi:InR f i):rt f (nth f i)=rt f i:=by
 by_cases e:nth f i=i
 ·rw[e]
 ·obtain ⟨a1,a2⟩:=By hf hi.1 hi.2
  have h2:=hi.2
  rw[rt,rt,rtF.eq_2 _ _ (i.toNat),if_neg e]
  exact Ad1 hf _ _ _ _ ⟨a1,by omega⟩ (Nat.le_refl _) j_ j_
theorem Ad0 {f:List Int} (hf:Bs f):∀ (m:Nat) (i:Int),InR f i→i.toNat≤m→0≤rt f i∧rt f i≤i∧nth f (rt f i)=rt f i
 | m,i,hi,hm=>by
  by_cases e:nth f i=i
  ·rw[Km e]
   exact⟨hi.1,Int.le_refl _,e⟩
  ·obtain ⟨a1,a2⟩:=By hf hi.1 hi.2
   have h2:=hi.2
   rw[← Ii hf hi]
   match m with
   | 0=>omega
   | m+1 =>
    obtain ⟨b1,b2,b3⟩:=Ad0 hf m (nth f i) (Sw hf hi) j_
    exact⟨b1,by omega,b3⟩
theorem Anc {f:List Int} (hf:Bs f) {i:Int} (hi:InR f i):InR f (rt f i)∧rt f i≤i∧nth f (rt f i)=rt f i:=by
 obtain ⟨b1,b2,b3⟩:=Ad0 hf i.toNat i hi (Nat.le_refl _)
 have:=hi.2
 exact⟨⟨b1,by omega⟩,b2,b3⟩
theorem Tj {f:List Int} (hf:Bs f) {i:Int} (hi:InR f i) (hne:nth f i≠i):∀ (m:Nat) (j:Int),InR f j→j.toNat≤m→rt (f.set i.toNat (nth f (nth f i))) j=rt f j
 | m,j,hj,hm=>by
  have ha:=Sw hf hi
  have hb:=Sw hf ha
  obtain ⟨a1,a2⟩:=By hf hi.1 hi.2
  obtain ⟨b1,b2⟩:=By hf ha.1 ha.2
  have hi1:=hi.1
  have hi2:=hi.2
  have hj1:=hj.1
  have hj2:=hj.2
  have hf':Bs (f.set i.toNat (nth f (nth f i))):=E8 hf hi2 b1 j_
  have hj':InR (f.set i.toNat (nth f (nth f i))) j:=⟨hj1,by rw[List.length_set];exact hj2⟩
  have hput:=Ach (l:=f) (v:=nth f (nth f i)) hi1 hi2 hj1
  by_cases e:j=i
  ·rw[if_pos e]at hput
   rw[← Ii hf' hj',hput]
   have:rt f j=rt f (nth f (nth f i)):=by rw[Ii hf ha,Ii hf hi,e]
   rw[this]
   match m with
   | 0=>omega
   | m+1=>exact Tj hf hi hne m _ hb j_
  ·rw[if_neg e]at hput
   by_cases e2:nth f j=j
   ·rw[Km e2,Km (hput.trans e2)]
   ·obtain ⟨c1,c2⟩:=By hf hj1 hj2
    rw[← Ii hf' hj',hput,← Ii hf hj]
    match m with
    | 0=>omega
    | m+1=>exact Tj hf hi hne m _ (Sw hf hj) j_
theorem Ahn:∀ (m:Nat) (f:List Int) (i:Int),Bs f→InR f i→i.toNat≤m→(E1 f i).2=rt f i∧∀ j,InR f j→rt (E1 f i).1 j=rt f j
 | m,f,i,hf,hi,hm=>by
  by_cases e:nth f i=i
  ·rw[Abk e,Km e];exact⟨rfl,fun _ _=>rfl⟩
  ·have ha:=Sw hf hi
   have hb:=Sw hf ha
   obtain ⟨a1,a2⟩:=By hf hi.1 hi.2
   obtain ⟨b1,b2⟩:=By hf ha.1 ha.2
   have hi2:=hi.2
   rw[Xj hf hi.1 hi.2 e]
   have hf':Bs (f.set i.toNat (nth f (nth f i))):=E8 hf hi2 b1 j_
   match m with
   | 0=>omega
   | m+1 =>
    obtain ⟨c1,c2⟩:=Ahn m _ (nth f (nth f i)) hf' ⟨b1,by rw[List.length_set];exact hb.2⟩ j_
    refine⟨?_,fun j hj=>?_⟩
    ·rw[c1,Tj hf hi e _ _ hb (Nat.le_refl _),Ii hf ha,Ii hf hi]
    ·rw[c2 j ⟨hj.1,by rw[List.length_set];exact hj.2⟩,Tj hf hi e _ _ hj (Nat.le_refl _)]
theorem Ajk {f:List Int} (hf:Bs f) {a b:Int} (ha:InR f a) (hb:0≤b) (hba:b≤a) (ra:nth f a=a) (rb:nth f b=b):∀ (m:Nat) (j:Int),InR f j→j.toNat≤m→rt (f.set a.toNat b) j=if rt f j=a then b else rt f j
 | m,j,hj,hm=>by
  have ha1:=ha.1
  have ha2:=ha.2
  have hf':Bs (f.set a.toNat b):=E8 hf ha2 hb j_
  have hj':InR (f.set a.toNat b) j:=⟨hj.1,by rw[List.length_set];exact hj.2⟩
  have hput:=Ach (l:=f) (v:=b) ha1 ha2 hj.1
  by_cases e:j=a
  ·rw[if_pos e]at hput
   subst e
   rw[Km ra,if_pos rfl]
   by_cases e3:b=j
   ·rw[Km (by rw[hput,e3]),e3]
   ·rw[← Ii hf' hj',hput]
    have hpb:=Ach (l:=f) (v:=b) ha1 ha2 hb
    rw[if_neg e3]at hpb
    exact Km (hpb.trans rb)
  ·rw[if_neg e]at hput
   by_cases e2:nth f j=j
   ·rw[Km e2,Km (hput.trans e2),if_neg e]
   ·obtain ⟨c1,c2⟩:=By hf hj.1 hj.2
    rw[← Ii hf' hj',hput,← Ii hf hj]
    match m with
    | 0=>omega
    | m+1=>exact Ajk hf ha hb hba ra rb m _ (Sw hf hj) j_
theorem Ap9 {f:List Int} (hf:Bs f) {a b:Int} (ha:InR f a) (hb:InR f b):(Jp f a b).2=(rt f a != rt f b)∧∀ j,InR f j→rt (Jp f a b).1 j=if rt f j=max (rt f a) (rt f b) then min (rt f a) (rt f b) else rt f j:=by
 obtain ⟨a1,a2,a3,a4⟩:=I5 a.toNat f a hf ha.1 ha.2 (Nat.le_refl _)
 obtain ⟨t1,t2⟩:=Ahn a.toNat f a hf ha (Nat.le_refl _)
 have hb':InR (E1 f a).1 b:=⟨hb.1,by rw[a2];exact hb.2⟩
 obtain ⟨b1,b2,b3,b4⟩:=I5 b.toNat (E1 f a).1 b a1 hb'.1 hb'.2 (Nat.le_refl _)
 obtain ⟨u1,u2⟩:=Ahn b.toNat (E1 f a).1 b a1 hb' (Nat.le_refl _)
 obtain ⟨ra1,ra2,ra3⟩:=Anc hf ha
 obtain ⟨rb1,rb2,rb3⟩:=Anc hf hb
 rw[t2 b hb]at u1
 have hrt:∀ j,InR f j→rt (E1 (E1 f a).1 b).1 j=rt f j:=fun j hj=>by rw[u2 j ⟨hj.1,by rw[a2];exact hj.2⟩,t2 j hj]
 have hin:∀ j,InR f j→InR (E1 (E1 f a).1 b).1 j:=fun j hj=>⟨hj.1,by rw[b2,a2];exact hj.2⟩
 have htop:∀ j,InR f j→nth f j=j→nth (E1 (E1 f a).1 b).1 j=j:=fun j hj e=>by
  have h1:=hrt j hj
  rw[Km e]at h1
  have h2:=(Anc b1 (hin j hj)).2.2
  rw[h1]at h2
  exact h2
 unfold Jp
 dsimp only
 rw[t1,u1]
 refine⟨q_,fun j hj=>?_⟩
 have hmax:InR f (max (rt f a) (rt f b))∧nth f (max (rt f a) (rt f b))=max (rt f a) (rt f b):=by
  rw[Int.max_def];split
  ·exact⟨rb1,rb3⟩
  ·exact⟨ra1,ra3⟩
 have hmin:InR f (min (rt f a) (rt f b))∧nth f (min (rt f a) (rt f b))=min (rt f a) (rt f b):=by
  rw[Int.min_def];split
  ·exact⟨ra1,ra3⟩
  ·exact⟨rb1,rb3⟩
 rw[Ajk b1 (hin _ hmax.1) hmin.1.1 j_ (htop _ hmax.1 hmax.2) (htop _ hmin.1 hmin.2) j.toNat j (hin j hj) (Nat.le_refl _),hrt j hj]
structure Joins (f:List Int) (E:Int→Int→Prop):Prop where
 tree:Bs f
 inr:∀ a b,E a b→InR f a∧InR f b
 iff:∀ a b,InR f a→InR f b→(rt f a=rt f b↔Conn E a b)
theorem Joins.congr {f:List Int} {E F:Int→Int→Prop} (h:Joins f E) (he:∀ a b,E a b↔F a b):Joins f F:=by
 have:E=F:=funext fun a=>funext fun b=>propext (he a b)
 rwa [this]at h
theorem Afk (k:Nat):Joins (H4 k) (fun _ _=>False):=by
 have hk:=(I0 k).2
 have h1:∀ a,InR (H4 k) a→rt (H4 k) a=a:=fun a ha=>by
  refine Km ?_
  rw[A1 ha.2]
  have:=ha.1
  simp[H4]
  omega
 refine⟨(I0 k).1,fun _ _ h=>h.elim,fun a b ha hb=>?_⟩
 rw[h1 a ha,h1 b hb]
 constructor
 ·rintro rfl
  exact .refl a
 ·intro h
  exact Conn.lift (R:=fun a b=>a=b) (fun _=>rfl) (fun _ _ h=>h.symm) (fun _ _ _ h1 h2=>h1.trans h2) (fun _ _ h=>h.elim) h
theorem Yo {f:List Int} {E:Int→Int→Prop} (h:Joins f E) {a b:Int} (ha:InR f a) (hb:InR f b) :
  Joins (Jp f a b).1 (fun x y=>E x y∨(x=a∧y=b))∧(Jp f a b).1.length=f.length∧((Jp f a b).2=false↔Conn E a b):=by
 obtain ⟨j1,j2⟩:=Su h.tree ha hb
 obtain ⟨r1,r2⟩:=Ap9 h.tree ha hb
 have hin:∀ x,InR (Jp f a b).1 x↔InR f x:=fun x=>by unfold InR;rw[j2]
 have hE:∀ {x y},Conn E x y→Conn (fun x y=>E x y∨(x=a∧y=b)) x y:=fun h=>h.mono fun _ _=>.inl
 have hab:Conn (fun x y=>E x y∨(x=a∧y=b)) a b:=.edge (.inr ⟨rfl,rfl⟩)
 refine⟨⟨j1,?_,fun x y hx hy=>?_⟩,j2,?_⟩
 ·rintro x y (he | ⟨rfl,rfl⟩)
  ·have:=h.inr x y he
   exact⟨(hin x).2 this.1,(hin y).2 this.2⟩
  ·exact⟨(hin _).2 ha,(hin _).2 hb⟩
 ·have hx':=(hin x).1 hx
  have hy':=(hin y).1 hy
  rw[r2 x hx',r2 y hy']
  constructor
  ·intro he
   have key:rt f x=rt f y∨(rt f x=rt f a∧rt f y=rt f b)∨(rt f x=rt f b∧rt f y=rt f a):=by
    split at he<;>split at he<;>omega
   rcases key with k | ⟨k1,k2⟩ | ⟨k1,k2⟩
   ·exact hE ((h.iff x y hx' hy').1 k)
   ·exact((hE ((h.iff x a hx' ha).1 k1)).trans hab).trans (hE ((h.iff y b hy' hb).1 k2)).symm
   ·exact((hE ((h.iff x b hx' hb).1 k1)).trans hab.symm).trans (hE ((h.iff y a hy' ha).1 k2)).symm
  ·intro hc
   have key:x=y∨(InR f x∧InR f y∧(if rt f x=max (rt f a) (rt f b) then min (rt f a) (rt f b) else rt f x)=(if rt f y=max (rt f a) (rt f b) then min (rt f a) (rt f b) else rt f y)):=by
    refine Conn.lift (R:=fun x y=>x=y∨(InR f x∧InR f y∧(if rt f x=max (rt f a) (rt f b) then min (rt f a) (rt f b) else rt f x)=(if rt f y=max (rt f a) (rt f b) then min (rt f a) (rt f b) else rt f y)))
     (fun _=>.inl rfl) ?_ ?_ ?_ hc
    ·rintro x y (h | ⟨h1,h2,h3⟩)
     ·exact .inl h.symm
     ·exact .inr ⟨h2,h1,h3.symm⟩
    ·rintro x y z (rfl | ⟨h1,h2,h3⟩) h4
     ·exact h4
     ·rcases h4 with rfl | ⟨h5,h6,h7⟩
      ·exact .inr ⟨h1,h2,h3⟩
      ·exact .inr ⟨h1,h6,h3.trans h7⟩
    ·rintro x y (he | ⟨rfl,rfl⟩)
     ·obtain ⟨i1,i2⟩:=h.inr x y he
      exact .inr ⟨i1,i2,by rw[(h.iff x y i1 i2).2 (.edge he)]⟩
     ·refine .inr ⟨ha,hb,?_⟩
      split<;>split<;>omega
   rcases key with rfl | ⟨_,_,k⟩
   ·rfl
   ·exact k
 ·rw[r1,← h.iff a b ha hb]
  simp
theorem Ss {α:Type} {g:List Int→α→List Int} {R:α→Int→Int→Prop} {K:Nat}:∀ (l:List α) {f:List Int} {E:Int→Int→Prop},
  (∀ x∈l,∀ (f:List Int) (E:Int→Int→Prop),f.length=K→Joins f E→Joins (g f x) (fun a b=>E a b∨R x a b)∧(g f x).length=K)→f.length=K→Joins f E →
  Joins (l.foldl g f) (fun a b=>E a b∨∃ x∈l,R x a b)∧(l.foldl g f).length=K
 | [],f,E,_,hK,h=>⟨h.congr (fun a b=>by simp),hK⟩
 | x::l,f,E,hg,hK,h=>by
  obtain ⟨h1,h2⟩:=hg x qe f E hK h
  obtain ⟨h3,h4⟩:=Ss l (f:=g f x) (fun y hy=>hg y (by simp[hy])) h2 h1
  exact⟨h3.congr (fun a b=>by simp[or_assoc]),h4⟩
def InD (D:Nat) (i:Int):Prop:=0≤i∧i.toNat<D
def Abe (n:Net) (a b:Int):Prop:=∃ p:Nat,p<n.ports.length∧∃ v∈(nth n.ports (p:Int)).tagged++[(nth n.ports (p:Int)).native],(linkDomT n (p:Int) v).2=true∧a=Bj n (nth n.ports (p:Int)).dev v∧b=(linkDomT n (p:Int) v).1
theorem Afe {n:Net} (hr:Ah n=true) {a b:Int} (h:Abe n a b):InD n.domains.length a∧InD n.domains.length b:=by
 obtain ⟨p,hp,v,hv,h1,rfl,rfl⟩:=h
 have e:nth n.ports (p:Int)=n.ports[p]:=A1 (l:=n.ports) (i:=((p:Nat):Int)) hp
 have hm:=Kd h1 hp
 rw[e]
 exact⟨Kv hr hp hm,E7 h1⟩
theorem Acw {n:Net} (hr:Ah n=true) {f:List Int} {E:Int→Int→Prop} (hl:n.domains.length≤f.length) (h:Joins f E):Joins (K6 n f) (fun a b=>E a b∨Abe n a b)∧(K6 n f).length=f.length:=by
 obtain ⟨h1,h2⟩:=Ss (g:=E6 n) (K:=f.length) (R:=fun (p:Nat) a b=>∃ v∈(nth n.ports (p:Int)).tagged++[(nth n.ports (p:Int)).native],(linkDomT n (p:Int) v).2=true∧a=Bj n (nth n.ports (p:Int)).dev v∧b=(linkDomT n (p:Int) v).1)
  (List.range n.ports.length) (fun p hp f' E' hf' hJ=>by
   have hp:p<n.ports.length:=by simpa using hp
   have e:nth n.ports (p:Int)=n.ports[p]:=A1 (l:=n.ports) (i:=((p:Nat):Int)) hp
   refine Ss (g:=fun f v=>Cs n f (p:Int) v) (R:=fun v a b=>(linkDomT n (p:Int) v).2=true∧a=Bj n (nth n.ports (p:Int)).dev v∧b=(linkDomT n (p:Int) v).1) _ (fun v _ f2 E2 hf2 hJ2=>?_) hf' hJ
   unfold Cs
   cases hok:(linkDomT n (p:Int) v).2
   ·rw[if_neg qe]
    exact⟨hJ2.congr (fun a b=>by simp),hf2⟩
   ·rw[if_pos rfl]
    have hin:=Afe hr (n:=n) (a:=Bj n (nth n.ports (p:Int)).dev v) (b:=(linkDomT n (p:Int) v).1)
    have hm:=Kd hok hp
    have d1:=Kv hr hp hm
    have d2:=E7 hok
    rw[e]
    obtain ⟨j1,j2,_⟩:=Yo hJ2 (a:=Bj n n.ports[p].dev v) (b:=(linkDomT n (p:Int) v).1) ⟨d1.1,by omega⟩ ⟨d2.1,by omega⟩
    exact⟨j1.congr (fun a b=>by simp),by omega⟩) q_ h
 exact⟨h1.congr (fun a b=>by simp[Abe]),h2⟩
theorem Ae4:∀ (l:List Int) (m x:Int),H2 (min m x) l=min m (H2 x l)
 | [],_,_=>rfl
 | y::l,m,x=>by
  rw[H2,H2,← Ae4 l m (min x y),Int.min_assoc]
theorem Aqm {l:List Int} (h:l≠[]) (m:Int):H2 m l=min m (Zv l):=by
 match l,h with
 | x::l,_=>exact Ae4 l m x
theorem Api {E:Int→Int→Prop} {x y a b:Int} (h:Conn (fun u w=>E u w∨(u=x∧w=y)) a b):Conn E a b∨(Conn E a x∧Conn E y b)∨(Conn E a y∧Conn E x b):=by
 refine Conn.lift (R:=fun a b=>Conn E a b∨(Conn E a x∧Conn E y b)∨(Conn E a y∧Conn E x b)) (fun a=>.inl (.refl a)) ?_ ?_ ?_ h
 ·rintro a b (h | ⟨h1,h2⟩ | ⟨h1,h2⟩)
  ·exact .inl h.symm
  ·exact .inr (.inr ⟨h2.symm,h1.symm⟩)
  ·exact .inr (.inl ⟨h2.symm,h1.symm⟩)
 ·rintro a b c (h | ⟨h1,h2⟩ | ⟨h1,h2⟩) (k | ⟨k1,k2⟩ | ⟨k1,k2⟩)
  ·exact .inl (h.trans k)
  ·exact .inr (.inl ⟨h.trans k1,k2⟩)
  ·exact .inr (.inr ⟨h.trans k1,k2⟩)
  ·exact .inr (.inl ⟨h1,h2.trans k⟩)
  ·exact .inr (.inl ⟨h1,k2⟩)
  ·exact .inl (h1.trans k2)
  ·exact .inr (.inr ⟨h1,h2.trans k⟩)
  ·exact .inl (h1.trans k2)
  ·exact .inr (.inr ⟨h1,k2⟩)
 ·rintro a b (h | ⟨rfl,rfl⟩)
  ·exact .inl (.edge h)
  ·exact .inr (.inl ⟨.refl _,.refl _⟩)
def Hh (n:Net) (i:Int):Int:=(n.domains.length:Int)+H2 i (nth n.domains i).peers
def EN (n:Net) (S:Int→Prop) (a b:Int):Prop:=Abe n a b∨∃ j:Int,Af j n.domains.length=true∧S j∧(nth n.domains j).peers≠[]∧a=j∧b=Hh n j
theorem Uw {n:Net} {S T:Int→Prop} (h:∀ j,S j→T j) (a b:Int) (he:EN n S a b):EN n T a b:=by
 rcases he with he | ⟨j,h1,h2,h3⟩
 ·exact .inl he
 ·exact .inr ⟨j,h1,h j h2,h3⟩
def Seq (n:Net):Prop:=∀ i:Int,Af i n.domains.length=true→(nth n.domains i).peers≠[]→¬ Conn (EN n fun j=>j<i) i (Hh n i)
def Apz (n:Net):Prop:=∀ i:Int,Af i n.domains.length=true→(nth n.domains i).peers≠[]→¬ Conn (EN n fun j=>j≠i) i (Hh n i)
theorem Ao9 {n:Net} (h:Apz n):Seq n:=fun i hi hp hc=>h i hi hp (hc.mono (Uw fun j hj=>by omega))
theorem Anb {n:Net} (h:Seq n):Apz n:=by
 have key:∀ (K:Nat) (i:Int),i<K→Af i n.domains.length=true→(nth n.domains i).peers≠[]→¬ Conn (EN n fun j=>j<K∧j≠i) i (Hh n i):=by
  intro K
  induction K with
  | zero=>intro i hi hp;have:=place_iff.1 hp;omega
  | succ K ih =>
   intro i hi hp hpe hc
   by_cases e:i=(K:Int)
   ·exact h i hp hpe (hc.mono (Uw fun j hj=>by omega))
   ·have hiK:i<(K:Int):=by omega
    have hc2:Conn (fun u w=>EN n (fun j=>j<(K:Int)∧j≠i) u w∨(((K:Int)<(n.domains.length:Int)∧(nth n.domains (K:Int)).peers≠[])∧u=(K:Int)∧w=Hh n (K:Int))) i (Hh n i):=by
     refine hc.mono fun a b he=>?_
     rcases he with he | ⟨j,h1,h2,h3,h4,h5⟩
     ·exact .inl (.inl he)
     ·by_cases ej:j=(K:Int)
      ·subst ej
       have:=place_iff.1 h1
       exact .inr ⟨⟨by omega,h3⟩,h4,h5⟩
      ·exact .inl (.inr ⟨j,h1,⟨by omega,h2.2⟩,h3,h4,h5⟩)
    by_cases hK:(K:Int)<(n.domains.length:Int)∧(nth n.domains (K:Int)).peers≠[]
    ·have hsub:∀ {a b},Conn (EN n fun j=>j<(K:Int)∧j≠i) a b→Conn (EN n fun j=>j<(K:Int)) a b:=fun h=>h.mono (Uw fun j hj=>hj.1)
     have hed:Conn (EN n fun j=>j<(K:Int)) i (Hh n i):=.edge (.inr ⟨i,hp,hiK,hpe,rfl,rfl⟩)
     have hseq:=h (K:Int) (place_iff.2 j_) hK.2
     rcases Api (hc2.mono fun a b he=>he.imp id fun he=>he.2) with g | ⟨g1,g2⟩ | ⟨g1,g2⟩
     ·exact ih i hiK hp hpe g
     ·exact hseq (((hsub g1).symm.trans hed).trans (hsub g2).symm)
     ·exact hseq (((hsub g2).trans hed.symm).trans (hsub g1))
    ·exact ih i hiK hp hpe (hc2.mono fun a b he=>he.elim id fun he=>absurd he.1 hK)
 intro i hi hp hc
 have:=place_iff.1 hi
 refine key n.domains.length i j_ hi hp ?_
 refine hc.mono fun a b he=>?_
 rcases he with he | ⟨j,h1,h2,h3⟩
 ·exact .inl he
 ·have:=place_iff.1 h1
  exact .inr ⟨j,h1,⟨by omega,h2⟩,h3⟩
theorem Sr {n:Net} (hr:Ah n=true):∀ (r:List Domain) (i:Nat) (f:List Int),n.domains.drop i=r→Joins f (EN n fun j=>j<(i:Int))→f.length=2 * n.domains.length →
  ((Oe n f i r).2=false↔∀ j:Int,(i:Int)≤j→Af j n.domains.length=true→(nth n.domains j).peers≠[]→¬ Conn (EN n fun k=>k<j) j (Hh n j))
 | [],i,f,hd,_,_=>by
  have:n.domains.length≤i:=by simpa using hd
  refine⟨fun _ j hj hp=>?_,fun _=>rfl⟩
  have:=place_iff.1 hp;omega
 | d::r,i,f,hd,hJ,hf=>by
  have hi:i<n.domains.length:=by
   have:(n.domains.drop i).length=(d::r).length:=by rw[hd]
   rw[List.length_drop,List.length_cons]at this
   omega
  rw[List.drop_eq_getElem_cons hi]at hd
  obtain ⟨hd1,hd2⟩:=List.cons.inj hd
  have hdn:nth n.domains (i:Int)=d:=by rw[← Cc _ _ hi];exact hd1
  rw[Oe]
  have hcast:(((i+1:Nat)):Int)=(i:Int)+1:=by omega
  by_cases hp:d.peers=[]
  ·rw[if_pos hp,Sr hr r (i+1) f hd2 (hJ.congr fun a b=>by
    constructor
    ·exact Uw (fun j hj=>by omega) a b
    ·rintro (he | ⟨j,h1,h2,h3,h4⟩)
     ·exact .inl he
     ·by_cases ej:j=(i:Int)
      ·subst ej;rw[hdn]at h3;exact absurd hp h3
      ·exact .inr ⟨j,h1,by omega,h3,h4⟩) hf]
   constructor
   ·intro h j hj hpl hpe
    by_cases ej:j=(i:Int)
    ·subst ej;rw[hdn]at hpe;exact absurd hp hpe
    ·exact h j j_ hpl hpe
   ·intro h j hj hpl hpe
    exact h j j_ hpl hpe
  ·rw[if_neg hp]
   dsimp only
   have hmin:=Aqm hp (i:Int)
   have hpm:=Aiw hr hi (p:=Zv d.peers) (by rw[hd1];exact Aj2 hp)
   have him:InD n.domains.length (H2 (i:Int) d.peers):=by
    rw[hmin,Int.min_def]
    split
    ·exact⟨by omega,by omega⟩
    ·exact hpm
   rw[← hmin]
   have hmz:Hh n (i:Int)=(n.domains.length:Int)+H2 (i:Int) d.peers:=by rw[Hh,hdn]
   obtain ⟨j1,j2,j3⟩:=Yo hJ (a:=(i:Int)) (b:=(n.domains.length:Int)+H2 (i:Int) d.peers) ⟨by omega,by omega⟩ ⟨by have:=him.1;omega,by have:=him.1;have:=him.2;omega⟩
   rw[← hmz]at j1 j2 j3 ⊢
   by_cases hc:Conn (EN n fun j=>j<(i:Int)) (i:Int) (Hh n (i:Int))
   ·rw[if_pos (j3.2 hc)]
    refine⟨fun h=>(by cases h),fun h=>?_⟩
    exact absurd hc (h (i:Int) j_ (Cf hi) (by rw[hdn];exact hp))
   ·rw[if_neg (fun h=>hc (j3.1 h)),Sr hr r (i+1) _ hd2 (j1.congr fun a b=>by
     constructor
     ·rintro (he | ⟨rfl,rfl⟩)
      ·exact Uw (fun j hj=>by omega) a b he
      ·exact .inr ⟨(i:Int),Cf hi,by omega,by rw[hdn];exact hp,q_,q_⟩
     ·rintro (he | ⟨j,h1,h2,h3,h4,h5⟩)
      ·exact .inl (.inl he)
      ·by_cases ej:j=(i:Int)
       ·subst ej;exact .inr ⟨h4,h5⟩
       ·exact .inl (.inr ⟨j,h1,by omega,h3,h4,h5⟩)) j_]
    constructor
    ·intro h j hj hpl hpe
     by_cases ej:j=(i:Int)
     ·subst ej;exact hc
     ·exact h j j_ hpl hpe
    ·intro h j hj hpl hpe
     exact h j j_ hpl hpe
theorem Aap {n:Net} (hr:Ah n=true):(loopT n).2=false↔Apz n:=by
 obtain ⟨j1,j2⟩:=Acw hr (by rw[(I0 (2 * n.domains.length)).2];omega) (Afk (2 * n.domains.length))
 rw[loopT,if_neg (by rw[hr];decide),Sr hr n.domains 0 _ rfl (j1.congr fun a b=>by
  constructor
  ·rintro (h | h)
   ·exact h.elim
   ·exact .inl h
  ·rintro (h | ⟨j,h1,h2,_⟩)
   ·exact .inr h
   ·have:=place_iff.1 h1;omega) (by rw[j2,(I0 _).2])]
 constructor
 ·intro h
  exact Anb fun i hi hp=>h i (by have:=place_iff.1 hi;omega) hi hp
 ·intro h j _ hj hp
  exact Ao9 h j hj hp
end Go.Sy.YtdkfcckkkfghgaaGreatDoor
namespace Go.Sy.YtdkfcckkkfghgaaGreatDoor
open Go.Proofs
attribute [local irreducible] Go.Sy.G Go.Sy.DR
set_option maxRecDepth 20000
set_option maxHeartbeats 8000000
def ext1 (S:Srch) (k i:Int) (l:List Hop):Srch:=l.foldl (fun S h=>D6 S h.domain k h i) S
def ext2 (S:Srch) (i:Int) (l:List Lead):Srch:=l.foldl (fun S q=>D6 S q.domain 1 ⟨3,0,q.domain,q.addr⟩ i) S
def Y3 (n:Net) (S:Srch) (i:Int):Srch :=
 if (nth S.list i).kind=0 then ext2 (ext1 S 0 i (Kr n (nth S.list i).domain)) i (J6 n (nth S.list i).domain) else ext1 S 1 i (Kr n (nth S.list i).domain)
theorem Srch.OK.ext1 {n:Net} {k i:Int} (hk:k=0∨k=1):∀ {l:List Hop} {S:Srch},S.OK n→(∀ h∈l,0≤h.domain∧h.domain.toNat<n.domains.length)→(ext1 S k i l).OK n
 | [],S,h,_=>h
 | x::l,S,h,hl=>Srch.OK.ext1 hk (l:=l) (h.meet (hl x qe) hk x i) (fun y hy=>hl y (by simp[hy]))
theorem Srch.OK.ext2 {n:Net} {i:Int}:∀ {l:List Lead} {S:Srch},S.OK n→(∀ h∈l,0≤h.domain∧h.domain.toNat<n.domains.length)→(ext2 S i l).OK n
 | [],S,h,_=>h
 | x::l,S,h,hl=>Srch.OK.ext2 (l:=l) (h.meet (hl x qe) (.inr rfl) _ i) (fun y hy=>hl y (by simp[hy]))
theorem Srch.OK.ext {n:Net} {S:Srch} (h:S.OK n) (i:Int):(Y3 n S i).OK n:=by
 rw[Y3]
 split
 ·exact(h.ext1 (.inl q_) (fun x hx=>Oj hx)).ext2 (fun x hx=>Sf hx)
 ·exact h.ext1 (.inr q_) (fun x hx=>Oj hx)
def backC (l:List Fnd) (i:Int):List Hop :=
 if _h:0≤i∧(nth l i).ahead<i then (nth l i).hop::backC l (nth l i).ahead else []
 termination_by (i+1).toNat
 decreasing_by omega
def Iz (l:List Fnd) (i:Int):List Hop:=(backC l i).reverse
def Backs (l:List Fnd):Prop:=∀ i (h:i<l.length),-1≤l[i].ahead∧l[i].ahead<i
theorem Backs.snoc {l:List Fnd} (h:Backs l) {f:Fnd} (hf:-1≤f.ahead∧f.ahead<l.length):Backs (l++[f]):=fun i hi=>by
 by_cases hl:i<l.length
 ·rw[List.getElem_append_left hl]
  exact h i hl
 ·have:i=l.length:=by simp at hi;omega
  subst this
  simpa using hf
theorem Backs.meet {S:Srch} (h:Backs S.list) (d k:Int) (hp:Hop) {a:Int} (ha:-1≤a∧a<S.list.length):Backs (D6 S d k hp a).list∧S.list.length≤(D6 S d k hp a).list.length:=by
 rw[D6]
 split
 ·exact⟨h,Nat.le_refl _⟩
 ·rw[Mn]
  split
  ·exact⟨h.snoc ha,by simp⟩
  ·exact⟨h.snoc ha,by simp⟩
theorem Backs.ext1 {k i:Int}:∀ {l:List Hop} {S:Srch},Backs S.list→(-1≤i∧i<S.list.length)→Backs (ext1 S k i l).list∧S.list.length≤(ext1 S k i l).list.length
 | [],S,h,_=>⟨h,Nat.le_refl _⟩
 | x::l,S,h,hi=>by
  obtain ⟨h1,h2⟩:=h.meet x.domain k x hi
  obtain ⟨h3,h4⟩:=Backs.ext1 (k:=k) (i:=i) (l:=l) h1 ⟨hi.1,by omega⟩
  exact⟨h3,Nat.le_trans h2 h4⟩
theorem Backs.ext2 {i:Int}:∀ {l:List Lead} {S:Srch},Backs S.list→(-1≤i∧i<S.list.length)→Backs (ext2 S i l).list∧S.list.length≤(ext2 S i l).list.length
 | [],S,h,_=>⟨h,Nat.le_refl _⟩
 | x::l,S,h,hi=>by
  obtain ⟨h1,h2⟩:=h.meet x.domain 1 ⟨3,0,x.domain,x.addr⟩ hi
  obtain ⟨h3,h4⟩:=Backs.ext2 (i:=i) (l:=l) h1 ⟨hi.1,by omega⟩
  exact⟨h3,Nat.le_trans h2 h4⟩
theorem Backs.ext {n:Net} {S:Srch} (h:Backs S.list) {i:Int} (hi:0≤i∧i<S.list.length):Backs (Y3 n S i).list∧S.list.length≤(Y3 n S i).list.length:=by
 rw[Y3]
 split
 ·obtain ⟨h1,h2⟩:=h.ext1 (k:=0) (i:=i) (l:=Kr n (nth S.list i).domain) ⟨by omega,hi.2⟩
  obtain ⟨h3,h4⟩:=h1.ext2 (i:=i) (l:=J6 n (nth S.list i).domain) ⟨by omega,by omega⟩
  exact⟨h3,Nat.le_trans h2 h4⟩
 ·exact h.ext1 ⟨by omega,hi.2⟩
end Go.Sy.YtdkfcckkkfghgaaGreatDoor
namespace Go.Sy.YtdkfcckkkfghgaaGreatDoor
open Go.Proofs
def Agm (n:Net) (h:Hop):Prop:=(0≤h.domain∧h.domain.toNat<n.domains.length)∧0≤h.addr∧h.addr<4294967296
theorem Amo {n:Net} {irb to e:Int} (he:e<4294967296):∀ {x:Int},0≤x→0≤(addrGo n irb to e x).1∧(addrGo n irb to e x).1<4294967296:=by
 intro x
 induction x using addrGo.induct n irb to e with
 | case1 x h1 h2=>intro h0;rw[addrGo,if_pos h1,if_pos h2];exact⟨h0,by simp only;omega⟩
 | case2 x h1 h2 h3=>intro h0;rw[addrGo,if_pos h1,if_neg h2,if_pos h3];decide
 | case3 x h1 h2 h3 h4 ih=>intro h0;rw[addrGo,if_pos h1,if_neg h2,if_neg h3,if_pos h4];exact ih j_
 | case4 x h1 h2 h3 h4=>intro h0;rw[addrGo,if_pos h1,if_neg h2,if_neg h3,if_neg h4];decide
 | case5 x h1=>intro h0;rw[addrGo,if_neg h1];decide
theorem Apu {n:Net} (hu:I3 n) (irb to:Int):0≤(Agh n irb to).1∧(Agh n irb to).1<4294967296:=by
 rw[Agh]
 split
 ·rename_i hc
  have hk:to.toNat<n.irbs.length:=by omega
  rw[A1 hk]
  have hui:=hu _ (List.getElem_mem hk)
  exact Amo (Aoo _ _ hui).2 (Amb _ _ hui).1
 ·decide
theorem Afq {n:Net} {d:Int} {h:Hop} (hh:h∈Kr n d):Agm n h:=by
 refine⟨Oj hh,?_⟩
 rw[Kr]at hh
 split at hh
 ·rcases List.mem_append.1 hh with hh | hh
  ·obtain ⟨p,_,hp⟩:=List.mem_filterMap.1 hh
   rw[Acs]at hp
   split at hp
   ·simp only[Option.some.injEq]at hp
    subst hp
    exact⟨by simp,by simp⟩
   ·cases hp
  ·obtain ⟨p,hp,rfl⟩:=List.mem_map.1 hh
   exact⟨by simp[Acm],by simp[Acm]⟩
 ·cases hh
theorem Abo {n:Net} (hu:I3 n) {d:Int} {q:Lead} (hq:q∈J6 n d):0≤q.addr∧q.addr<4294967296:=by
 rw[J6]at hq
 split at hq
 ·obtain ⟨i,hi,hp⟩:=List.mem_filterMap.1 hq
  rw[Aon]at hp
  split at hp
  ·simp only[Option.some.injEq]at hp
   subst hp
   exact Apu hu _ _
  ·cases hp
 ·cases hq
def HopsOK (n:Net) (l:List Fnd):Prop:=∀ f∈l,Agm n f.hop
theorem HopsOK.meet {n:Net} {S:Srch} (h:HopsOK n S.list) (d k:Int) {hp:Hop} (hh:Agm n hp) (a:Int):HopsOK n (D6 S d k hp a).list:=by
 rw[D6]
 split
 ·exact h
 ·rw[Mn]
  split<;>(intro f hf;rcases List.mem_append.1 hf with hf | hf;exact h f hf;rw[List.mem_singleton]at hf;subst hf;exact hh)
theorem HopsOK.ext1 {n:Net} {k i:Int}:∀ {l:List Hop} {S:Srch},HopsOK n S.list→(∀ h∈l,Agm n h)→HopsOK n (ext1 S k i l).list
 | [],S,h,_=>h
 | x::l,S,h,hl=>HopsOK.ext1 (l:=l) (h.meet x.domain k (hl x qe) i) (fun y hy=>hl y (by simp[hy]))
theorem HopsOK.ext2 {n:Net} {i:Int}:∀ {l:List Lead} {S:Srch},HopsOK n S.list→(∀ q∈l,Agm n ⟨3,0,q.domain,q.addr⟩)→HopsOK n (ext2 S i l).list
 | [],S,h,_=>h
 | x::l,S,h,hl=>HopsOK.ext2 (l:=l) (h.meet x.domain 1 (hl x qe) i) (fun y hy=>hl y (by simp[hy]))
theorem HopsOK.ext {n:Net} (hu:I3 n) {S:Srch} (h:HopsOK n S.list) (i:Int):HopsOK n (Y3 n S i).list:=by
 rw[Y3]
 split
 ·exact(h.ext1 (fun x hx=>Afq hx)).ext2 (fun q hq=>⟨Sf hq,Abo hu hq⟩)
 ·exact h.ext1 (fun x hx=>Afq hx)
end Go.Sy.YtdkfcckkkfghgaaGreatDoor
namespace Go.Sy.YtdkfcckkkfghgaaGreatDoor
open Go.Proofs
attribute [local irreducible] Go.Sy.G Go.Sy.DR
set_option maxRecDepth 20000
set_option maxHeartbeats 8000000
structure WayD where
 (hops:List Hop) (routed:Bool)
instance:Inhabited WayD:=⟨⟨[],false⟩⟩
end Go.Sy.YtdkfcckkkfghgaaGreatDoor
namespace Go.Sy.YtdkfcckkkfghgaaGreatDoor
open Go.Proofs
theorem Yb {α:Type} [Inhabited α] {l m:List α} {i:Int} (h:i.toNat<l.length):nth (l++m) i=nth l i:=by
 rw[nth,nth,List.getElem?_append_left h]
theorem Mi {l m:List Fnd} (hB:Backs l):∀ (k:Nat) (i:Int),i<k→i<l.length→backC (l++m) i=backC l i:=by
 intro k
 induction k with
 | zero =>
  intro i hi hl
  rw[backC,dif_neg (fun h=>by omega),backC,dif_neg (fun h=>by omega)]
 | succ k ih =>
  intro i hi hl
  by_cases h0:0≤i
  ·have hk:i.toNat<l.length:=by omega
   have hb:=hB i.toNat hk
   rw[backC,Yb hk,backC.eq_1 l i,A1 hk,dif_pos ⟨h0,by omega⟩,dif_pos ⟨h0,by omega⟩]
   rw[ih _ j_ j_]
  ·rw[backC,dif_neg (fun h=>h0 h.1),backC,dif_neg (fun h=>h0 h.1)]
theorem Kf {l m:List Fnd} (hB:Backs l) {i:Int} (h:i<l.length):Iz (l++m) i=Iz l i:=by
 rw[Iz,Iz,Mi hB (i+1).toNat i j_ h]
theorem Ze {l:List Fnd} (hB:Backs l) {f:Fnd} (hf:-1≤f.ahead∧f.ahead<l.length):Iz (l++[f]) l.length=Iz l f.ahead++[f.hop]:=by
 have e:nth (l++[f]) (l.length:Int)=f:=by
  rw[A1 (l:=l++[f]) (i:=(l.length:Int)) qe]
  simp
 rw[Iz,backC,e,dif_pos ⟨by omega,by omega⟩,List.reverse_cons,Mi hB (f.ahead+1).toNat _ j_ j_]
 rfl
structure Met (n:Net) (S:Srch):Prop where
 ok:S.OK n
 bk:Backs S.list
 dom:∀ f∈S.list,f.hop.domain=f.domain
 m:∀ d:Int,0≤d∧d.toNat<n.domains.length→∀ k:Int,(k=0∨k=1)→(Sl S d k=true↔∃ f∈S.list,f.domain=d∧f.kind=k)
theorem Ae1 {l:List Bool} {a b:Nat} (hb:b<l.length):(l.set a true)[b]? = if a=b then some true else l[b]?:=by
 rw[List.getElem?_set]
 split
 ·rename_i h;subst h;simp[hb]
 ·rfl
theorem Aie {n:Net} {S:Srch} (hS:S.OK n) {d k:Int} (hd:0≤d∧d.toNat<n.domains.length) (hk:k=0∨k=1) (h:Hop) (a:Int) (d2 k2:Int) (hd2:0≤d2∧d2.toNat<n.domains.length) (hk2:k2=0∨k2=1) :
  Sl (Mn S d k h a) d2 k2=true↔Sl S d2 k2=true∨(d2=d∧k2=k):=by
 have h0:d2.toNat<S.m0.length:=by rw[hS.l0];exact hd2.2
 have h1:d2.toNat<S.m1.length:=by rw[hS.l1];exact hd2.2
 have e:(d.toNat=d2.toNat)↔d2=d:=by omega
 rcases hk with rfl | rfl<;>rcases hk2 with rfl | rfl
 ·rw[Mn,if_pos rfl,Sl,if_pos rfl,Sl,if_pos rfl,nth,nth,Ae1 h0]
  by_cases h:d2=d
  ·rw[if_pos (e.2 h)];simp[h]
  ·rw[if_neg (fun x=>h (e.1 x))];simp[h]
 ·rw[Mn,if_pos rfl,Sl,if_neg qd,Sl,if_neg qd]
  simp
 ·rw[Mn,if_neg qd,Sl,if_pos rfl,Sl,if_pos rfl]
  simp
 ·rw[Mn,if_neg qd,Sl,if_neg qd,Sl,if_neg qd,nth,nth,Ae1 h1]
  by_cases h:d2=d
  ·rw[if_pos (e.2 h)];simp[h]
  ·rw[if_neg (fun x=>h (e.1 x))];simp[h]
theorem So (S:Srch) (d k:Int) (h:Hop) (a:Int):(Mn S d k h a).list=S.list++[⟨d,k,h,a⟩]:=by
 rw[Mn];split<;>rfl
theorem Met.meet {n:Net} {S:Srch} (hS:Met n S) {d k:Int} (hd:0≤d∧d.toNat<n.domains.length) (hk:k=0∨k=1) {h:Hop} (hh:h.domain=d) {a:Int} (ha:-1≤a∧a<S.list.length):Met n (D6 S d k h a) where
 ok:=hS.ok.meet hd hk h a
 bk:=(hS.bk.meet d k h ha).1
 dom:=by
  rw[D6]
  split
  ·exact hS.dom
  ·rw[So]
   intro f hf
   rcases List.mem_append.1 hf with h1 | h1
   ·exact hS.dom f h1
   ·rw[List.mem_singleton.1 h1];exact hh
 m:=by
  rw[D6]
  split
  ·exact hS.m
  ·intro d2 hd2 k2 hk2
   rw[Aie hS.ok hd hk h a d2 k2 hd2 hk2,hS.m d2 hd2 k2 hk2,So]
   constructor
   ·rintro (⟨f,hf,h1⟩ | ⟨rfl,rfl⟩)
    ·exact⟨f,List.mem_append_left _ hf,h1⟩
    ·exact⟨_,List.mem_append_right _ (List.mem_singleton.2 q_),q_,q_⟩
   ·rintro ⟨f,hf,h1,h2⟩
    rcases List.mem_append.1 hf with h3 | h3
    ·exact .inl ⟨f,h3,h1,h2⟩
    ·rw[List.mem_singleton.1 h3]at h1 h2
     exact .inr ⟨h1.symm,h2.symm⟩
def Succ (n:Net) (x y:Int × Int):Prop:=(∃ h∈Kr n x.1,y=(h.domain,x.2))∨(x.2=0∧∃ q∈J6 n x.1,y=(q.domain,1))
def Apv (n:Net) (p:Int) (x:Int × Int):Prop:=∃ v∈(nth n.ports p).native::(nth n.ports p).tagged,v≠0∧x=(Md n (nth n.ports p).dev v,0)
inductive Walk (n:Net) (p:Int):Nat→Int × Int→Prop
 | start {x:Int × Int}:Apv n p x→Walk n p 0 x
 | step {k:Nat} {x y:Int × Int}:Walk n p k x→Succ n x y→Walk n p (k+1) y
inductive HWay (n:Net) (p:Int):List Hop→Int × Int→Prop
 | start {d:Int}:Apv n p (d,0)→HWay n p [⟨0,0,d,0⟩] (d,0)
 | hop {l:List Hop} {x:Int × Int} {h:Hop}:HWay n p l x→h∈Kr n x.1→HWay n p (l++[h]) (h.domain,x.2)
 | lead {l:List Hop} {x:Int × Int} {q:Lead}:HWay n p l x→x.2=0→q∈J6 n x.1→HWay n p (l++[⟨3,0,q.domain,q.addr⟩]) (q.domain,1)
theorem HWay.walk {n:Net} {p:Int} {l:List Hop} {x:Int × Int} (h:HWay n p l x):∃ k,l.length=k+1∧Walk n p k x:=by
 induction h with
 | start hs=>exact⟨0,rfl,.start hs⟩
 | hop _ hh ih =>
  obtain ⟨k,h1,h2⟩:=ih
  exact⟨k+1,by rw[List.length_append,h1];rfl,.step h2 (.inl ⟨_,hh,q_⟩)⟩
 | lead _ h0 hq ih =>
  obtain ⟨k,h1,h2⟩:=ih
  exact⟨k+1,by rw[List.length_append,h1];rfl,.step h2 (.inr ⟨h0,_,hq,q_⟩)⟩
def lnC (l:List Fnd) (i:Int):Nat:=(backC l i).length
theorem O8 {l m:List Fnd} (hB:Backs l) {i:Int} (h:i<l.length):lnC (l++m) i=lnC l i:=by
 rw[lnC,Mi hB (i+1).toNat i j_ h,lnC]
theorem Aoi {l:List Fnd} (hB:Backs l) {f:Fnd} (hf:-1≤f.ahead∧f.ahead<l.length):lnC (l++[f]) (l.length:Int)=lnC l f.ahead+1:=by
 have:=congrArg List.length (Ze hB hf)
 rw[List.length_append,List.length_singleton]at this
 simpa [Iz,lnC] using this
theorem Yc {l m:List Fnd} {b:Nat} (h:b<l.length):nth (l++m) (b:Int)=nth l (b:Int):=Yb (by simpa using h)
theorem Ya (l:List Fnd) (f:Fnd):nth (l++[f]) (l.length:Int)=f:=by
 rw[A1 (l:=l++[f]) (i:=(l.length:Int)) qe];simp
structure BI (n:Net) (p:Int) (S:Srch) (a:Int):Prop where
 met:Met n S
 mono:∀ b c:Nat,b≤c→c<S.list.length→lnC S.list b≤lnC S.list c
 bnd:∀ b:Nat,b<S.list.length→lnC S.list b≤lnC S.list a+1
 walk:∀ b:Nat,b<S.list.length→HWay n p (Iz S.list b) ((nth S.list b).domain,(nth S.list b).kind)
def HasB (l:List Fnd) (x:Int × Int) (m:Nat):Prop:=∃ b:Nat,b<l.length∧(nth l (b:Int)).domain=x.1∧(nth l (b:Int)).kind=x.2∧lnC l (b:Int)≤m
theorem HasB.app {l e:List Fnd} (hB:Backs l) {x:Int × Int} {m:Nat}:HasB l x m→HasB (l++e) x m:=fun ⟨b,h1,h2,h3,h4⟩ =>
 ⟨b,by rw[List.length_append];omega,by rw[Yc h1];exact h2,by rw[Yc h1];exact h3,by rw[O8 hB j_];exact h4⟩
theorem BI.meet {n:Net} {p:Int} {S:Srch} {a:Int} (h:BI n p S a) (ha:-1≤a∧a<S.list.length) {d k:Int} (hd:0≤d∧d.toNat<n.domains.length) (hk:k=0∨k=1) {hp:Hop} (hh:hp.domain=d) (hw:HWay n p (Iz S.list a++[hp]) (d,k)) :
  BI n p (D6 S d k hp a) a∧HasB (D6 S d k hp a).list (d,k) (lnC S.list a+1)∧∃ e,(D6 S d k hp a).list=S.list++e:=by
 have hm:=h.met.meet hd hk hh ha
 have hB:=h.met.bk
 cases hb:Sl S d k with
 | true =>
  have e:D6 S d k hp a=S:=by rw[D6,if_pos hb]
  rw[e]
  refine⟨h,?_,[],by simp⟩
  obtain ⟨f,hf,f1,f2⟩:=(h.met.m d hd k hk).1 hb
  obtain ⟨b,hbl,rfl⟩:=List.getElem_of_mem hf
  have e2:nth S.list (b:Int)=S.list[b]:=A1 (l:=S.list) (i:=((b:Nat):Int)) hbl
  exact⟨b,hbl,by rw[e2];exact f1,by rw[e2];exact f2,h.bnd b hbl⟩
 | false =>
  have e:(D6 S d k hp a).list=S.list++[⟨d,k,hp,a⟩]:=by rw[D6,if_neg (by rw[hb];decide),So]
  have hlast:=Aoi hB (f:=⟨d,k,hp,a⟩) ha
  have hla:lnC (S.list++[⟨d,k,hp,a⟩]) a=lnC S.list a:=O8 hB ha.2
  have hlen:(S.list++[(⟨d,k,hp,a⟩:Fnd)]).length=S.list.length+1:=by simp
  dsimp only at hlast
  have hcase:∀ b:Nat,b<(S.list++[(⟨d,k,hp,a⟩:Fnd)]).length→(b<S.list.length∧lnC (S.list++[⟨d,k,hp,a⟩]) (b:Int)=lnC S.list (b:Int))∨(b=S.list.length∧lnC (S.list++[⟨d,k,hp,a⟩]) (b:Int)=lnC S.list a+1):=fun b hb=>by
   by_cases hl:b<S.list.length
   ·exact .inl ⟨hl,O8 hB j_⟩
   ·have:b=S.list.length:=by omega
    subst this
    exact .inr ⟨q_,hlast⟩
  refine⟨⟨hm,?_,?_,?_⟩,?_,[⟨d,k,hp,a⟩],e⟩
  ·rw[e]
   intro b c hbc hc
   rcases hcase c hc with ⟨c1,c2⟩ | ⟨c1,c2⟩<;>rcases hcase b j_ with ⟨b1,b2⟩ | ⟨b1,b2⟩
   ·rw[c2,b2];exact h.mono b c hbc c1
   ·omega
   ·rw[c2,b2];exact h.bnd b b1
   ·rw[c2,b2];exact Nat.le_refl _
  ·rw[e]
   intro b hb
   rw[hla]
   rcases hcase b hb with ⟨b1,b2⟩ | ⟨b1,b2⟩
   ·rw[b2];exact h.bnd b b1
   ·rw[b2];exact Nat.le_refl _
  ·rw[e]
   intro b hb
   rcases hcase b hb with ⟨b1,_⟩ | ⟨b1,_⟩
   ·rw[Kf hB j_,Yc b1];exact h.walk b b1
   ·subst b1
    rw[Ze hB (f:=⟨d,k,hp,a⟩) ha,Ya]
    exact hw
  ·rw[e]
   exact⟨S.list.length,by omega,by rw[Ya],by rw[Ya],by rw[hlast];exact Nat.le_refl _⟩
theorem BI.ext1 {n:Net} {p:Int} {a k:Int} (hk:k=0∨k=1):∀ {l:List Hop} {S:Srch},BI n p S a→(-1≤a∧a<S.list.length)→(∀ h∈l,(0≤h.domain∧h.domain.toNat<n.domains.length)∧HWay n p (Iz S.list a++[h]) (h.domain,k)) →
  BI n p (Go.Sy.YtdkfcckkkfghgaaGreatDoor.ext1 S k a l) a∧(∀ h∈l,HasB (Go.Sy.YtdkfcckkkfghgaaGreatDoor.ext1 S k a l).list (h.domain,k) (lnC S.list a+1))∧∃ e,(Go.Sy.YtdkfcckkkfghgaaGreatDoor.ext1 S k a l).list=S.list++e
 | [],S,h,_,_=>⟨h,fun _ hx=>(by cases hx),[],by simp[Go.Sy.YtdkfcckkkfghgaaGreatDoor.ext1]⟩
 | x::l,S,h,ha,hl=>by
  obtain ⟨x1,x2⟩:=hl x qe
  obtain ⟨m1,m2,e,m3⟩:=h.meet ha x1 hk (hp:=x) rfl x2
  have hla:lnC (D6 S x.domain k x a).list a=lnC S.list a:=by rw[m3];exact O8 h.met.bk ha.2
  have hba:Iz (D6 S x.domain k x a).list a=Iz S.list a:=by rw[m3];exact Kf h.met.bk ha.2
  obtain ⟨i1,i2,e2,i3⟩:=BI.ext1 hk (l:=l) m1 ⟨ha.1,by rw[m3,List.length_append];omega⟩ (fun y hy=>by rw[hba];exact hl y (by simp[hy]))
  refine⟨i1,fun y hy=>?_,e++e2,?_⟩
  ·rcases List.mem_cons.1 hy with rfl | hy
   ·show HasB (Go.Sy.YtdkfcckkkfghgaaGreatDoor.ext1 (D6 S y.domain k y a) k a l).list _ _
    rw[i3]
    exact m2.app m1.met.bk
   ·have:=i2 y hy
    rw[hla]at this
    exact this
  ·show (Go.Sy.YtdkfcckkkfghgaaGreatDoor.ext1 (D6 S x.domain k x a) k a l).list=_
   rw[i3,m3,List.append_assoc]
theorem BI.ext2 {n:Net} {p:Int} {a:Int}:∀ {l:List Lead} {S:Srch},BI n p S a→(-1≤a∧a<S.list.length)→(∀ h∈l,(0≤h.domain∧h.domain.toNat<n.domains.length)∧HWay n p (Iz S.list a++[⟨3,0,h.domain,h.addr⟩]) (h.domain,1)) →
  BI n p (Go.Sy.YtdkfcckkkfghgaaGreatDoor.ext2 S a l) a∧(∀ h∈l,HasB (Go.Sy.YtdkfcckkkfghgaaGreatDoor.ext2 S a l).list (h.domain,1) (lnC S.list a+1))∧∃ e,(Go.Sy.YtdkfcckkkfghgaaGreatDoor.ext2 S a l).list=S.list++e
 | [],S,h,_,_=>⟨h,fun _ hx=>(by cases hx),[],by simp[Go.Sy.YtdkfcckkkfghgaaGreatDoor.ext2]⟩
 | x::l,S,h,ha,hl=>by
  obtain ⟨x1,x2⟩:=hl x qe
  obtain ⟨m1,m2,e,m3⟩:=h.meet ha x1 (.inr rfl) (hp:=⟨3,0,x.domain,x.addr⟩) rfl x2
  have hla:lnC (D6 S x.domain 1 ⟨3,0,x.domain,x.addr⟩ a).list a=lnC S.list a:=by rw[m3];exact O8 h.met.bk ha.2
  have hba:Iz (D6 S x.domain 1 ⟨3,0,x.domain,x.addr⟩ a).list a=Iz S.list a:=by rw[m3];exact Kf h.met.bk ha.2
  obtain ⟨i1,i2,e2,i3⟩:=BI.ext2 (l:=l) m1 ⟨ha.1,by rw[m3,List.length_append];omega⟩ (fun y hy=>by rw[hba];exact hl y (by simp[hy]))
  refine⟨i1,fun y hy=>?_,e++e2,?_⟩
  ·rcases List.mem_cons.1 hy with rfl | hy
   ·show HasB (Go.Sy.YtdkfcckkkfghgaaGreatDoor.ext2 (D6 S y.domain 1 ⟨3,0,y.domain,y.addr⟩ a) a l).list _ _
    rw[i3]
    exact m2.app m1.met.bk
   ·have:=i2 y hy
    rw[hla]at this
    exact this
  ·show (Go.Sy.YtdkfcckkkfghgaaGreatDoor.ext2 (D6 S x.domain 1 ⟨3,0,x.domain,x.addr⟩ a) a l).list=_
   rw[i3,m3,List.append_assoc]
theorem BI.ext {n:Net} {p:Int} {S:Srch} {i:Nat} (h:BI n p S (i:Int)) (hi:i<S.list.length) :
  BI n p (Y3 n S (i:Int)) (i:Int)∧(∀ y,Succ n ((nth S.list (i:Int)).domain,(nth S.list (i:Int)).kind) y→HasB (Y3 n S (i:Int)).list y (lnC S.list (i:Int)+1))∧∃ e,(Y3 n S (i:Int)).list=S.list++e:=by
 have hw:=h.walk i hi
 have ha:-1≤(i:Int)∧(i:Int)<S.list.length:=⟨by omega,by omega⟩
 have hkk:=(h.met.ok.at_ _ (show nth S.list (i:Int)∈S.list by rw[A1 (l:=S.list) (i:=(i:Int)) (by simpa using hi)];exact List.getElem_mem _)).2
 rw[Y3]
 by_cases h0:(nth S.list (i:Int)).kind=0
 ·rw[if_pos h0]
  obtain ⟨i1,i2,e,i3⟩:=h.ext1 (k:=0) (.inl rfl) (l:=Kr n (nth S.list (i:Int)).domain) ha (fun x hx=>⟨Oj hx,by have:=HWay.hop hw (h:=x) hx;dsimp only at this;rw[h0]at this;exact this⟩)
  have hba:Iz (Go.Sy.YtdkfcckkkfghgaaGreatDoor.ext1 S 0 (i:Int) (Kr n (nth S.list (i:Int)).domain)).list (i:Int)=Iz S.list (i:Int):=by rw[i3];exact Kf h.met.bk ha.2
  have hla:lnC (Go.Sy.YtdkfcckkkfghgaaGreatDoor.ext1 S 0 (i:Int) (Kr n (nth S.list (i:Int)).domain)).list (i:Int)=lnC S.list (i:Int):=by rw[i3];exact O8 h.met.bk ha.2
  obtain ⟨j1,j2,e2,j3⟩:=i1.ext2 (l:=J6 n (nth S.list (i:Int)).domain) ⟨ha.1,by rw[i3,List.length_append];omega⟩ (fun x hx=>⟨Sf hx,by rw[hba];exact HWay.lead hw h0 hx⟩)
  refine⟨j1,?_,e++e2,by rw[j3,i3,List.append_assoc]⟩
  rintro y (⟨x,hx,rfl⟩ | ⟨_,q,hq,rfl⟩)
  ·have:=i2 x hx
   rw[j3]
   rw[h0]
   exact this.app i1.met.bk
  ·have:=j2 q hq
   rw[hla]at this
   exact this
 ·have h1:(nth S.list (i:Int)).kind=1:=hkk.resolve_left h0
  rw[if_neg h0]
  obtain ⟨i1,i2,e,i3⟩:=h.ext1 (k:=1) (.inr rfl) (l:=Kr n (nth S.list (i:Int)).domain) ha (fun x hx=>⟨Oj hx,by have:=HWay.hop hw (h:=x) hx;dsimp only at this;rw[h1]at this;exact this⟩)
  refine⟨i1,?_,e,i3⟩
  rintro y (⟨x,hx,rfl⟩ | ⟨h2,_⟩)
  ·rw[h1]
   exact i2 x hx
  ·exact absurd h2 h0
structure SI (n:Net) (p to:Int) (S:Srch) (i:Nat):Prop where
 met:Met n S
 mono:∀ b c:Nat,b≤c→c<S.list.length→lnC S.list b≤lnC S.list c
 bnd:i<S.list.length→∀ b:Nat,b<S.list.length→lnC S.list b≤lnC S.list i+1
 walk:∀ b:Nat,b<S.list.length→HWay n p (Iz S.list b) ((nth S.list b).domain,(nth S.list b).kind)
 succ:∀ j:Nat,j<i→j<S.list.length→∀ y,Succ n ((nth S.list (j:Int)).domain,(nth S.list (j:Int)).kind) y→HasB S.list y (lnC S.list (j:Int)+1)
 start:∀ y,Apv n p y→HasB S.list y 1
 goal:∀ j:Nat,j<i→j<S.list.length→inB (Ye n (nth S.list (j:Int)).domain) to=false
theorem SI.far {n:Net} {p to:Int} {S:Srch} {i M:Nat} (h:SI n p to S i) (hP:∀ b:Nat,b<S.list.length→lnC S.list (b:Int)≤M→b<i):∀ (m:Nat) (x:Int × Int),Walk n p m x→m≤M→HasB S.list x (m+1)
 | 0,x,hw,_=>by
  cases hw with
  | start hs=>exact h.start x hs
 | m+1,x,hw,hm=>by
  cases hw with
  | step hw hs =>
   rename_i y
   obtain ⟨b,b1,b2,b3,b4⟩:=h.far hP m y hw j_
   obtain ⟨c,c1,c2,c3,c4⟩:=h.succ b (hP b b1 j_) b1 x (by rw[b2,b3];exact hs)
   exact⟨c,c1,c2,c3,by omega⟩
theorem SI.none {n:Net} {p to:Int} {S:Srch} {i M:Nat} (h:SI n p to S i) (hP:∀ b:Nat,b<S.list.length→lnC S.list (b:Int)≤M→b<i) {m:Nat} {x:Int × Int} (hw:Walk n p m x) (hg:inB (Ye n x.1) to=true):M≤m:=by
 by_cases hm:m<M
 ·obtain ⟨b,b1,b2,b3,b4⟩:=h.far hP m x hw j_
  have:=h.goal b (hP b b1 j_) b1
  rw[b2,hg]at this
  cases this
 ·omega
inductive Path (n:Net):Nat→Int→Int→Prop
 | nil (d:Int):Path n 0 d d
 | snoc {k:Nat} {d e:Int} {h:Hop}:Path n k d e→h∈Kr n e→Path n (k+1) d h.domain
theorem Path.cons {n:Net} {d:Int} {h:Hop} (hh:h∈Kr n d):∀ {k:Nat} {e:Int},Path n k h.domain e→Path n (k+1) d e:=by
 intro k e hp
 generalize hx:h.domain=x at hp
 induction hp with
 | nil=>subst hx;exact .snoc (.nil d) hh
 | snoc _ hg ih=>exact .snoc (ih hx) hg
end Go.Sy.YtdkfcckkkfghgaaGreatDoor
