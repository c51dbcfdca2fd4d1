/- Parts of a proof. -/
import Derived.Test.YtolnneiipmfgaaaGreatDoorYC15
set_option linter.all false
set_option linter.unusedVariables false
set_option linter.unusedSimpArgs false
set_option linter.deprecated false
namespace Go.Sy.YtolnneiipmfgaaaGreatDoor
open Go.Proofs Go.Proofs.Tryz
def Ju{α:Type}[Inhabited α](l:List α)(x:α){i:Int}(h:i.toNat<l.length):nth (l++[x]) i=nth l i:=by
 rw[nth,nth,xR h]
def Ie{α:Type}[Inhabited α](l:List α)(x:α):nth (l++[x]) (l.length:Int)=x:=by
 rw[nth,zZ,wA (yD _),tS];rfl
def place_iff{i:Int}{k:Nat}:Ai i k=true↔0≤i∧i<k:=by simp[Ai]
def Iq{α:Type}[Inhabited α](l:List α)(x:α){i:Int}{j:Nat}(h:i.toNat≠j):nth (l.set j x) i=nth l i:=by
 rw[nth,nth,List.getElem?_set_ne (λe=>h e.symm)]
def Age{α:Type}[Inhabited α](l:List α)(x:α){j:Nat}(h:j<l.length):nth (l.set j x) (j:Int)=x:=by
 rw[nth,zZ,vK h];rfl
def Ol{α:Type}[Inhabited α](l:List α){i:Int}{j:Nat}(h:i.toNat=j):nth l i=nth l (j:Int):=by
 rw[nth,nth,h,zZ]
def Qn{α:Type}[Inhabited α](l:List α)(i:Nat)(h:i<l.length):l[i]=nth l (i:Int):=(Af (i:=(i:Int)) h).symm
structure NetR(n:Net):Prop where
 few:Ai8 n=true
 bare:∀i:Nat,i<n.domains.length→O4 n i (nth n.domains i)=true
 peers:∀i:Nat,i<n.domains.length→Oj n i (nth n.domains i)=true
 port:∀i:Nat,i<n.ports.length→J8 n i (nth n.ports i)=true
 link:∀i:Nat,i<n.links.length→Mj n i (nth n.links i)=true
 static:∀i:Nat,i<n.statics.length→Ll n (nth n.statics i)=true
 flood:∀i:Nat,i<n.floods.length→Oy n (nth n.floods i)=true
 vrf:∀i:Nat,i<n.vrfs.length→An1 n (nth n.vrfs i)=true
 irb:∀i:Nat,i<n.irbs.length→Ai0 n i (nth n.irbs i)=true
def Ah9{α:Type}[Inhabited α]{p:Nat→α→Bool}{l:List α}:H7 p l=true↔∀i:Nat,i<l.length→p i (nth l i)=true:=by
 rw[allB_iff];constructor
 ·intro h i hi;rw[←Qn l i hi];exact h i hi
 ·intro h i hi;rw[Qn l i hi];exact h i hi
def netR_iff{n:Net}:Ac n=true↔NetR n:=by
 simp only[Ac,zG,Ah9];constructor
 ·rintro ⟨⟨⟨⟨⟨⟨⟨⟨a,b⟩,c⟩,d⟩,e⟩,f⟩,g⟩,h⟩,i⟩;exact⟨a,b,c,d,e,f,g,h,i⟩
 ·rintro ⟨a,b,c,d,e,f,g,h,i⟩;exact⟨⟨⟨⟨⟨⟨⟨⟨a,b⟩,c⟩,d⟩,e⟩,f⟩,g⟩,h⟩,i⟩
def peerB_iff{n:Net}{i:Nat}{d:Domain}{k:Int}:Sb n i d k=true↔Ai k n.domains.length=true∧k≠i∧Ai (nth n.domains k).dev n.devices.length=true∧(nth n.domains k).dev≠d.dev∧(nth n.domains k).vni=d.vni∧d.vni≠0∧Mh n (nth n.domains k)=true∧Mh n d=true∧inB (nth n.domains k).peers i=true:=by
 simp only[Sb,zG,xB,yI,ne_eq];constructor
 ·rintro ⟨⟨⟨⟨⟨⟨⟨⟨a,b⟩,c⟩,d⟩,e⟩,f⟩,g⟩,h⟩,i⟩;exact⟨a,b,c,d,e,f,g,h,i⟩
 ·rintro ⟨a,b,c,d,e,f,g,h,i⟩;exact⟨⟨⟨⟨⟨⟨⟨⟨a,b⟩,c⟩,d⟩,e⟩,f⟩,g⟩,h⟩,i⟩
def Lv{n m:Net}{i:Nat}{d e:Domain}(hd:e.peers=d.peers)(h:Oj n i d=true)(hp:∀k,Sb n i d k=true→Sb m i e k=true):Oj m i e=true:=by
 rw[Oj,hd];rw[Oj]at h;rw[Ah9]at h⊢;intro j hj;have:=h j hj;rw[zG]at this⊢;exact⟨hp _ this.1,this.2⟩
def bareB_iff{n:Net}{i:Nat}{d:Domain}:O4 n i d=true↔Ai d.dev n.devices.length=true∧(1≤d.vlan∧d.vlan≤4094)∧(0≤d.vni∧d.vni≤16777215)∧(d.irb=-1∨Ai d.irb n.irbs.length=true∧(nth n.irbs d.irb).domain=i)∧C5 n d.dev d.vlan=i:=by
 simp only[O4,zG,yO,zK,yI];constructor
 ·rintro ⟨⟨⟨⟨⟨⟨a,b⟩,c⟩,d⟩,e⟩,f⟩,g⟩;exact⟨a,⟨b,c⟩,⟨d,e⟩,f,g⟩
 ·rintro ⟨a,⟨b,c⟩,⟨d,e⟩,f,g⟩;exact⟨⟨⟨⟨⟨⟨a,b⟩,c⟩,d⟩,e⟩,f⟩,g⟩
def portB_iff{n:Net}{i:Nat}{p:Port}:J8 n i p=true↔Ai p.dev n.devices.length=true∧(0≤p.native∧p.native≤4094)∧U5 p.tagged 4094=true∧inB p.tagged p.native=false∧¬(p.native=0∧p.tagged=[])∧(∀v∈p.tagged,0≤C5 n p.dev v) ∧
  (0<p.native→0≤C5 n p.dev p.native)∧(p.link=-1∨Ai p.link n.links.length=true∧((nth n.links p.link).a=i∨(nth n.links p.link).b=i)):=by
 have e:H7 (λ_ v=>decide (0≤C5 n p.dev v)) p.tagged=true↔∀v∈p.tagged,0≤C5 n p.dev v:=by
  rw[allB_iff];simp only[zK];constructor
  ·intro h v hv;obtain ⟨j,hj,rfl⟩:=yZ.1 hv;exact h j hj
  ·intro h j hj;exact h _ (zJ hj)
 simp only[J8,Eo];simp only[zG,yO,e,xJ,Bool.not_true,Bool.and_eq_false_imp,zK,yE,yI,U5,vE];constructor
 ·rintro ⟨⟨⟨⟨⟨⟨⟨⟨a,b⟩,c⟩,d⟩,e⟩,f⟩,g⟩,h⟩,i⟩;refine⟨a,⟨b,c⟩,d,e,λx=>f x.1 x.2,g,λx=>?_,i⟩;simpa using h x
 ·rintro ⟨a,⟨b,c⟩,d,e,f,g,h,i⟩;refine⟨⟨⟨⟨⟨⟨⟨⟨a,b⟩,c⟩,d⟩,e⟩,λx y=>f ⟨x,y⟩⟩,g⟩,λx=>?_⟩,i⟩;simpa using h x
def linkB_iff{n:Net}{i:Nat}{l:Link}:Mj n i l=true↔Ai l.a n.ports.length=true∧Ai l.b n.ports.length=true∧(nth n.ports l.a).dev≠(nth n.ports l.b).dev∧(nth n.ports l.a).link=i∧(nth n.ports l.b).link=i:=by
 simp only[Mj,zG,xB,yI,ne_eq,and_assoc]
def staticB_iff{n:Net}{s:Static}:Ll n s=true↔Ai s.domain n.domains.length=true∧Ai s.port n.ports.length=true∧(nth n.ports s.port).dev=(nth n.domains s.domain).dev∧Cw (nth n.ports s.port) (nth n.domains s.domain).vlan=true:=by
 simp only[Ll,zG,yI,and_assoc]
def irbB_iff{n:Net}{i:Nat}{x:Irb}:Ai0 n i x=true↔Ai x.domain n.domains.length=true∧Ai x.vrf n.vrfs.length=true∧(nth n.domains x.domain).dev=(nth n.vrfs x.vrf).dev∧(nth n.domains x.domain).irb=i∧1≤x.bits∧x.bits≤30:=by
 simp only[Ai0,zG,yI,zK,and_assoc]
def floodB_iff{n:Net}{f:Flood}:Oy n f=true↔Ai f.dev n.devices.length=true∧f.addrs.length≤16:=by simp[Oy]
def vrfB_iff{n:Net}{v:Vrf}:An1 n v=true↔Ai v.dev n.devices.length=true∧U5 v.imports 65535=true∧U5 v.exports 65535=true:=by simp[An1,and_assoc]
def few_iff{n:Net}:Ai8 n=true↔n.devices.length≤8∧n.ports.length≤40∧n.links.length≤20∧n.domains.length≤48∧n.statics.length≤64∧n.floods.length≤48∧n.vrfs.length≤16∧n.irbs.length≤48:=by
 simp[Ai8,and_assoc]
def Ic{i:Int}{k m:Nat}(h:Ai i k=true)(hkm:k≤m):Ai i m=true:=by
 rw[place_iff]at h⊢;omega
def Anf{n:Net}(h:NetR n)(x:Device)(hx:n.devices.length<8):NetR {n with devices:=n.devices++[x]}:=by
 have hp:∀{i:Int},Ai i n.devices.length=true→Ai i (n.devices++[x]).length=true:=λh=>Ic h y_
 have hv:∀d:Domain,Ai d.dev n.devices.length=true→Mh {n with devices:=n.devices++[x]} d=Mh n d:=λd hd=>by
  have:=place_iff.1 hd;simp only[Mh];rw[Ju _ _ q_]
 refine⟨?_,λi hi=>?_,λi hi=>?_,λi hi=>?_,h.link,h.static,λi hi=>?_,λi hi=>?_,h.irb⟩
 ·have:=few_iff.1 h.few;exact few_iff.2 (by simp only[zQ,zW];omega)
 ·have:=bareB_iff.1 (h.bare i hi);exact bareB_iff.2 ⟨hp this.1,this.2⟩
 ·have hb:=(bareB_iff.1 (h.bare i hi)).1;refine Lv E (h.peers i hi) λk hk=>?_
  obtain ⟨a,b,c,d,e,f,g,q,r⟩:=peerB_iff.1 hk;exact peerB_iff.2 ⟨a,b,hp c,d,e,f,(hv _ c).trans g,(hv _ hb).trans q,r⟩
 ·have:=portB_iff.1 (h.port i hi);exact portB_iff.2 ⟨hp this.1,this.2⟩
 ·have:=floodB_iff.1 (h.flood i hi);exact floodB_iff.2 ⟨hp this.1,this.2⟩
 ·have:=vrfB_iff.1 (h.vrf i hi);exact vrfB_iff.2 ⟨hp this.1,this.2⟩
def Als{n:Net}(h:NetR n)(x:Static)(hx:Ll n x=true)(hl:n.statics.length<64):NetR {n with statics:=n.statics++[x]}:=by
 refine⟨?_,h.bare,h.peers,h.port,h.link,λi hi=>?_,h.flood,h.vrf,h.irb⟩
 ·have:=few_iff.1 h.few;exact few_iff.2 (by simp only[zQ,zW];omega)
 ·simp only[zQ,zW]at hi;by_cases e:i<n.statics.length
  ·rw[show nth (n.statics++[x]) (i:Int)=nth n.statics (i:Int) from Ju _ _ e];exact h.static i e
  ·rw[show i=n.statics.length by omega,Ie];exact hx
def Aqs{n:Net}(h:NetR n)(x:Flood)(hx:Oy n x=true)(hl:n.floods.length<48):NetR {n with floods:=n.floods++[x]}:=by
 refine⟨?_,h.bare,h.peers,h.port,h.link,h.static,λi hi=>?_,h.vrf,h.irb⟩
 ·have:=few_iff.1 h.few;exact few_iff.2 (by simp only[zQ,zW];omega)
 ·simp only[zQ,zW]at hi;by_cases e:i<n.floods.length
  ·rw[show nth (n.floods++[x]) (i:Int)=nth n.floods (i:Int) from Ju _ _ e];exact h.flood i e
  ·rw[show i=n.floods.length by omega,Ie];exact hx
def Axu{n:Net}(h:NetR n)(x:Vrf)(hx:An1 n x=true)(hl:n.vrfs.length<16):NetR {n with vrfs:=n.vrfs++[x]}:=by
 refine⟨?_,h.bare,h.peers,h.port,h.link,h.static,h.flood,λi hi=>?_,λi hi=>?_⟩
 ·have:=few_iff.1 h.few;exact few_iff.2 (by simp only[zQ,zW];omega)
 ·simp only[zQ,zW]at hi;by_cases e:i<n.vrfs.length
  ·rw[show nth (n.vrfs++[x]) (i:Int)=nth n.vrfs (i:Int) from Ju _ _ e];exact h.vrf i e
  ·rw[show i=n.vrfs.length by omega,Ie];exact hx
 ·obtain ⟨a,b,c,d,e⟩:=irbB_iff.1 (h.irb i hi);have hb:=place_iff.1 b;exact irbB_iff.2 ⟨a,Ic b y_,by rw[show nth (n.vrfs++[x]) (nth n.irbs (i:Int)).vrf=nth n.vrfs (nth n.irbs (i:Int)).vrf from Ju _ _ q_];exact c,d,e⟩
def Ar1{n:Net}(h:NetR n)(j:Nat)(a:Int)(ha:a≠0):NetR {n with devices:=n.devices.set j {nth n.devices j with vtep:=a} }:=by
 have hp:(n.devices.set j {nth n.devices j with vtep:=a}).length=n.devices.length:=yP;have hv:∀d:Domain,Mh n d=true→Mh {n with devices:=n.devices.set j {nth n.devices j with vtep:=a} } d=true:=λd hd=>by
  simp only[Mh,xB,ne_eq]at hd⊢;by_cases e:d.dev.toNat=j
  ·by_cases hl:j<n.devices.length
   ·have:nth (n.devices.set j {nth n.devices j with vtep:=a}) d.dev={nth n.devices j with vtep:=a}:=by
     rw[nth,e,vK hl];rfl
    rw[this];exact ha
   ·rw[tC q_];exact hd
  ·rw[Iq _ _ e];exact hd
 refine⟨?_,λi hi=>?_,λi hi=>?_,λi hi=>?_,h.link,h.static,λi hi=>?_,λi hi=>?_,h.irb⟩
 ·have:=few_iff.1 h.few;exact few_iff.2 (by rw[hp];exact this)
 ·have:=bareB_iff.1 (h.bare i hi);exact bareB_iff.2 ⟨by rw[hp];exact this.1,this.2⟩
 ·refine Lv E (h.peers i hi) λk hk=>?_
  obtain ⟨a,b,c,d,e,f,g,q,r⟩:=peerB_iff.1 hk;exact peerB_iff.2 ⟨a,b,by rw[hp];exact c,d,e,f,hv _ g,hv _ q,r⟩
 ·have:=portB_iff.1 (h.port i hi);exact portB_iff.2 ⟨by rw[hp];exact this.1,this.2⟩
 ·have:=floodB_iff.1 (h.flood i hi);exact floodB_iff.2 ⟨by rw[hp];exact this.1,this.2⟩
 ·have:=vrfB_iff.1 (h.vrf i hi);exact vrfB_iff.2 ⟨by rw[hp];exact this.1,this.2⟩
def A4g{α:Type}(p:α→Bool)(l:List α)(j:Nat)(x:α)(h:∀y,l[j]? = some y→p x=p y):Br p (l.set j x)=Br p l:=by
 have e:(l.set j x).findIdx? p=l.findIdx? p:=by
  induction l generalizing j with
  |nil=>rfl
  |cons z l ih=>
   cases j with
   |zero=>
    rw[uR,List.findIdx?_cons,List.findIdx?_cons,h z rfl]
   |succ j=>
    rw[List.set_cons_succ,List.findIdx?_cons,List.findIdx?_cons,ih j (λy hy=>h y (by simpa using hy))]
 rw[Br,Br,e]
def Aq4{n:Net}{j:Nat}(hj:j<n.domains.length)(x:Domain)(h1:x.dev=(nth n.domains j).dev)(h2:x.vlan=(nth n.domains j).vlan)(m:Net)(hm:m.domains=n.domains.set j x)(dev vlan:Int):C5 m dev vlan=C5 n dev vlan:=by
 rw[C5,hm,A4g _ _ _ _ (λy hy=>?_)]
 ·rfl
 ·rw[zU hj]at hy;simp only[Option.some.injEq]at hy;rw[Qn _ _ hj]at hy;rw[←hy,h1,h2]
def J9{α:Type}[Inhabited α](l:List α)(x:α)(j:Nat)(i:Int)(f:α→Int)(hf:f x=f (nth l j))(hj:j<l.length):f (nth (l.set j x) i)=f (nth l i):=by
 by_cases e:i.toNat=j
 ·have:nth (l.set j x) i=x:=by rw[nth,e,vK hj];rfl
  have h2:nth l i=nth l (j:Int):=Ol _ e;rw[this,h2,hf]
 ·rw[Iq _ _ e]
def Axv{n:Net}(h:NetR n)(j:Nat)(hj:j<n.domains.length)(h0:(nth n.domains j).vni=0)(v r:Int)(hv:0≤v∧v≤16777215):NetR {n with domains:=n.domains.set j {nth n.domains j with vni:=v,row:=r} }:=by
 have hl:(n.domains.set j {nth n.domains j with vni:=v,row:=r}).length=n.domains.length:=yP;have gb:=Aq4 (n:=n) hj {nth n.domains j with vni:=v,row:=r} rfl rfl {n with domains:=n.domains.set j {nth n.domains j with vni:=v,row:=r} } rfl;have gp:=λi=>J9 n.domains {nth n.domains j with vni:=v,row:=r} j i Domain.dev rfl hj
 have ft:=λi=>J9 n.domains {nth n.domains j with vni:=v,row:=r} j i Domain.vlan rfl hj
 have m4:=λi=>J9 n.domains {nth n.domains j with vni:=v,row:=r} j i Domain.irb rfl hj
 have af:∀i:Nat,i≠j→nth (n.domains.set j {nth n.domains j with vni:=v,row:=r}) (i:Int)=nth n.domains (i:Int):=λi hi=>Iq _ _ (by rw[zZ];exact hi)
 refine⟨?_,λi hi=>?_,λi hi=>?_,λi hi=>?_,h.link,λi hi=>?_,h.flood,h.vrf,λi hi=>?_⟩
 ·have:=few_iff.1 h.few;exact few_iff.2 (by rw[hl];exact this)
 ·rw[hl]at hi;obtain ⟨a,b,c,d,e⟩:=bareB_iff.1 (h.bare i hi);refine bareB_iff.2 ⟨by rw[gp];exact a,by rw[ft];exact b,?_,by rw[m4];exact d,by rw[gb,gp,ft];exact e⟩;by_cases ij:i=j
  ·subst ij;show 0≤(nth (n.domains.set i {nth n.domains i with vni:=v,row:=r}) (i:Int)).vni∧(nth (n.domains.set i {nth n.domains i with vni:=v,row:=r}) (i:Int)).vni≤_;rw[Age _ _ hj];exact hv
  ·rw[af i ij];exact c
 ·rw[hl]at hi;have j4:=h.peers i hi;by_cases ij:i=j
  ·subst ij;rw[Age _ _ hj];have:(nth n.domains (i:Int)).peers=[]:=by
    cases hp:(nth n.domains (i:Int)).peers with
    |nil=>rfl
    |cons k r=>
     rw[Oj,hp,Ah9]at j4;have:=j4 0 y_;rw[zG]at this;exact yB h0 (peerB_iff.1 this.1).2.2.2.2.2.1
   rw[Oj];dsimp only;rw[this];rfl
  ·rw[af i ij];refine Lv E j4 λk hk=>?_
   obtain ⟨a,b,c,d,e,f,g,q,rr⟩:=peerB_iff.1 hk;have hk:=place_iff.1 a;have kj:k.toNat≠j:=λkj=>by
    have:nth n.domains k=nth n.domains (j:Int):=Ol _ kj;rw[this,h0]at e;exact f e.symm
   have jw:nth (n.domains.set j {nth n.domains j with vni:=v,row:=r}) k=nth n.domains k:=Iq _ _ kj;exact peerB_iff.2 ⟨by rw[hl];exact a,b,by rw[jw];exact c,by rw[jw];exact d,by rw[jw];exact e,f,by rw[jw];exact g,q,by rw[jw];exact rr⟩
 ·obtain ⟨a,b,c,d,e,f,g,q⟩:=portB_iff.1 (h.port i hi);exact portB_iff.2 ⟨a,b,c,d,e,λv hv=>by rw[gb];exact f v hv,λhv=>by rw[gb];exact g hv,q⟩
 ·obtain ⟨a,b,c,d⟩:=staticB_iff.1 (h.static i hi);exact staticB_iff.2 ⟨by rw[hl];exact a,b,by rw[gp];exact c,by rw[ft];exact d⟩
 ·obtain ⟨a,b,c,d,e⟩:=irbB_iff.1 (h.irb i hi);exact irbB_iff.2 ⟨by rw[hl];exact a,b,by rw[gp];exact c,by rw[m4];exact d,e⟩
def A0b{n:Net}(h:NetR n)(j:Nat)(hj:j<n.domains.length)(h0:(nth n.domains j).irb<0)(x:Irb)(hx:x.domain=j)(hv:Ai x.vrf n.vrfs.length=true)(hd:(nth n.domains j).dev=(nth n.vrfs x.vrf).dev)(hb:1≤x.bits∧x.bits≤30):NetR {n with domains:=n.domains.set j {nth n.domains j with irb:=n.irbs.length},irbs:=n.irbs++[x]}:=by
 have hl:(n.domains.set j {nth n.domains j with irb:=n.irbs.length}).length=n.domains.length:=yP;have gb:=Aq4 (n:=n) hj {nth n.domains j with irb:=n.irbs.length} rfl rfl {n with domains:=n.domains.set j {nth n.domains j with irb:=n.irbs.length},irbs:=n.irbs++[x]} rfl;have gp:=λi=>J9 n.domains {nth n.domains j with irb:=n.irbs.length} j i Domain.dev rfl hj
 have ft:=λi=>J9 n.domains {nth n.domains j with irb:=n.irbs.length} j i Domain.vlan rfl hj
 have hvn:=λi=>J9 n.domains {nth n.domains j with irb:=n.irbs.length} j i Domain.vni rfl hj
 have fm:∀i,(nth (n.domains.set j {nth n.domains j with irb:=n.irbs.length}) i).peers=(nth n.domains i).peers:=λi=>by
  by_cases e:i.toNat=j
  ·have:nth (n.domains.set j {nth n.domains j with irb:=n.irbs.length}) i={nth n.domains j with irb:=n.irbs.length}:=by rw[nth,e,vK hj];rfl
   have h2:nth n.domains i=nth n.domains (j:Int):=Ol _ e;rw[this,h2]
  ·rw[Iq _ _ e]
 have af:∀i:Nat,i≠j→nth (n.domains.set j {nth n.domains j with irb:=n.irbs.length}) (i:Int)=nth n.domains (i:Int):=λi hi=>Iq _ _ (by rw[zZ];exact hi)
 have p7:nth (n.domains.set j {nth n.domains j with irb:=n.irbs.length}) (j:Int)={nth n.domains j with irb:=n.irbs.length}:=Age _ _ hj;have ns:n.irbs.length<48:=by
  have hf:=few_iff.1 h.few;refine yW ?_ hf.2.2.2.1;have inj:∀a b:Nat,a<n.irbs.length→b<n.irbs.length→(nth n.irbs (a:Int)).domain=(nth n.irbs (b:Int)).domain→a=b:=λa b ha hb e=>by
   have h1:=(irbB_iff.1 (h.irb a ha)).2.2.2.1;have h2:=(irbB_iff.1 (h.irb b hb)).2.2.2.1;rw[e,h2]at h1;omega
  have a8:((List.range n.irbs.length).map λa:Nat=>(nth n.irbs (a:Int)).domain.toNat).length≤((List.range n.domains.length).erase j).length:=by
   refine List.Nodup.length_le_of_subset ?_ ?_
   ·rw[vF,List.pairwise_map];refine List.Pairwise.imp_of_mem ?_ List.pairwise_lt_range;intro a b ha hb hab e;have ha:=xC.1 ha;have hb:=xC.1 hb;have p1:=place_iff.1 (irbB_iff.1 (h.irb a ha)).1;have p2:=place_iff.1 (irbB_iff.1 (h.irb b hb)).1;have:=inj a b ha hb q_;omega
   ·intro y hy;obtain ⟨a,ha,rfl⟩:=yS.1 hy;have ha:=xC.1 ha;have p1:=place_iff.1 (irbB_iff.1 (h.irb a ha)).1;have p2:=(irbB_iff.1 (h.irb a ha)).2.2.2.1;rw[List.mem_erase_of_ne]
    ·exact xC.2 q_
    ·intro e;have:nth n.domains (nth n.irbs (a:Int)).domain=nth n.domains (j:Int):=Ol _ e;rw[this]at p2;omega
  rw[xA,tW,List.length_erase_of_mem (xC.2 hj),tW]at a8;omega
 refine⟨?_,λi hi=>?_,λi hi=>?_,λi hi=>?_,h.link,λi hi=>?_,h.flood,h.vrf,λi hi=>?_⟩
 ·have:=few_iff.1 h.few;exact few_iff.2 (by rw[hl];simp only[zQ,zW];omega)
 ·rw[hl]at hi;obtain ⟨a,b,c,d,e⟩:=bareB_iff.1 (h.bare i hi);refine bareB_iff.2 ⟨by rw[gp];exact a,by rw[ft];exact b,by rw[hvn];exact c,?_,by rw[gb,gp,ft];exact e⟩;by_cases ij:i=j
  ·subst ij;rw[p7];refine .inr ⟨place_iff.2 (by simp;omega),?_⟩;show (nth (n.irbs++[x]) (n.irbs.length:Int)).domain=_;rw[Ie,hx]
  ·rw[af i ij];rcases d with d|⟨d1,d2⟩
   ·exact .inl d
   ·have:=place_iff.1 d1;exact .inr ⟨Ic d1 y_,by rw[show nth (n.irbs++[x]) (nth n.domains (i:Int)).irb=nth n.irbs (nth n.domains (i:Int)).irb from Ju _ _ q_];exact d2⟩
 ·rw[hl]at hi;refine Lv (fm _) (h.peers i hi) λk hk=>?_
  obtain ⟨a,b,c,d,e,f,g,q,r⟩:=peerB_iff.1 hk;have hvt:∀k,Mh {n with domains:=n.domains.set j {nth n.domains j with irb:=n.irbs.length},irbs:=n.irbs++[x]} (nth (n.domains.set j {nth n.domains j with irb:=n.irbs.length}) k)=Mh n (nth n.domains k):=λk=>by
   simp only[Mh];rw[gp]
  exact peerB_iff.2 ⟨by rw[hl];exact a,b,by rw[gp];exact c,by rw[gp,gp];exact d,by rw[hvn,hvn];exact e,by rw[hvn];exact f,(hvt k).trans g,(hvt i).trans q,by rw[fm];exact r⟩
 ·obtain ⟨a,b,c,d,e,f,g,q⟩:=portB_iff.1 (h.port i hi);exact portB_iff.2 ⟨a,b,c,d,e,λv hv=>by rw[gb];exact f v hv,λhv=>by rw[gb];exact g hv,q⟩
 ·obtain ⟨a,b,c,d⟩:=staticB_iff.1 (h.static i hi);exact staticB_iff.2 ⟨by rw[hl];exact a,b,by rw[gp];exact c,by rw[ft];exact d⟩
 ·simp only[zQ,zW]at hi;by_cases e:i<n.irbs.length
  ·rw[show nth (n.irbs++[x]) (i:Int)=nth n.irbs (i:Int) from Ju _ _ e];obtain ⟨a,b,c,d,e⟩:=irbB_iff.1 (h.irb i e);have pa:=place_iff.1 a;have hdj:(nth n.irbs (i:Int)).domain.toNat≠j:=λe=>by
    have:nth n.domains (nth n.irbs (i:Int)).domain=nth n.domains (j:Int):=Ol _ e;rw[this]at d;omega
   have hk:nth (n.domains.set j {nth n.domains j with irb:=n.irbs.length}) (nth n.irbs (i:Int)).domain=nth n.domains (nth n.irbs (i:Int)).domain:=Iq _ _ hdj;exact irbB_iff.2 ⟨by rw[hl];exact a,b,by rw[hk];exact c,by rw[hk];exact d,e⟩
  ·rw[show i=n.irbs.length by omega,Ie];refine irbB_iff.2 ⟨by rw[hl];exact place_iff.2 q_,hv,?_,?_,hb⟩
   ·rw[hx,p7];exact hd
   ·rw[hx,p7]
def idxI_nonneg{α:Type}{p:α→Bool}{l:List α}:0≤Br p l↔l.any p=true:=by
 rw[wV];constructor
 ·intro h;cases hf:l.findIdx? p with
  |none=>simp only[Br,hf]at h;omega
  |some i=>
   rw[xZ]at hf;obtain ⟨h1,h2,_⟩:=hf;exact⟨l[i],zJ h1,h2⟩
 ·rintro ⟨x,hx,hp⟩;cases hf:l.findIdx? p with
  |none=>
   rw[List.findIdx?_eq_none_iff]at hf;rw[hf x hx]at hp;cases hp
  |some i=>simp only[Br,hf];omega
def E6{α:Type}[Inhabited α]{p:α→Bool}{l:List α}(h:0≤Br p l):(Br p l).toNat<l.length∧p (nth l (Br p l))=true:=by
 cases hf:l.findIdx? p with
 |none=>simp only[Br,hf]at h;omega
 |some i=>
  have e:Br p l=i:=by simp only[Br,hf]
  rw[xZ]at hf;obtain ⟨h1,h2,_⟩:=hf;rw[e,zZ];refine⟨h1,?_⟩;rw[←Qn l i h1];exact h2
def Aqh{α:Type}(p:α→Bool)(l e:List α)(h:0≤Br p l):Br p (l++e)=Br p l:=by
 cases hf:l.findIdx? p with
 |none=>simp only[Br,hf]at h;omega
 |some i=>
  have:(l++e).findIdx? p=some i:=by rw[List.findIdx?_append,hf];rfl
  simp only[Br,hf,this]
def Akh{α:Type}(p:α→Bool)(l:List α)(x:α)(h:l.any p=false)(hx:p x=true):Br p (l++[x])=l.length:=by
 refine Co (j:=l.length) y_ (λi hi bc=>?_) ?_
 ·rw[yU bc];rw[vD]at h;have:=h l[i] (zJ bc);simpa using this
 ·rw[xO (yD _)];simpa using hx
def Ana{n:Net}(h:NetR n)(dev v:Int)(hd:Ai dev n.devices.length=true)(hv:1≤v∧v≤4094)(ha:n.domains.any (λd=>d.dev==dev&&d.vlan==v)=false)(m:Net)(hm:m={n with domains:=n.domains++[⟨dev,v,0,-1,0,[]⟩]})(hl:n.domains.length<48):NetR m:=by
 subst hm;have hn:∀{i:Int},i.toNat<n.domains.length→nth (n.domains++[(⟨dev,v,0,-1,0,[]⟩:Domain)]) i=nth n.domains i:=λh=>Ju _ _ h
 have hnn:∀{i:Nat},i<n.domains.length→nth (n.domains++[(⟨dev,v,0,-1,0,[]⟩:Domain)]) (i:Int)=nth n.domains (i:Int):=λh=>Ju _ _ h
 have m7:∀a b,0≤C5 n a b→C5 {n with domains:=n.domains++[⟨dev,v,0,-1,0,[]⟩]} a b=C5 n a b:=λa b h=>Aqh _ _ _ h
 refine⟨?_,λi hi=>?_,λi hi=>?_,λi hi=>?_,h.link,λi hi=>?_,h.flood,h.vrf,λi hi=>?_⟩
 ·have:=few_iff.1 h.few;exact few_iff.2 (by simp only[zQ,zW];omega)
 ·simp only[zQ,zW]at hi;by_cases e:i<n.domains.length
  ·rw[hnn e];obtain ⟨a,b,c,d,f⟩:=bareB_iff.1 (h.bare i e);exact bareB_iff.2 ⟨a,b,c,d,by rw[m7 _ _ q_];exact f⟩
  ·rw[show i=n.domains.length by omega,Ie];refine bareB_iff.2 ⟨hd,hv,⟨wB _,by show (0:Int)≤_;decide⟩,.inl E,?_⟩;exact Akh _ _ _ ha y_
 ·simp only[zQ,zW]at hi;by_cases e:i<n.domains.length
  ·rw[hnn e];refine Lv E (h.peers i e) λk hk=>?_
   obtain ⟨a,b,c,d,f,g,o,q,r⟩:=peerB_iff.1 hk;have ha:=place_iff.1 a;exact peerB_iff.2 ⟨Ic a y_,b,by rw[hn q_];exact c,by rw[hn q_];exact d,by rw[hn q_];exact f,g,by rw[hn q_];exact o,q,by rw[hn q_];exact r⟩
  ·rw[show i=n.domains.length by omega,Ie];rfl
 ·obtain ⟨a,b,c,d,e,f,g,q⟩:=portB_iff.1 (h.port i hi);exact portB_iff.2 ⟨a,b,c,d,e,λv hv=>by rw[m7 _ _ (f v hv)];exact f v hv,λhv=>by rw[m7 _ _ (g hv)];exact g hv,q⟩
 ·obtain ⟨a,b,c,d⟩:=staticB_iff.1 (h.static i hi);have pa:=place_iff.1 a;have e1:=hn (i:=(nth n.statics (i:Int)).domain) q_;exact staticB_iff.2 ⟨Ic a y_,b,c.trans (zH Domain.dev e1).symm,by have:=d;rw[←zH Domain.vlan e1]at this;exact this⟩
 ·obtain ⟨a,b,c,d,e⟩:=irbB_iff.1 (h.irb i hi);have pa:=place_iff.1 a;have e1:=hn (i:=(nth n.irbs (i:Int)).domain) q_;exact irbB_iff.2 ⟨Ic a y_,b,(zH Domain.dev e1).trans c,(zH Domain.irb e1).trans d,e⟩
def Aee(dev:Int):∀(l:List Int) (ds:List Domain),ds.length≤(Bk dev ds l).length
 |[],ds=>yD _
 |v::l,ds=>by
  refine wN ?_ (Aee dev l (C1 dev ds v));rw[C1];split<;>simp
def Yd{dev:Int}:∀(l:List Int) (n:Net),NetR n→Ai dev n.devices.length=true→(∀v∈l,v≤4094)→(Bk dev n.domains l).length≤48→NetR {n with domains:=Bk dev n.domains l}∧∀v∈l,0<v→0≤C5 {n with domains:=Bk dev n.domains l} dev v
 |[],n,h,_,_,_=>⟨h,λv hv=>by cases hv⟩
 |v::l,n,h,hd,hv,hl=>by
  have hlen:=Aee dev l (C1 dev n.domains v);have e:Bk dev n.domains (v::l)=Bk dev (C1 dev n.domains v) l:=rfl;rw[e]at hl⊢;have h1:NetR {n with domains:=C1 dev n.domains v}∧(0<v→0≤C5 {n with domains:=C1 dev n.domains v} dev v):=by
   rw[C1]at hlen⊢;split
   ·rename_i hc;rw[zE hc]at hlen;refine⟨Ana h dev v hd ⟨by omega,hv v y_⟩ hc.2 _ E ?_,λ_=>?_⟩
    ·have uc:=hl;rw[C1,zE hc]at uc;simp only[zQ,zW]at hlen;omega
    ·rw[C5,Akh _ _ _ hc.2 y_];omega
   ·rename_i hc;refine⟨h,λh0=>?_⟩;have:n.domains.any (λd=>d.dev==dev&&d.vlan==v)=true:=by
     cases ha:n.domains.any (λd=>d.dev==dev&&d.vlan==v)
     ·exact yB ⟨h0,ha⟩ hc
     ·rfl
    exact idxI_nonneg.2 this
  obtain ⟨r1,r2⟩:=Yd l {n with domains:=C1 dev n.domains v} h1.1 hd (λx hx=>hv x (by simp[hx])) hl;refine⟨r1,λx hx h0=>?_⟩;rcases yH.1 hx with rfl|hx
  ·have h2:=h1.2 h0;have:∀(l:List Int) (ds:List Domain),0≤Br (λd:Domain=>d.dev==dev&&d.vlan==x) ds→0≤Br (λd:Domain=>d.dev==dev&&d.vlan==x) (Bk dev ds l):=by
    intro l
    induction l with
    |nil=>exact λds h=>h
    |cons y l ih=>
     intro ds h;refine ih (C1 dev ds y) ?_;rw[C1];split
     ·rw[Aqh _ _ _ h];exact h
     ·exact h
   exact this l _ h2
  ·exact r2 x hx h0
def Atp{n:Net}(h:NetR n)(p:Port)(hp:J8 n n.ports.length p=true)(hl:n.ports.length<40):NetR {n with ports:=n.ports++[p]}:=by
 have hn:∀{i:Int},i.toNat<n.ports.length→nth (n.ports++[p]) i=nth n.ports i:=λh=>Ju _ _ h
 refine⟨?_,h.bare,h.peers,λi hi=>?_,λi hi=>?_,λi hi=>?_,h.flood,h.vrf,h.irb⟩
 ·have:=few_iff.1 h.few;exact few_iff.2 (by simp only[zQ,zW];omega)
 ·simp only[zQ,zW]at hi;by_cases e:i<n.ports.length
  ·have e1:nth (n.ports++[p]) (i:Int)=nth n.ports (i:Int):=hn (i:=(i:Int)) e;rw[e1];exact h.port i e
  ·rw[show i=n.ports.length by omega,Ie];exact hp
 ·obtain ⟨a,b,c,d,e⟩:=linkB_iff.1 (h.link i hi);have pa:=place_iff.1 a;have pb:=place_iff.1 b;have e1:=hn (i:=(nth n.links (i:Int)).a) q_;have e2:=hn (i:=(nth n.links (i:Int)).b) q_;exact linkB_iff.2 ⟨Ic a y_,Ic b y_,λx=>c ((zH Port.dev e1).symm.trans (x.trans (zH Port.dev e2))),(zH Port.link e1).trans d,(zH Port.link e2).trans e⟩
 ·obtain ⟨a,b,c,d⟩:=staticB_iff.1 (h.static i hi);have pb:=place_iff.1 b;have e1:=hn (i:=(nth n.statics (i:Int)).port) q_;exact staticB_iff.2 ⟨a,Ic b y_,(zH Port.dev e1).trans c,by have:=d;rw[←e1]at this;exact this⟩
def Auc{n:Net}(h:NetR n)(a b:Nat)(ha:a<n.ports.length)(hb:b<n.ports.length)(hd:(nth n.ports a).dev≠(nth n.ports b).dev)(h1:(nth n.ports a).link<0)(h2:(nth n.ports b).link<0)(row:Int)(hl:n.links.length<20):NetR {n with ports:=Hr (Hr n.ports a n.links.length) b n.links.length,links:=n.links++[⟨row,a,b⟩]}:=by
 have hab:a≠b:=λe=>hd (by rw[e])
 have hlen:(Hr (Hr n.ports a n.links.length) b n.links.length).length=n.ports.length:=by simp[Hr]
 have sq:∀i:Int,i.toNat≠a→i.toNat≠b→nth (Hr (Hr n.ports a n.links.length) b n.links.length) i=nth n.ports i:=λi x y=>by
  rw[Hr,zZ,Iq _ _ y,Hr,zZ,Iq _ _ x]
 have wk:∀i:Int,i.toNat=a→nth (Hr (Hr n.ports a n.links.length) b n.links.length) i={nth n.ports a with link:=n.links.length}:=λi x=>by
  rw[Hr,zZ,Iq _ _ q_,Hr,zZ,nth,x,vK ha];rfl
 have wx:∀i:Int,i.toNat=b→nth (Hr (Hr n.ports a n.links.length) b n.links.length) i={nth n.ports b with link:=n.links.length}:=λi x=>by
  have e:nth (Hr n.ports a n.links.length) (b:Int)=nth n.ports b:=by rw[Hr,zZ,Iq _ _ (by rw[zZ];omega)]
  rw[Hr,zZ,e,nth,x,vK (by rw[Hr,yP];exact hb)];rfl
 have same:∀{β:Type} (f:Port→β),(∀p k,f {p with link:=k}=f p)→∀i:Int,f (nth (Hr (Hr n.ports a n.links.length) b n.links.length) i)=f (nth n.ports i):=λf hf i=>by
  by_cases x:i.toNat=a
  ·rw[wk i x,hf,nth,nth,x,zZ]
  ·by_cases y:i.toNat=b
   ·rw[wx i y,hf,nth,nth,y,zZ]
   ·rw[sq i x y]
 have sd:=same Port.dev (λ_ _=>rfl);have sn:=same Port.native (λ_ _=>rfl);have st:=same Port.tagged (λ_ _=>rfl);have sm:=same (λp v=>Cw p v) (λ_ _=>rfl);refine⟨?_,h.bare,h.peers,λi hi=>?_,λi hi=>?_,λi hi=>?_,h.flood,h.vrf,h.irb⟩
 ·have:=few_iff.1 h.few;exact few_iff.2 (by rw[hlen];simp only[zQ,zW];omega)
 ·rw[hlen]at hi;obtain ⟨c1,c2,c3,c4,c5,c6,c7,c8⟩:=portB_iff.1 (h.port i hi);refine portB_iff.2 ⟨by rw[sd];exact c1,by rw[sn];exact c2,by rw[st];exact c3,by rw[st,sn];exact c4,by rw[sn,st];exact c5,by rw[st,sd];exact c6,by rw[sn,sd];exact c7,?_⟩;have nl:nth (n.links++[(⟨row,a,b⟩:Link)]) (n.links.length:Int)=⟨row,a,b⟩:=Ie _ _;by_cases x:i=a
  ·rw[wk i (by rw[zZ];exact x)];refine .inr ⟨place_iff.2 (by simp;omega),.inl ?_⟩;show (nth (n.links++[(⟨row,a,b⟩:Link)]) (n.links.length:Int)).a=_;rw[nl,x]
  ·by_cases y:i=b
   ·rw[wx i (by rw[zZ];exact y)];refine .inr ⟨place_iff.2 (by simp;omega),.inr ?_⟩;show (nth (n.links++[(⟨row,a,b⟩:Link)]) (n.links.length:Int)).b=_;rw[nl,y]
   ·rw[sq i (by rw[zZ];exact x) (by rw[zZ];exact y)];rcases c8 with c8|⟨d1,d2⟩
    ·exact .inl c8
    ·have pd:=place_iff.1 d1;exact .inr ⟨Ic d1 y_,by rw[show nth (n.links++[(⟨row,a,b⟩:Link)]) (nth n.ports (i:Int)).link=nth n.links (nth n.ports (i:Int)).link from Ju _ _ q_];exact d2⟩
 ·simp only[zQ,zW]at hi;by_cases e:i<n.links.length
  ·rw[show nth (n.links++[(⟨row,a,b⟩:Link)]) (i:Int)=nth n.links (i:Int) from Ju _ _ e];obtain ⟨c1,c2,c3,c4,c5⟩:=linkB_iff.1 (h.link i e);have off:∀k:Int,(nth n.ports k).link=(i:Int)→nth (Hr (Hr n.ports a n.links.length) b n.links.length) k=nth n.ports k:=λk hk=>by
    refine sq k (λx=>?_) (λx=>?_)
    ·have:nth n.ports k=nth n.ports (a:Int):=Ol _ x;rw[this]at hk;omega
    ·have:nth n.ports k=nth n.ports (b:Int):=Ol _ x;rw[this]at hk;omega
   exact linkB_iff.2 ⟨by rw[hlen];exact c1,by rw[hlen];exact c2,by rw[sd,sd];exact c3,by rw[off _ c4];exact c4,by rw[off _ c5];exact c5⟩
  ·rw[show i=n.links.length by omega,Ie];refine linkB_iff.2 ⟨by rw[hlen];exact place_iff.2 ⟨by show (0:Int)≤(a:Int);omega,by show (a:Int)<_;omega⟩,by rw[hlen];exact place_iff.2 ⟨by show (0:Int)≤(b:Int);omega,by show (b:Int)<_;omega⟩,by rw[sd,sd];exact hd,?_,?_⟩
   ·rw[wk (a:Int) (zZ a)]
   ·rw[wx (b:Int) (zZ b)]
 ·obtain ⟨c1,c2,c3,c4⟩:=staticB_iff.1 (h.static i hi);refine staticB_iff.2 ⟨c1,by rw[hlen];exact c2,by rw[sd];exact c3,?_⟩;have:=sm (nth n.statics (i:Int)).port;exact(congrFun this _).trans c4
def V4{n:Net}{l:LineM}{k:Int}(h:¬fitsB n l k=false):l.kind=k∧(Bm l).2=true∧NetR n:=by
 have h:fitsB n l k=true:=by simpa using h
 simp only[fitsB,Cq,zG,yI]at h;exact⟨h.1,h.2.1.1,netR_iff.1 h.2.2⟩
def Sw{n:Net}{l:LineM}{k:Int}(h:¬(begT n l k).2≠0):l.kind=k∧(Bm l).2=true∧NetR n∧0≤Cg n l.dev∧(Cg n l.dev).toNat<n.devices.length∧(begT n l k).1=Cg n l.dev:=by
 rw[begT]at h⊢;split at h
 ·simp at h
 ·rename_i h1;rw[zD h1];split at h
  ·simp at h
  ·rename_i h2;rw[zD h2];obtain ⟨a,b,c⟩:=V4 h1;exact⟨a,b,c,by omega,(E6 (p:=λd:Device=>d.name==l.dev) (by show 0≤Cg n l.dev;omega)).1,E⟩
def Azs{l:List Int}{v:Int}:inB l v=l.contains v:=by
 induction l with
 |nil=>rfl
 |cons x l ih=>
  rw[inB,List.any_cons,List.contains_cons];rw[inB]at ih;rw[ih];congr 1;exact Bool.beq_comm
def Ay3{n:Net}{l:LineM}(h:(putT n l).2=0):NetR (putT n l).1:=by
 rw[putT]at h⊢;by_cases k1:l.kind=1
 ·rw[zE k1]at h⊢;rw[putDevice]at h⊢
  repeat' split at h
  all_goals (try (simp at h;done))
  rename_i h1 h2 h3;rw[zD h1,zD h2,zD h3];obtain ⟨_,_,hr⟩:=V4 h1;have:=few_iff.1 hr.few;exact Anf hr _ q_
 rw[zD k1]at h⊢;by_cases k2:l.kind=2
 ·rw[zE k2]at h⊢;rw[putPort]at h⊢
  repeat' split at h
  all_goals (try (simp at h;done))
  rename_i h1 h2 h3 h4 h5;rw[zD h1,zD h2,zD h3,zD h4,zD h5];obtain ⟨_,hu,hr⟩:=V4 h1;have hf:=few_iff.1 hr.few;simp only[Bm,zD k1,zE k2,zG]at hu;obtain ⟨u1,u2,u3,u4,u5⟩:=hu;have hv:=within_iff.1 u3;have hp:=(E6 (p:=λd:Device=>d.name==l.dev) (l:=n.devices) (by show 0≤Cg n l.dev;omega)).1;have a7:Ai (Cg n l.dev) n.devices.length=true:=place_iff.2 ⟨by omega,by have:(Cg n l.dev).toNat<n.devices.length:=hp;omega⟩;have p8:∀v∈l.tagged,1≤v∧v≤4094:=λv hv=>by
   rcases listOK_iff.1 u4 with e|e
   ·rw[e]at hv;cases hv
   ·exact(rising_iff.1 e).2.1 v hv
  obtain ⟨r1,r2⟩:=Yd (l.vlan::l.tagged) n hr a7 (λ v hv=>by
   rcases yH.1 hv with rfl|hv
   ·omega
   ·exact(p8 v hv).2) q_
  refine Atp r1 _ (portB_iff.2 ⟨a7,hv,u4,?_,?_,λv hv=>r2 v (by simp[hv]) (by have:=p8 v hv;omega),λh0=>r2 _ y_ h0,.inl E⟩) (by show n.ports.length<40;omega)
  ·simp only[membersB,zG,xJ,Bool.not_true]at u5;rw[Azs];exact u5.2
  ·rintro ⟨e1,e2⟩;dsimp only at e1 e2;simp[membersB,e1,e2]at u5
 rw[zD k2]at h⊢;by_cases k3:l.kind=3
 ·rw[zE k3]at h⊢;rw[putLink]at h⊢;dsimp only at h⊢
  repeat' split at h
  all_goals (try (simp at h;done))
  rename_i h1 h2 h3 h4;rw[zD h1,zD h2,zD h3,zD h4];obtain ⟨_,hu,hr⟩:=V4 h1;have hf:=few_iff.1 hr.few;have jv:∀d p,0≤endI n d p→(endI n d p).toNat<n.ports.length:=λd p h=>by
   rw[endI]at h⊢;split at h
   ·omega
   ·rename_i hx;rw[zD hx];exact(E6 h).1
  have ha:=jv l.dev l.port q_;have hb:=jv l.peer l.far q_;generalize endI n l.dev l.port=a at *;generalize endI n l.peer l.far=b at *;obtain ⟨a,rfl⟩:∃k:Nat,a=k:=⟨a.toNat,by omega⟩
  obtain ⟨b,rfl⟩:∃k:Nat,b=k:=⟨b.toNat,by omega⟩
  rw[zZ]at ha hb;simp only[uL]at h3;exact Auc hr a b ha hb h3.1 q_ q_ l.row q_
 rw[zD k3]at h⊢;by_cases k4:l.kind=4
 ·rw[zE k4]at h⊢;rw[putStatic]at h⊢;dsimp only at h⊢
  repeat' split at h
  all_goals (try (simp at h;done))
  rename_i h1 h2 h3 h4 h5;rw[zD h1,zD h2,zD h3,zD h4,zD h5];obtain ⟨_,hu,hr⟩:=V4 h1;have hf:=few_iff.1 hr.few;simp only[uL]at h2 h3;have p1:=E6 (p:=λp:Port=>p.dev==Cg n l.dev&&p.name==l.port) (l:=n.ports) (by show 0≤Og n (Cg n l.dev) l.port;omega);have p2:=E6 (p:=λd:Domain=>d.dev==Cg n l.dev&&d.vlan==l.vlan) (l:=n.domains) (by show 0≤C5 n (Cg n l.dev) l.vlan;omega);obtain ⟨a1,a2⟩:=p1;obtain ⟨b1,b2⟩:=p2;have a1:(Og n (Cg n l.dev) l.port).toNat<n.ports.length:=a1;have b1:(C5 n (Cg n l.dev) l.vlan).toNat<n.domains.length:=b1;simp only[zG,yI]at a2 b2;have a2:(nth n.ports (Og n (Cg n l.dev) l.port)).dev=Cg n l.dev:=a2.1;have b2:(nth n.domains (C5 n (Cg n l.dev) l.vlan)).dev=Cg n l.dev∧(nth n.domains (C5 n (Cg n l.dev) l.vlan)).vlan=l.vlan:=b2;refine Als hr _ (staticB_iff.2 ⟨place_iff.2 ⟨?_,?_⟩,place_iff.2 ⟨?_,?_⟩,?_,?_⟩) q_
  ·show 0≤C5 n (Cg n l.dev) l.vlan;omega
  ·show C5 n (Cg n l.dev) l.vlan<_;omega
  ·show 0≤Og n (Cg n l.dev) l.port;omega
  ·show Og n (Cg n l.dev) l.port<_;omega
  ·exact a2.trans b2.1.symm
  ·show Cw _ (nth n.domains (C5 n (Cg n l.dev) l.vlan)).vlan=true;rw[b2.2];simpa using h3.2
 rw[zD k4]at h⊢;by_cases k5:l.kind=5
 ·rw[zE k5]at h⊢;rw[putVtep]at h⊢;dsimp only at h⊢;by_cases h1:(begT n l 5).2≠0
  ·rw[zE h1]at h;exact yB h h1
  rw[zD h1]at h⊢;split at h
  ·simp at h
  rename_i h2;rw[zD h2];obtain ⟨_,hu,hr,d0,d1,d2⟩:=Sw h1;simp only[Bm,zD k1,zD k2,zD k3,zD k4,zE k5,zK]at hu;rw[d2];have:=Ar1 hr (Cg n l.dev).toNat l.addr hu;rw[yR d0]at this;exact this
 rw[zD k5]at h⊢;by_cases k6:l.kind=6
 ·rw[zE k6]at h⊢;rw[putVni]at h⊢;dsimp only at h⊢;by_cases h1:(begT n l 6).2≠0
  ·rw[zE h1]at h;exact yB h h1
  rw[zD h1]at h⊢;obtain ⟨_,hu,hr,d0,d1,d2⟩:=Sw h1;rw[d2]at h⊢
  repeat' split at h
  all_goals (try (simp at h;done))
  rename_i h2 h3 h4;rw[zD h2,zD h3,zD h4];simp only[Bm,zD k1,zD k2,zD k3,zD k4,zD k5,zE k6,zG]at hu;have hv:=within_iff.1 hu.2;have b1:(C5 n (Cg n l.dev) l.vlan).toNat<n.domains.length:=(E6 (p:=λd:Domain=>d.dev==Cg n l.dev&&d.vlan==l.vlan) (l:=n.domains) (by show 0≤C5 n (Cg n l.dev) l.vlan;omega)).1;simp only[uL,Decidable.not_not]at h4;generalize C5 n (Cg n l.dev) l.vlan=j at *;obtain ⟨j,rfl⟩:∃k:Nat,j=k:=⟨j.toNat,by omega⟩
  rw[zZ]at b1⊢;exact Axv hr j b1 h4.1 l.num l.row ⟨by omega,hv.2⟩
 rw[zD k6]at h⊢;by_cases k7:l.kind=7
 ·rw[zE k7]at h⊢;rw[putFlood]at h⊢;dsimp only at h⊢;by_cases h1:(begT n l 7).2≠0
  ·rw[zE h1]at h;exact yB h h1
  rw[zD h1]at h⊢;obtain ⟨_,hu,hr,d0,d1,d2⟩:=Sw h1;rw[d2]at h⊢
  repeat' split at h
  all_goals (try (simp at h;done))
  rename_i h2 h3 h4 h5;rw[zD h2,zD h3,zD h4,zD h5];have hf:=few_iff.1 hr.few;simp only[Bm,zD k1,zD k2,zD k3,zD k4,zD k5,zD k6,zE k7,zG,La,zK]at hu;exact Aqs hr _ (floodB_iff.2 ⟨place_iff.2 ⟨d0,by show Cg n l.dev<_;omega⟩,hu.2.2.2⟩) q_
 rw[zD k7]at h⊢;by_cases k8:l.kind=8
 ·rw[zE k8]at h⊢;rw[putVrf]at h⊢;dsimp only at h⊢;by_cases h1:(begT n l 8).2≠0
  ·rw[zE h1]at h;exact yB h h1
  rw[zD h1]at h⊢;obtain ⟨_,hu,hr,d0,d1,d2⟩:=Sw h1;rw[d2]at h⊢
  repeat' split at h
  all_goals (try (simp at h;done))
  rename_i h2 h3;rw[zD h2,zD h3];have hf:=few_iff.1 hr.few;simp only[Bm,zD k1,zD k2,zD k3,zD k4,zD k5,zD k6,zD k7,zE k8,zG]at hu;exact Axu hr _ (vrfB_iff.2 ⟨place_iff.2 ⟨d0,by show Cg n l.dev<_;omega⟩,hu.2.1,hu.2.2⟩) q_
 rw[zD k8]at h⊢;by_cases k9:l.kind=9
 ·rw[zE k9]at h⊢;rw[putIrb]at h⊢;dsimp only at h⊢;by_cases h1:(begT n l 9).2≠0
  ·rw[zE h1]at h;exact yB h h1
  rw[zD h1]at h⊢;obtain ⟨_,hu,hr,d0,d1,d2⟩:=Sw h1;rw[d2]at h⊢
  repeat' split at h
  all_goals (try (simp at h;done))
  rename_i h2 h3 h4;rw[zD h2,zD h3,zD h4];simp only[Bm,zD k1,zD k2,zD k3,zD k4,zD k5,zD k6,zD k7,zD k8,zE k9,zG]at hu;have hb:=Uy hu.2.2;have p1:=E6 (p:=λv:Vrf=>v.dev==Cg n l.dev&&v.name==l.name) (l:=n.vrfs) (by show 0≤Alh n (Cg n l.dev) l.name;omega);have p2:=E6 (p:=λd:Domain=>d.dev==Cg n l.dev&&d.vlan==l.vlan) (l:=n.domains) (by show 0≤C5 n (Cg n l.dev) l.vlan;omega);have a1:(Alh n (Cg n l.dev) l.name).toNat<n.vrfs.length:=p1.1;have a2:(nth n.vrfs (Alh n (Cg n l.dev) l.name)).dev=Cg n l.dev:=by
   have:=p1.2;simp only[zG,yI]at this;exact this.1
  have b1:(C5 n (Cg n l.dev) l.vlan).toNat<n.domains.length:=p2.1;have b2:(nth n.domains (C5 n (Cg n l.dev) l.vlan)).dev=Cg n l.dev:=by
   have:=p2.2;simp only[zG,yI]at this;exact this.1
  simp only[uL]at h4;generalize C5 n (Cg n l.dev) l.vlan=j at *;obtain ⟨j,rfl⟩:∃k:Nat,j=k:=⟨j.toNat,by omega⟩
  rw[zZ]at b1⊢;exact A0b hr j b1 q_ ⟨l.row,j,Alh n (Cg n l.dev) l.name,l.addr,l.bits⟩ E (place_iff.2 ⟨by dsimp only;omega,by dsimp only;omega⟩) (b2.trans a2.symm) hb
 ·rw[zD k9]at h;simp at h
def Aq0:NetR emptyN:=netR_iff.1 (by decide +kernel)
set_option maxHeartbeats 4000000
def Ara(l:List LineM)(k:Int):Nat:=(l.filter λx=>x.kind==k).length
structure Many(n:Net)(c:Int→Nat):Prop where
 c1:n.devices.length=c 1
 c2:n.ports.length=c 2
 c3:n.links.length=c 3
 c4:n.statics.length=c 4
 c7:n.floods.length=c 7
 c8:n.vrfs.length=c 8
 c9:n.irbs.length=c 9
def Azv{n:Net}{c:Int→Nat}(h:Many n c):Many (Bw n) c:=⟨h.c1,h.c2,h.c3,h.c4,h.c7,h.c8,h.c9⟩
def Kj(l:List Port)(i k:Int):(Hr l i k).length=l.length:=yP
def Hu(l:List Device)(i k:Int):(Yq l i k).length=l.length:=yP
def Apr{n:Net}{x:LineM}(h:(putDevice n x).2=0):(putDevice n x).1.devices.length=n.devices.length+1∧(putDevice n x).1.ports.length=n.ports.length∧(putDevice n x).1.links.length=n.links.length∧(putDevice n x).1.statics.length=n.statics.length∧(putDevice n x).1.floods.length=n.floods.length∧(putDevice n x).1.vrfs.length=n.vrfs.length∧(putDevice n x).1.irbs.length=n.irbs.length:=by
 unfold putDevice at h⊢;by_cases h0:fitsB n x 1=false
 ·rw[zE h0]at h;cases h
 rw[zD h0]at h⊢;try dsimp only at h⊢
 split at h
 ·cases h
 rename_i h1;rw[zD h1];split at h
 ·cases h
 rename_i h2;rw[zD h2];simp[Kj,Hu]
def Azu{n:Net}{x:LineM}(h:(putPort n x).2=0):(putPort n x).1.devices.length=n.devices.length∧(putPort n x).1.ports.length=n.ports.length+1∧(putPort n x).1.links.length=n.links.length∧(putPort n x).1.statics.length=n.statics.length∧(putPort n x).1.floods.length=n.floods.length∧(putPort n x).1.vrfs.length=n.vrfs.length∧(putPort n x).1.irbs.length=n.irbs.length:=by
 unfold putPort at h⊢;by_cases h0:fitsB n x 2=false
 ·rw[zE h0]at h;cases h
 rw[zD h0]at h⊢;try dsimp only at h⊢
 split at h
 ·cases h
 rename_i h1;rw[zD h1];split at h
 ·cases h
 rename_i h2;rw[zD h2];split at h
 ·cases h
 rename_i h3;rw[zD h3];split at h
 ·cases h
 rename_i h4;rw[zD h4];simp[Kj,Hu]
def Azw{n:Net}{x:LineM}(h:(putLink n x).2=0):(putLink n x).1.devices.length=n.devices.length∧(putLink n x).1.ports.length=n.ports.length∧(putLink n x).1.links.length=n.links.length+1∧(putLink n x).1.statics.length=n.statics.length∧(putLink n x).1.floods.length=n.floods.length∧(putLink n x).1.vrfs.length=n.vrfs.length∧(putLink n x).1.irbs.length=n.irbs.length:=by
 unfold putLink at h⊢;by_cases h0:fitsB n x 3=false
 ·rw[zE h0]at h;cases h
 rw[zD h0]at h⊢;try dsimp only at h⊢
 split at h
 ·cases h
 rename_i h1;rw[zD h1];split at h
 ·cases h
 rename_i h2;rw[zD h2];split at h
 ·cases h
 rename_i h3;rw[zD h3];simp[Kj,Hu]
def Apq{n:Net}{x:LineM}(h:(putStatic n x).2=0):(putStatic n x).1.devices.length=n.devices.length∧(putStatic n x).1.ports.length=n.ports.length∧(putStatic n x).1.links.length=n.links.length∧(putStatic n x).1.statics.length=n.statics.length+1∧(putStatic n x).1.floods.length=n.floods.length∧(putStatic n x).1.vrfs.length=n.vrfs.length∧(putStatic n x).1.irbs.length=n.irbs.length:=by
 unfold putStatic at h⊢;by_cases h0:fitsB n x 4=false
 ·rw[zE h0]at h;cases h
 rw[zD h0]at h⊢;try dsimp only at h⊢
 split at h
 ·cases h
 rename_i h1;rw[zD h1];split at h
 ·cases h
 rename_i h2;rw[zD h2];split at h
 ·cases h
 rename_i h3;rw[zD h3];split at h
 ·cases h
 rename_i h4;rw[zD h4];simp[Kj,Hu]
def Azt{n:Net}{x:LineM}(h:(putVtep n x).2=0):(putVtep n x).1.devices.length=n.devices.length∧(putVtep n x).1.ports.length=n.ports.length∧(putVtep n x).1.links.length=n.links.length∧(putVtep n x).1.statics.length=n.statics.length∧(putVtep n x).1.floods.length=n.floods.length∧(putVtep n x).1.vrfs.length=n.vrfs.length∧(putVtep n x).1.irbs.length=n.irbs.length:=by
 unfold putVtep at h⊢;by_cases h0:(begT n x 5).2≠0
 ·rw[zE h0]at h;exact yB h h0
 rw[zD h0]at h⊢;try dsimp only at h⊢
 split at h
 ·cases h
 rename_i h1;rw[zD h1];simp[Kj,Hu]
def A3x{n:Net}{x:LineM}(h:(putVni n x).2=0):(putVni n x).1.devices.length=n.devices.length∧(putVni n x).1.ports.length=n.ports.length∧(putVni n x).1.links.length=n.links.length∧(putVni n x).1.statics.length=n.statics.length∧(putVni n x).1.floods.length=n.floods.length∧(putVni n x).1.vrfs.length=n.vrfs.length∧(putVni n x).1.irbs.length=n.irbs.length:=by
 unfold putVni at h⊢;by_cases h0:(begT n x 6).2≠0
 ·rw[zE h0]at h;exact yB h h0
 rw[zD h0]at h⊢;try dsimp only at h⊢
 split at h
 ·cases h
 rename_i h1;rw[zD h1];split at h
 ·cases h
 rename_i h2;rw[zD h2];split at h
 ·cases h
 rename_i h3;rw[zD h3];simp[Kj,Hu]
def At7{n:Net}{x:LineM}(h:(putFlood n x).2=0):(putFlood n x).1.devices.length=n.devices.length∧(putFlood n x).1.ports.length=n.ports.length∧(putFlood n x).1.links.length=n.links.length∧(putFlood n x).1.statics.length=n.statics.length∧(putFlood n x).1.floods.length=n.floods.length+1∧(putFlood n x).1.vrfs.length=n.vrfs.length∧(putFlood n x).1.irbs.length=n.irbs.length:=by
 unfold putFlood at h⊢;by_cases h0:(begT n x 7).2≠0
 ·rw[zE h0]at h;exact yB h h0
 rw[zD h0]at h⊢;try dsimp only at h⊢
 split at h
 ·cases h
 rename_i h1;rw[zD h1];split at h
 ·cases h
 rename_i h2;rw[zD h2];split at h
 ·cases h
 rename_i h3;rw[zD h3];split at h
 ·cases h
 rename_i h4;rw[zD h4];simp[Kj,Hu]
def A3w{n:Net}{x:LineM}(h:(putVrf n x).2=0):(putVrf n x).1.devices.length=n.devices.length∧(putVrf n x).1.ports.length=n.ports.length∧(putVrf n x).1.links.length=n.links.length∧(putVrf n x).1.statics.length=n.statics.length∧(putVrf n x).1.floods.length=n.floods.length∧(putVrf n x).1.vrfs.length=n.vrfs.length+1∧(putVrf n x).1.irbs.length=n.irbs.length:=by
 unfold putVrf at h⊢;by_cases h0:(begT n x 8).2≠0
 ·rw[zE h0]at h;exact yB h h0
 rw[zD h0]at h⊢;try dsimp only at h⊢
 split at h
 ·cases h
 rename_i h1;rw[zD h1];split at h
 ·cases h
 rename_i h2;rw[zD h2];simp[Kj,Hu]
def A3y{n:Net}{x:LineM}(h:(putIrb n x).2=0):(putIrb n x).1.devices.length=n.devices.length∧(putIrb n x).1.ports.length=n.ports.length∧(putIrb n x).1.links.length=n.links.length∧(putIrb n x).1.statics.length=n.statics.length∧(putIrb n x).1.floods.length=n.floods.length∧(putIrb n x).1.vrfs.length=n.vrfs.length∧(putIrb n x).1.irbs.length=n.irbs.length+1:=by
 unfold putIrb at h⊢;by_cases h0:(begT n x 9).2≠0
 ·rw[zE h0]at h;exact yB h h0
 rw[zD h0]at h⊢;try dsimp only at h⊢
 split at h
 ·cases h
 rename_i h1;rw[zD h1];split at h
 ·cases h
 rename_i h2;rw[zD h2];split at h
 ·cases h
 rename_i h3;rw[zD h3];simp[Kj,Hu]
def A2w{n:Net}{c:Int→Nat}{x:LineM}(hm:Many n c)(h:(putT n x).2=0):Many (putT n x).1 (λk=>c k+if x.kind=k then 1 else 0):=by
 obtain ⟨c1,c2,c3,c4,c7,c8,c9⟩:=hm;unfold putT at h⊢;by_cases k1:x.kind=1
 ·rw[zE k1]at h⊢;obtain ⟨e1,e2,e3,e4,e7,e8,e9⟩:=Apr h;constructor<;>simp[*]
 rw[zD k1]at h⊢;by_cases k2:x.kind=2
 ·rw[zE k2]at h⊢;obtain ⟨e1,e2,e3,e4,e7,e8,e9⟩:=Azu h;constructor<;>simp[*]
 rw[zD k2]at h⊢;by_cases k3:x.kind=3
 ·rw[zE k3]at h⊢;obtain ⟨e1,e2,e3,e4,e7,e8,e9⟩:=Azw h;constructor<;>simp[*]
 rw[zD k3]at h⊢;by_cases k4:x.kind=4
 ·rw[zE k4]at h⊢;obtain ⟨e1,e2,e3,e4,e7,e8,e9⟩:=Apq h;constructor<;>simp[*]
 rw[zD k4]at h⊢;by_cases k5:x.kind=5
 ·rw[zE k5]at h⊢;obtain ⟨e1,e2,e3,e4,e7,e8,e9⟩:=Azt h;constructor<;>simp[*]
 rw[zD k5]at h⊢;by_cases k6:x.kind=6
 ·rw[zE k6]at h⊢;obtain ⟨e1,e2,e3,e4,e7,e8,e9⟩:=A3x h;constructor<;>simp[*]
 rw[zD k6]at h⊢;by_cases k7:x.kind=7
 ·rw[zE k7]at h⊢;obtain ⟨e1,e2,e3,e4,e7,e8,e9⟩:=At7 h;constructor<;>simp[*]
 rw[zD k7]at h⊢;by_cases k8:x.kind=8
 ·rw[zE k8]at h⊢;obtain ⟨e1,e2,e3,e4,e7,e8,e9⟩:=A3w h;constructor<;>simp[*]
 rw[zD k8]at h⊢;by_cases k9:x.kind=9
 ·rw[zE k9]at h⊢;obtain ⟨e1,e2,e3,e4,e7,e8,e9⟩:=A3y h;constructor<;>simp[*]
 rw[zD k9]at h⊢;cases h
def Ava:Many emptyN (λ_=>0):=⟨rfl,rfl,rfl,rfl,rfl,rfl,rfl⟩
def A4h{α:Type}(p:α→Bool)(f:α→α)(l:List α)(h:∀x,p (f x)=p x):Br p (l.map f)=Br p l:=by
 have e:(l.map f).findIdx? p=l.findIdx? p:=by
  rw[List.findIdx?_map];congr 1;funext x;exact h x
 rw[Br,Br,e]
def Abn(n:Net)(a b:Int):Je (Bw n) a b=Je n a b:=A4h _ _ _ λ_=>rfl
def Ats(n:Net)(d:Domain)(p:List Int):peersT (Bw n) {d with peers:=p}=peersT n d:=by
 rw[peersT,peersT];have e1:∀a b,Ef (Bw n) a b=Ef n a b:=λ_ _=>rfl
 have e2:∀a,C4 (Bw n) a=C4 n a:=λ_=>rfl
 simp only[Abn,e1,e2];rfl
def Azq(n:Net):Bw (Bw n)=Bw n:=by
 have:(Bw n).domains.map (λd=>{d with peers:=peersT (Bw n) d})=(Bw n).domains:=by
  show (n.domains.map λd=>{d with peers:=peersT n d}).map (λd=>{d with peers:=peersT (Bw n) d})=n.domains.map λd=>{d with peers:=peersT n d}
  rw[List.map_map];refine tE λd _=>?_
  show ({d with peers:=peersT (Bw n) {d with peers:=peersT n d} }:Domain)={d with peers:=peersT n d};rw[Ats]
 rw[Bw,this]
def Avx(n:Net)(f:Flood):agreesB (Bw n) f=agreesB n f:=by
 have e1:∀a b,Ef (Bw n) a b=Ef n a b:=λ_ _=>rfl
 have e2:∀a,C4 (Bw n) a=C4 n a:=λ_=>rfl
 have e3:∀a,agreeA (Bw n) f a=agreeA n f a:=λa=>by
  rw[agreeA,agreeA];simp only[Abn,e1,e2];rfl
 have e4:agreeA (Bw n) f=agreeA n f:=funext e3;rw[agreesB,agreesB,Abn,e4]
def Qh{n:Net}(h:(meshNT n).2.2=0):(meshNT n).1=Bw n∧(meshNT n).2.1=0∧Ac (Bw n)=true∧n.floods.find? (λf=>!(agreesB n f))=none:=by
 rw[meshNT]at h⊢;split at h
 ·simp at h
 rename_i h1;rw[zD h1];cases hf:n.floods.find? (λf=>!(agreesB n f)) with
 |some f=>rw[hf]at h;simp at h
 |none=>
  rw[hf]at h;dsimp only at h⊢;split at h
  ·simp at h
  rename_i h2;rw[zD h2];exact⟨E,E,by simpa using h2,E⟩
def At6{n:Net}(h:(meshNT n).2.2=0):meshNT (Bw n)=(Bw n,0,0):=by
 obtain ⟨_,_,h3,h4⟩:=Qh h;have e:(Bw n).floods.find? (λf=>!(agreesB (Bw n) f))=none:=by
  show n.floods.find? (λf=>!(agreesB (Bw n) f))=none;simp only[Avx];exact h4
 rw[meshNT,zD (by rw[h3];simp),e];dsimp only;rw[Azq,zD (by rw[h3];simp)]
def Vp(n:Net):∀(l:List Domain) (f:List Int) (i:Nat),(Tn n f i l).2=false→(Tn n f i l).1=0
 |[],f,i,_=>rfl
 |d::l,f,i,h=>by
  rw[Tn]at h⊢;split
  ·rename_i h1;rw[zE h1]at h;exact Vp n l f _ h
  ·rename_i h1;rw[zD h1]at h;dsimp only at h⊢;split
   ·rename_i h2;rw[zE h2]at h;cases h
   ·rename_i h2;rw[zD h2]at h;exact Vp n l _ _ h
def At9{n:Net}(h:(loopT n).2=false):loopT n=(0,false):=by
 have h1:(loopT n).1=0:=by
  rw[loopT]at h⊢;split
  ·rfl
  ·rename_i hb;rw[zD hb]at h;exact Vp n _ _ _ h
 rw[←h,←h1]
def Ad3:∀(l:List LineM) (n0:Net) (c:Int→Nat),NetR n0→Many n0 c→(B0 n0 l).2.2=0 →
  (B0 n0 l).2.1=0∧Ac (B0 n0 l).1=true∧meshNT (B0 n0 l).1=((B0 n0 l).1,0,0)∧loopT (B0 n0 l).1=(0,false)∧Many (B0 n0 l).1 (λk=>c k+Ara l k)
 |[],n0,c,hr,hm,h=>by
  rw[B0,finishT]at h⊢;split at h
  ·rename_i h1;exact yB h h1
  rename_i h1;rw[zD h1];split at h
  ·simp at h
  rename_i h2;rw[zD h2];have h0:(meshNT n0).2.2=0:=by omega
  obtain ⟨e1,e2,e3,e4⟩:=Qh h0;dsimp only;rw[e1]at h2⊢;refine⟨E,e3,At6 h0,At9 (by simpa using h2),?_⟩;have:=Azv hm;exact⟨this.c1,this.c2,this.c3,this.c4,this.c7,this.c8,this.c9⟩
 |x::l,n0,c,hr,hm,h=>by
  rw[B0]at h⊢;split at h
  ·rename_i h1;exact yB h h1
  rename_i h1;rw[zD h1];have h0:(putT n0 x).2=0:=by omega
  obtain ⟨a,b,d,e,f⟩:=Ad3 l _ _ (Ay3 h0) (A2w hm h0) h;refine⟨a,b,d,e,?_⟩;have hc:∀k,Ara (x::l) k=(if x.kind=k then 1 else 0)+Ara l k:=λk=>by
   rw[Ara,Ara,List.filter_cons];by_cases hk:x.kind=k
   ·simp[hk];omega
   ·simp[hk]
  refine⟨f.c1.trans ?_,f.c2.trans ?_,f.c3.trans ?_,f.c4.trans ?_,f.c7.trans ?_,f.c8.trans ?_,f.c9.trans ?_⟩<;>(rw[hc];omega)
def Ad4:∀(l:List LineM) (n0:Net),(B0 n0 l).2.2≠0→(B0 n0 l).1=emptyN
 |[],n0,h=>by
  rw[B0,finishT]at h⊢;split
  ·rename_i h1;rw[meshNT]at h1⊢;split
   ·rfl
   rename_i h2;rw[zD h2]at h1;split
   ·rfl
   ·rename_i hf;rw[hf]at h1;dsimp only at h1;split
    ·rfl
    ·rename_i h3;rw[zD h3]at h1;exact yB E h1
  ·rename_i h1;rw[zD h1]at h;split
   ·rfl
   ·rename_i h2;rw[zD h2]at h;exact yB E h
 |x::l,n0,h=>by
  rw[B0]at h⊢;split
  ·rfl
  ·rename_i h1;rw[zD h1]at h;exact Ad4 l _ h
attribute [local irreducible] Go.Sy.G Go.Sy.DR
set_option maxRecDepth 100000
def Akg(l:List Int)(x:Int)(hl:Am l):Sp 364 [.sl 1 A9 l,A9 x] (Aa (Br (·==x) l)):=cT F364 ntmps364 λF hF=>by
 unfold Am at hl;refine fW ?_;refine Bi l.length (λj=>∀i (h:i<l.length),i<j→(l[i]==x)=false) (λj=>[(0,.sl 1 A9 l),(1,A9 x),(7,Aa l.length),(8,Aa j)]) (λ_=>[]) [] (λi h hj=>yB hj q_) uU ?_;intro j hj hI;refine fU ?_
 (repeat' (first|(refine⟨λh=>?_,λh=>?_⟩<;>(repeat (first|simp only[Ai]at h|simp only[zK]at h|simp only[yE]at h|simp only[yI]at h|simp only[zR]at h|simp only[xB]at h|simp only[bne_eq_false_iff_eq]at h|simp only[zG]at h|simp only[yO]at h|simp only[yX]at h|simp only[wJ]at h|simp only[yT]at h|simp only[wS]at h|simp only[xJ]at h|simp only[Bool.not_true]at h|simp only[wM]at h))<;>((first|refine rg ?_|refine rd z_ ?_);(conv=>whnf);repeat((first|refine aF ?_|refine aT ?_);(first|refine rg ?_|refine rd z_ ?_);(conv=>whnf))))|(refine As rfl (.cons .tmp .nil) ?_ rfl)|(refine⟨z_,?_⟩;((conv=>whnf);repeat((first|refine aF ?_|refine aT ?_);(first|refine rg ?_|refine rd z_ ?_);(conv=>whnf))))|(refine⟨by (first|(unfold I64;omega)|omega|(simp only[zZ];omega)|done),by (first|(unfold I64;omega)|omega|(simp only[zZ];omega)|done),?_⟩;((conv=>whnf);repeat((first|refine aF ?_|refine aT ?_);(first|refine rg ?_|refine rd z_ ?_);(conv=>whnf))))|(refine⟨by (first|(unfold I64;omega)|omega|(simp only[zZ];omega)|done),?_⟩;((conv=>whnf);repeat((first|refine aF ?_|refine aT ?_);(first|refine rg ?_|refine rd z_ ?_);(conv=>whnf))))|refine Bc [] hI q_ ?_ uU))
 all_goals try (refine zH Aa ?_)
 ·exact Co q_ hI (by simpa using h.symm)
 ·intro i hi bc;rcases vT i j with h1|h1
  ·exact hI i hi h1
  ·have:i=j:=by omega
   subst this;simpa using Ne.symm h
 ·exact Di (λi hi=>hI i hi q_)
def T4(l:List Int)(x:Int)(hl:Am l):Sp 301 [.sl 1 A9 l,A9 x] (Ab (inB l x)):=cT F301 ntmps301 λF hF=>by
 refine fW ?_
 (repeat' (first|(refine⟨λh=>?_,λh=>?_⟩<;>(repeat (first|simp only[Ai]at h|simp only[zK]at h|simp only[yE]at h|simp only[yI]at h|simp only[zR]at h|simp only[xB]at h|simp only[bne_eq_false_iff_eq]at h|simp only[zG]at h|simp only[yO]at h|simp only[yX]at h|simp only[wJ]at h|simp only[yT]at h|simp only[wS]at h|simp only[xJ]at h|simp only[Bool.not_true]at h|simp only[wM]at h))<;>((first|refine rg ?_|refine rd z_ ?_);(conv=>whnf);repeat((first|refine aF ?_|refine aT ?_);(first|refine rg ?_|refine rd z_ ?_);(conv=>whnf))))|(refine As rfl (.cons .tmp .nil) ?_ rfl)|(refine⟨z_,?_⟩;((conv=>whnf);repeat((first|refine aF ?_|refine aT ?_);(first|refine rg ?_|refine rd z_ ?_);(conv=>whnf))))|(refine⟨by (first|(unfold I64;omega)|omega|(simp only[zZ];omega)|done),by (first|(unfold I64;omega)|omega|(simp only[zZ];omega)|done),?_⟩;((conv=>whnf);repeat((first|refine aF ?_|refine aT ?_);(first|refine rg ?_|refine rd z_ ?_);(conv=>whnf))))|(refine⟨by (first|(unfold I64;omega)|omega|(simp only[zZ];omega)|done),?_⟩;((conv=>whnf);repeat((first|refine aF ?_|refine aT ?_);(first|refine rg ?_|refine rd z_ ?_);(conv=>whnf))))|(refine c0 (Akg _ _ hl) F364 ?_;((first|refine rg ?_|refine rd z_ ?_);(conv=>whnf);repeat((first|refine aF ?_|refine aT ?_);(first|refine rg ?_|refine rd z_ ?_);(conv=>whnf))))|(refine cD (Akg _ _ hl) F364 ?_;((first|refine rg ?_|refine rd z_ ?_);(conv=>whnf);repeat((first|refine aF ?_|refine aT ?_);(first|refine rg ?_|refine rd z_ ?_);(conv=>whnf))))))
 exact zH Ab (Jm _ _).symm
def ovVniS(n:Net)(hn:n.Fin)(l:LineM)(hl:LineW l):Sp 231 [Ao n,A3 l] (.tup [Ao (putVni n l).1,Aa (putVni n l).2]):=cT F231 ntmps231 λF hF=>by
 have ax:=@beg_ok n l 6;have aa:=putVni.eq_1 n l;have q1:=Qu n hn l hl 6;have de:=T3 n hn;generalize putVni n l=res at *;generalize begT n l 6=b at *;obtain ⟨d,e⟩:=b;dsimp only at aa ax q1;by_cases h1:e≠0
 ·have g1:(e != 0)=true:=by rw[xB];exact h1
  rw[zE h1]at aa;subst aa;refine gD q1 F300 ?_;refine Al 4 (Da emptyN) E vL ?_;exact gB
 have g1:(e != 0)=false:=by rw[bne_eq_false_iff_eq];omega
 rw[zD h1]at aa;obtain ⟨_,hr,i,hi,ab⟩:=ax q_;subst hi;clear ax;have aq:(i:Int).toNat<n.devices.length:=ab;have fc:nth n.devices (i:Int)=n.devices[(i:Int).toNat]'aq:=Af aq;rw[fc]at aa;have q2:=Lo n hn hr (i:Int) l.vlan;have q3:=Z5 n hn (i:Int) l.num;have ep:C5 n (i:Int) l.vlan<0∨∃k:Nat,C5 n (i:Int) l.vlan=k∧k<n.domains.length:=by
  by_cases h:C5 n (i:Int) l.vlan<0
  ·exact .inl h
  ·exact .inr (Ke h)
 generalize C5 n (i:Int) l.vlan=dm at *;by_cases h2:(n.devices[(i:Int).toNat]'aq).vtep=0
 ·have g2:((n.devices[(i:Int).toNat]'aq).vtep==0)=true:=by rw[yI];exact h2
  rw[zE h2]at aa;subst aa;refine gA q1 F300 q2 F141 ?_;refine Al 4 (Da emptyN) E vL ?_;exact gB
 have g2:((n.devices[(i:Int).toNat]'aq).vtep==0)=false:=by rw[zR];exact h2
 rw[zD h2]at aa;by_cases h3:dm<0
 ·have g3:decide (dm<0)=true:=zL h3;rw[zE h3]at aa;subst aa;refine gA q1 F300 q2 F141 ?_;refine Al 4 (Da emptyN) E vL ?_;exact gB
 have g3:decide (dm<0)=false:=zI h3;rw[zD h3]at aa;obtain ⟨k,hk,o9⟩:=ep.resolve_left h3;subst hk;clear ep;have bj:(k:Int).toNat<n.domains.length:=o9;have wj:nth n.domains (k:Int)=n.domains[(k:Int).toNat]'bj:=Af bj;rw[wj]at aa;by_cases h4:(n.domains[(k:Int).toNat]'bj).vni≠0
 ·have g4:((n.domains[(k:Int).toNat]'bj).vni != 0)=true:=by rw[xB];exact h4
  rw[zE (.inl h4)]at aa;subst aa;refine gA q1 F300 q2 F141 ?_;refine Al 4 (Da emptyN) E vL ?_;exact gB
 have g4:((n.domains[(k:Int).toNat]'bj).vni != 0)=false:=by rw[bne_eq_false_iff_eq];omega
 by_cases h5:0≤Je n (i:Int) l.num
 ·have g5:decide (Je n (i:Int) l.num≥0)=true:=zL h5;rw[zE (.inr h5)]at aa;subst aa;refine gA q1 F300 q2 F141 ?_;refine C q3 F237 ?_;refine Al 4 (Da emptyN) E vL ?_;exact gB
 have g5:decide (Je n (i:Int) l.num≥0)=false:=zI h5;rw[zD (λh=>h.elim h4 h5)]at aa;have af:n.domains≠[]:=λe=>by rw[e]at o9;cases o9
 have lp:∀x,n.domains.set (k:Int).toNat x≠[]:=λx e=>by
  have:=zH List.length e;rw[yP]at this;simp at this;exact af this
 have cq:∀x,(k:Int).toNat<(n.domains.set (k:Int).toNat x).length:=λx=>by rw[yP];exact bj
 have a6:∀x y,(n.domains.set (k:Int).toNat x).set (k:Int).toNat y=n.domains.set (k:Int).toNat y:=λx y=>List.set_set ..
 have bg:∀x,(n.domains.set (k:Int).toNat x)[(k:Int).toNat]'(cq x)=x:=λx=>uT ..
 rw[←a6 (⟨(n.domains[(k:Int).toNat]'bj).dev,(n.domains[(k:Int).toNat]'bj).vlan,l.num,(n.domains[(k:Int).toNat]'bj).irb,(n.domains[(k:Int).toNat]'bj).row,(n.domains[(k:Int).toNat]'bj).peers⟩:Domain) (⟨(n.domains[(k:Int).toNat]'bj).dev,(n.domains[(k:Int).toNat]'bj).vlan,l.num,(n.domains[(k:Int).toNat]'bj).irb,l.row,(n.domains[(k:Int).toNat]'bj).peers⟩:Domain)]at aa;subst aa;refine gA q1 F300 q2 F141 ?_;refine C q3 F237 ?_;refine X (Ad [(0,901),(1,902),(2,903),(3,904),(4,905),(5,906),(6,907),(7,908)] E F38 de E W E V) ?_;refine⟨af,?_⟩;refine T ?_;refine⟨(⟨(n.domains[(k:Int).toNat]'bj).dev,(n.domains[(k:Int).toNat]'bj).vlan,l.num,(n.domains[(k:Int).toNat]'bj).irb,(n.domains[(k:Int).toNat]'bj).row,(n.domains[(k:Int).toNat]'bj).peers⟩:Domain),E,E,?_⟩;refine T ?_;refine⟨cq _,?_⟩;refine T ?_;refine⟨lp _,?_⟩;refine T ?_;refine⟨cq _,(⟨(n.domains[(k:Int).toNat]'bj).dev,(n.domains[(k:Int).toNat]'bj).vlan,l.num,(n.domains[(k:Int).toNat]'bj).irb,l.row,(n.domains[(k:Int).toNat]'bj).peers⟩:Domain),by rw[bg];rfl,by rw[bg];rfl,?_⟩;refine T ?_;refine Aj 901 E ?_;refine Aj 902 E ?_;refine Aj 903 E ?_;refine Aj 904 E ?_;refine Aj 905 E ?_;refine Aj 906 E ?_;refine Aj 907 E ?_;refine Aj 908 E ?_;exact D
def A28(n:Net)(hn:n.Fin)(l:LineM)(hl:LineW l):Sp 232 [Ao n,A3 l] (.tup [Ao (putFlood n l).1,Aa (putFlood n l).2]):=cT F232 ntmps232 λF hF=>by
 have ax:=@beg_ok n l 7;have aa:=putFlood.eq_1 n l;have q1:=Qu n hn l hl 7;have de:=T3 n hn;generalize putFlood n l=res at *;generalize begT n l 7=b at *;obtain ⟨d,e⟩:=b;dsimp only at aa ax q1;by_cases h1:e≠0
 ·have g1:(e != 0)=true:=by rw[xB];exact h1
  rw[zE h1]at aa;subst aa;refine gD q1 F300 ?_;refine Al 4 (Da emptyN) E vL ?_;exact gB
 have g1:(e != 0)=false:=by rw[bne_eq_false_iff_eq];omega
 rw[zD h1]at aa;obtain ⟨_,hr,i,hi,ab⟩:=ax q_;subst hi;clear ax;have aq:(i:Int).toNat<n.devices.length:=ab;have fc:nth n.devices (i:Int)=n.devices[(i:Int).toNat]'aq:=Af aq;rw[fc]at aa;have ee:=hl.fin.a;have q2:=Z5 n hn (i:Int) l.num;have q3:=Amf n hn (i:Int) l.num;have q4:=T4 l.addrs (n.devices[(i:Int).toNat]'aq).vtep (by unfold Am;omega);have q5:=Acn l.addrs q_;generalize Je n (i:Int) l.num=v2 at *;generalize Ef n (i:Int) l.num=v3 at *;generalize inB l.addrs (n.devices[(i:Int).toNat]'aq).vtep=v4 at *;by_cases h2:v2<0
 ·have g2:decide (v2<0)=true:=zL h2;rw[zE h2]at aa;subst aa;refine gA q1 F300 q2 F237 ?_;refine Al 4 (Da emptyN) E vL ?_;exact gB
 have g2:decide (v2<0)=false:=zI h2;rw[zD h2]at aa;by_cases h3:0≤v3
 ·have g3:decide (v3≥0)=true:=zL h3;rw[zE h3]at aa;subst aa;refine gA q1 F300 q2 F237 ?_;refine C q3 F236 ?_;refine Al 4 (Da emptyN) E vL ?_;exact gB
 have g3:decide (v3≥0)=false:=zI h3;rw[zD h3]at aa;cases v4 with
 |true=>
  rw[zE rfl]at aa;subst aa;refine gA q1 F300 q2 F237 ?_;refine gI q3 F236 q4 F301 ?_;refine Al 4 (Da emptyN) E vL ?_;exact gB
 |false=>
  rw[zD y_]at aa;by_cases h5:n.floods.length=48
  ·have g5:((n.floods.length:Int)==48)=true:=by rw[yI];omega
   rw[zE h5]at aa;subst aa;refine gA q1 F300 q2 F237 ?_;refine gI q3 F236 q4 F301 ?_;refine Al 4 (Da emptyN) E vL ?_;exact gB
  have g5:((n.floods.length:Int)==48)=false:=by rw[zR];omega
  rw[zD h5]at aa;subst aa;have iy:n.floods.length<2147483648:=hn.floods;refine gA q1 F300 q2 F237 ?_;refine gI q3 F236 q4 F301 ?_;refine X (Ad [(0,901),(1,902),(2,903),(3,904),(4,905),(5,906),(6,907),(7,908)] E F38 de E W E V) ?_;refine C q5 F112 ?_;refine Xd (Ag Γ.toTy 66 E E E E E (.row E) (.lit (e:=Bh) (l:=[(⟨l.row,(i:Int),l.num,l.addrs⟩:Flood)]) E E) j_ (by simp only[zW];omega) (by simp only[zW];omega)) ?_;refine T ?_;refine Aj 901 E ?_;refine Aj 902 E ?_;refine Aj 903 E ?_;refine Aj 904 E ?_;refine Aj 905 E ?_;refine Aj 66 E ?_;refine Aj 907 E ?_;refine Aj 908 E ?_;exact D
def A55(n:Net)(hn:n.Fin)(l:LineM)(hl:LineW l):Sp 233 [Ao n,A3 l] (.tup [Ao (putVrf n l).1,Aa (putVrf n l).2]):=cT F233 ntmps233 λF hF=>by
 have ax:=@beg_ok n l 8;have aa:=putVrf.eq_1 n l;have q1:=Ae7 n hn l hl 8;have de:=T3 n hn;generalize putVrf n l=res at *;generalize begT n l 8=b at *;obtain ⟨d,e⟩:=b;dsimp only at aa ax q1;by_cases h1:e≠0
 ·have g1:(e != 0)=true:=by rw[xB];exact h1
  rw[zE h1]at aa;subst aa;refine gD q1 F302 ?_;refine Al 4 (Da emptyN) E vL ?_;exact gB
 have g1:(e != 0)=false:=by rw[bne_eq_false_iff_eq];omega
 rw[zD h1]at aa;obtain ⟨_,hr,i,hi,ab⟩:=ax q_;subst hi;clear ax;have aq:(i:Int).toNat<n.devices.length:=ab;have fc:nth n.devices (i:Int)=n.devices[(i:Int).toNat]'aq:=Af aq;clear fc;have pc:=hl.fin.i;have hle:=hl.fin.e;have q2:=Aj0 n hn hr (i:Int) l.name;have q5:=Ey l.imports q_;have q6:=Ey l.exports q_;have iy:n.vrfs.length<2147483648:=hn.vrfs;generalize Alh n (i:Int) l.name=v2 at *;by_cases h2:0≤v2
 ·have g2:decide (v2≥0)=true:=zL h2;rw[zE h2]at aa;subst aa;refine gA q1 F302 q2 F303 ?_;refine Al 4 (Da emptyN) E vL ?_;exact gB
 have g2:decide (v2≥0)=false:=zI h2;rw[zD h2]at aa;by_cases h5:n.vrfs.length=16
 ·have g5:((n.vrfs.length:Int)==16)=true:=by rw[yI];omega
  rw[zE h5]at aa;subst aa;refine gA q1 F302 q2 F303 ?_;refine Al 4 (Da emptyN) E vL ?_;exact gB
 have g5:((n.vrfs.length:Int)==16)=false:=by rw[zR];omega
 rw[zD h5]at aa;subst aa;refine gA q1 F302 q2 F303 ?_;refine X (Ad [(0,901),(1,902),(2,903),(3,904),(4,905),(5,906),(6,907),(7,908)] E F38 de E W E V) ?_;refine gI q5 F111 q6 F111 ?_;refine Xd (Ag Γ.toTy 51 E E E E E (.row E) (.lit (e:=Ck) (l:=[(⟨l.row,(i:Int),l.name,l.imports,l.exports⟩:Vrf)]) E E) j_ (by simp only[zW];omega) (by simp only[zW];omega)) ?_;refine T ?_;refine Aj 901 E ?_;refine Aj 902 E ?_;refine Aj 903 E ?_;refine Aj 904 E ?_;refine Aj 905 E ?_;refine Aj 906 E ?_;refine Aj 51 E ?_;refine Aj 908 E ?_;exact D
def Ajw{a b x:Int}(hb:0≤b∧b≤32)(ha:0≤a∧a<4294967296)(hx:0≤x∧x<4294967296):Aqm a b x=Ab6 a b x:=by
 obtain ⟨y,rfl⟩:=xK ha.1;obtain ⟨z,rfl⟩:=xK hx.1;obtain ⟨k,hk,cq⟩:∃k:Nat,(32-b).toNat=k∧k≤32:=⟨_,rfl,by omega⟩
 have hq:0<2^k:=Nat.two_pow_pos k;rw[Aqm,Ajt b hb,hk,A3v y z k q_ q_ cq,Ab6,zL hb.1,zL hb.2,yF,yF,Lj y k b hb hk,Lj z k b hb hk];generalize 2^k=q at *;have h1:=uF y q;have h2:=uF z q;have e1:y-y%q=q*(y/q):=by omega
 have e2:z-z%q=q*(z/q):=by omega
 rw[e1,e2,wF,zK,yI];constructor
 ·intro h;rw[h]
 ·intro h;exact Nat.eq_of_mul_eq_mul_left hq (by exact_mod_cast h)
def clashS(n:Net)(x:Irb)(hv:0≤x.vrf∧x.vrf.toNat<n.vrfs.length)(hb:0≤x.bits∧x.bits≤32)(hx:0≤x.addr∧x.addr<4294967296)(dev a b:Int)(ha:0≤a∧a<4294967296)(dw:0≤b∧b≤32):Sp 305 [Ao n,Cb x,Aa dev,Awo a b] (Ab (clashB n dev a b x)):=cT F305 ntmps305 λF hF=>by
 have q1:=Aic x.addr x.bits a hb;have q2:=Aic a b x.addr dw;rw[Ajw hb hx ha]at q1;rw[Ajw dw ha hx]at q2;have hc:=clashB.eq_1 n dev a b x;have zy:=hv.2;rw[Af zy]at hc;generalize clashB n dev a b x=r at *;generalize Ab6 x.addr x.bits a=p1 at *;generalize Ab6 a b x.addr=p2 at *;cases h1:(x.addr==a) with
 |true=>
  rw[h1,tR]at hc;subst hc;exact gB
 |false=>
  rw[h1,uB]at hc;cases h2:((n.vrfs[x.vrf.toNat]'zy).dev != dev) with
  |false=>
   rw[h2,yG]at hc;subst hc;exact gB
  |true=>
   rw[h2,yF]at hc;cases p1 with
   |true=>
    rw[tR]at hc;subst hc;refine gD q1 F327 ?_;exact D
   |false=>
    rw[uB]at hc;subst hc;refine gA q1 F327 q2 F327 ?_;exact D
def irbC(n:Net)(x:Irb)(hv:0≤x.vrf∧x.vrf.toNat<n.vrfs.length)(hb:0≤x.bits∧x.bits≤32)(hx:0≤x.addr∧x.addr<4294967296)(dev:Int)(l:LineM)(ha:0≤l.addr∧l.addr<4294967296)(dw:0≤l.bits∧l.bits≤32):Sp 304 [Cb x,.ref 8 (Ao n) 0,.ref 1 (Aa dev) 0,.ref 17 (A3 l) 0] (Ab (clashB n dev l.addr l.bits x)):=cT F304 ntmps304 λF hF=>by
 have q:=clashS n x hv hb hx dev l.addr l.bits ha dw;generalize clashB n dev l.addr l.bits x=r at *;refine gD q F305 ?_;exact D
def Au3{n:Net}{l:LineM}{k:Int}(h:fitsB n l k=true):l.kind=k∧Cq l=true∧Ac n=true:=by
 unfold fitsB at h;simp only[zG,yI]at h;exact⟨h.1,h.2.1,h.2.2⟩
def Atc{l:LineM}(h:Cq l=true)(hk:l.kind=9):0≤l.bits∧l.bits≤32:=by
 rw[Cq,zG]at h;have:=h.1;simp[Bm,hk]at this;have:=Uy this.2.2;omega
def A7b(n:Net)(hn:n.Fin)(ha:Ds n)(l:LineM)(hl:LineW l):Sp 234 [Ao n,A3 l] (.tup [Ao (putIrb n l).1,Aa (putIrb n l).2]):=cT F234 ntmps234 λF hF=>by
 have ax:=@beg_ok n l 9;have aa:=putIrb.eq_1 n l;have q1:=Ae7 n hn l hl 9;have de:=T3 n hn;generalize putIrb n l=res at *;generalize begT n l 9=b at *;obtain ⟨d,e⟩:=b;dsimp only at aa ax q1;by_cases h1:e≠0
 ·have g1:(e != 0)=true:=by rw[xB];exact h1
  rw[zE h1]at aa;subst aa;refine gD q1 F302 ?_;refine Al 4 (Da emptyN) E vL ?_;exact gB
 have g1:(e != 0)=false:=by rw[bne_eq_false_iff_eq];omega
 rw[zD h1]at aa;obtain ⟨oe,hr,i,hi,ab⟩:=ax q_;subst hi;clear ax;have aq:(i:Int).toNat<n.devices.length:=ab;have fc:nth n.devices (i:Int)=n.devices[(i:Int).toNat]'aq:=Af aq;clear fc;obtain ⟨hk9,wy,_⟩:=Au3 oe;have ye:=Atc wy hk9;have q2:=Aj0 n hn hr (i:Int) l.name;have q3:=Lo n hn hr (i:Int) l.vlan;have p9:∀x∈n.irbs,(0≤x.vrf∧x.vrf.toNat<n.vrfs.length)∧(0≤x.bits∧x.bits≤32):=λx hx=>by
  obtain ⟨j,hj,rfl⟩:=vM hx;have:=A8h hr hj;simp only[Ai0,Ai,zG,zK]at this;omega
 have qc:=K7 n.irbs (clashB n (i:Int) l.addr l.bits) 304 [] [.ref 8 (Ao n) 0,.ref 1 (Aa (i:Int)) 0,.ref 17 (A3 l) 0] rfl (λx hx=>⟨⟨_,_,F304⟩,irbC n x (p9 x hx).1 (p9 x hx).2 (ha x hx) (i:Int) l hl.ok.addr ye⟩) hn.irbs;rw[Jm]at qc;have ep:C5 n (i:Int) l.vlan<0∨∃k:Nat,C5 n (i:Int) l.vlan=k∧k<n.domains.length:=by
  by_cases h:C5 n (i:Int) l.vlan<0
  ·exact .inl h
  ·exact .inr (Ke h)
 generalize Alh n (i:Int) l.name=v2 at *;generalize C5 n (i:Int) l.vlan=dm at *;generalize n.irbs.any (clashB n (i:Int) l.addr l.bits)=cl at *;by_cases h2:v2<0
 ·have g2:decide (v2<0)=true:=zL h2;rw[zE h2]at aa;subst aa;refine gA q1 F302 q2 F303 ?_;refine C q3 F141 ?_;refine Al 4 (Da emptyN) E vL ?_;exact gB
 have g2:decide (v2<0)=false:=zI h2;rw[zD h2]at aa;by_cases h3:dm<0
 ·have g3:decide (dm<0)=true:=zL h3;rw[zE h3]at aa;subst aa;refine gA q1 F302 q2 F303 ?_;refine C q3 F141 ?_;refine Al 4 (Da emptyN) E vL ?_;exact gB
 have g3:decide (dm<0)=false:=zI h3;rw[zD h3]at aa;obtain ⟨k,hk,o9⟩:=ep.resolve_left h3;subst hk;clear ep;have bj:(k:Int).toNat<n.domains.length:=o9;have wj:nth n.domains (k:Int)=n.domains[(k:Int).toNat]'bj:=Af bj;rw[wj]at aa;by_cases h4:0≤(n.domains[(k:Int).toNat]'bj).irb
 ·have g4:decide ((n.domains[(k:Int).toNat]'bj).irb≥0)=true:=zL h4;rw[zE (.inl h4)]at aa;subst aa;refine gA q1 F302 q2 F303 ?_;refine C q3 F141 ?_;refine Al 4 (Da emptyN) E vL ?_;exact gB
 have g4:decide ((n.domains[(k:Int).toNat]'bj).irb≥0)=false:=zI h4;cases cl with
 |true=>
  rw[zE (.inr rfl)]at aa;subst aa;refine gA q1 F302 q2 F303 ?_;refine C q3 F141 ?_;refine Ba 2 8 (Ao n) E E E ?_;refine Ba 3 17 (A3 l) E E E ?_;refine Ba 6 1 (Aa (i:Int)) E E E ?_;refine C qc F281 ?_;refine Al 4 (Da emptyN) E vL ?_;exact gB
 |false=>
  rw[zD (λh=>h.elim h4 y_)]at aa;subst aa;have af:n.domains≠[]:=λe=>by rw[e]at o9;cases o9
  have iy:n.irbs.length<2147483648:=hn.irbs;refine gA q1 F302 q2 F303 ?_;refine C q3 F141 ?_;refine Ba 2 8 (Ao n) E E E ?_;refine Ba 3 17 (A3 l) E E E ?_;refine Ba 6 1 (Aa (i:Int)) E E E ?_;refine C qc F281 ?_;refine X (Ad [(0,901),(1,902),(2,903),(3,904),(4,905),(5,906),(6,907),(7,908)] E F38 de E W E V) ?_;refine⟨af,?_⟩;refine T ?_;refine⟨(⟨(n.domains[(k:Int).toNat]'bj).dev,(n.domains[(k:Int).toNat]'bj).vlan,(n.domains[(k:Int).toNat]'bj).vni,(n.irbs.length:Int),(n.domains[(k:Int).toNat]'bj).row,(n.domains[(k:Int).toNat]'bj).peers⟩:Domain),E,E,?_⟩;refine T ?_;refine X (Ag Γ.toTy 77 E E E E E (.row E) (.lit (e:=Cb) (l:=[(⟨l.row,(k:Int),v2,l.addr,l.bits⟩:Irb)]) E E) j_ (by simp only[zW];omega) (by simp only[zW];omega)) ?_;refine Aj 901 E ?_;refine Aj 902 E ?_;refine Aj 903 E ?_;refine Aj 904 E ?_;refine Aj 905 E ?_;refine Aj 906 E ?_;refine Aj 907 E ?_;refine Aj 77 E ?_;exact D
def Aaj(l:List Static)(p:Static→Bool)(f:FuncId)(first cap:List SV)(hc:(SV.clo (.func f) first cap).inn []=true)(hf:∀x∈l,Hb prog f (first++[A2 x]++cap) (Ab (p x)))(hl:Am l):Sp 362 [.sl 4 A2 l,.clo (.func f) first cap] (Aa (Br p l)):=cT F362 ntmps362 λF hF=>by
 unfold Am at hl;have ar:∀x:Static,B8 [] (first++[A2 x]++cap)=true:=λx=>C9 hc rfl
 refine fW ?_;refine Bi l.length (λj=>H8 (λ_ x=>!(p x)) l j) (λj=>[(0,.sl 4 A2 l),(1,.clo (.func f) first cap),(7,Aa l.length),(8,Aa j)]) (λ_=>[]) [] (Bo _ _) ⟨⟨E,E,Bd _,hc,E,E,E,E,Y⟩,Y,E,E⟩ ?_;intro j hj hI;refine fU ?_;constructor<;>intro h
 ·have h:=zO h;have an:j<l.length:=by omega
  refine fU ?_;refine⟨E,by omega,by omega,?_⟩;refine fW ?_;refine Eg (hf l[j] (zJ an)) E E E (by simp only[ar];rfl) E E ?_;refine fU ?_;constructor<;>intro h2
  ·refine fU ?_;refine As E (.cons .tmp .nil) (zH Aa ?_) E;exact Co an (λi hi bc=>by simpa using hI i hi bc) h2
  ·refine gG ?_;exact Bc [] hI an (Bl hI an (by simp[h2])) ⟨⟨E,E,Bd _,hc,E,E,E,E,Y⟩,Y,E,E⟩
 ·have h:=zT h;refine fU ?_;refine As E (.cons .tmp .nil) (zH Aa ?_) E;exact Di (λi hi=>by simpa using hI i hi q_)
def A3k(dom m:Int)(s:Static):Sp 363 [A2 s,.ref 1 (Aa dom) 0,.ref 1 (Bj m) 0] (Ab (s.domain==dom&&s.mac==m)):=cT F363 ntmps363 λF hF=>by
 cases h:(s.domain==dom)
 ·exact gB
 ·exact gB
def A3j(n:Net)(hn:n.Fin)(dom m:Int):Sp 299 [Ao n,Aa dom,Bj m] (Aa (Am8 n dom m)):=cT F299 ntmps299 λF hF=>by
 have q:=Aaj n.statics (λs:Static=>s.domain==dom&&s.mac==m) 363 [] [.ref 1 (Aa dom) 0,.ref 1 (Bj m) 0] rfl (λx _=>⟨⟨_,_,F363⟩,A3k dom m x⟩) hn.statics;refine fW ?_;refine Ba 4 1 (Aa dom) E E E ?_;refine Ba 5 1 (Bj m) E E E ?_;refine c0 q F362 ?_;exact gC
def Asv(n:Net)(hn:n.Fin)(l:LineM)(hl:LineW l):Sp 229 [Ao n,A3 l] (.tup [Ao (putStatic n l).1,Aa (putStatic n l).2]):=cT F229 ntmps229 λF hF=>by
 have qr:=Lf l hl;have qn:=A0 n hn;have de:=T3 n hn;have aa:=putStatic.eq_1 n l;dsimp only at aa;have hf:=fitsB.eq_1 n l 4;generalize putStatic n l=res at *;generalize fitsB n l 4=f at *;cases h1:(l.kind==4) with
 |false=>
  have g1:(l.kind != 4)=true:=by rw[bne,h1];rfl
  rw[h1,yG]at hf;rw[hf,zE rfl]at aa;subst aa;refine T ?_;refine Al 4 (Da emptyN) E vL ?_;exact gB
 |true=>
 have g1:(l.kind != 4)=false:=by rw[bne,h1];rfl
 rw[h1,yF]at hf;cases h2:Cq l with
 |false=>
  rw[h2]at qr hf;rw[hf,yG,zE rfl]at aa;subst aa;refine gD qr F297 ?_;refine Al 4 (Da emptyN) E vL ?_;exact gB
 |true=>
 rw[h2]at qr hf;cases hr:Ac n with
 |false=>
  rw[hr]at qn hf;rw[hf,wK,zE rfl]at aa;subst aa;refine gA qr F297 qn F20 ?_;refine Al 4 (Da emptyN) E vL ?_;exact gB
 |true=>
 rw[hr]at qn hf;rw[hf,zD y_]at aa;have q1:=I4 n hn hr l.dev;have q2:=Tl n hn hr (Cg n l.dev) l.port;have q3:=Lo n hn hr (Cg n l.dev) l.vlan;have q5:=A3j n hn (C5 n (Cg n l.dev) l.vlan) l.mac;have ry:Og n (Cg n l.dev) l.port<0∨∃k:Nat,Og n (Cg n l.dev) l.port=k∧k<n.ports.length:=by
  by_cases h:Og n (Cg n l.dev) l.port<0
  ·exact .inl h
  ·exact .inr (Ke h)
 have iy:n.statics.length<2147483648:=hn.statics;generalize Og n (Cg n l.dev) l.port=pt at *;generalize C5 n (Cg n l.dev) l.vlan=dm at *;generalize Cg n l.dev=dv at *;generalize Am8 n dm l.mac=en at *;by_cases h3:dv<0
 ·have g3:decide (dv<0)=true:=zL h3;rw[zE (.inl h3)]at aa;subst aa;refine gA qr F297 qn F20 ?_;refine gI q1 F72 q2 F71 ?_;refine C q3 F141 ?_;refine Al 4 (Da emptyN) E vL ?_;exact gB
 have g3:decide (dv<0)=false:=zI h3;by_cases h4:pt<0
 ·have g4:decide (pt<0)=true:=zL h4;rw[zE (.inr h4)]at aa;subst aa;refine gA qr F297 qn F20 ?_;refine gI q1 F72 q2 F71 ?_;refine C q3 F141 ?_;refine Al 4 (Da emptyN) E vL ?_;exact gB
 have g4:decide (pt<0)=false:=zI h4;rw[zD (λh=>h.elim h3 h4)]at aa;obtain ⟨p,hp,a7⟩:=ry.resolve_left h4;subst hp;clear ry;have d7:(p:Int).toNat<n.ports.length:=a7;have hnp:nth n.ports (p:Int)=n.ports[(p:Int).toNat]'d7:=Af d7;rw[hnp]at aa;by_cases h5:dm<0
 ·have g5:decide (dm<0)=true:=zL h5;rw[zE (.inl h5)]at aa;subst aa;refine gA qr F297 qn F20 ?_;refine gI q1 F72 q2 F71 ?_;refine C q3 F141 ?_;refine Al 4 (Da emptyN) E vL ?_;exact gB
 have g5:decide (dm<0)=false:=zI h5;have q4:=Z9 (n.ports[(p:Int).toNat]'d7) l.vlan (hn.tagged _ (zJ d7));cases hb:Cw (n.ports[(p:Int).toNat]'d7) l.vlan with
 |false=>
  rw[hb]at q4;rw[zE (.inr hb)]at aa;subst aa;refine gA qr F297 qn F20 ?_;refine gI q1 F72 q2 F71 ?_;refine gI q3 F141 q4 F131 ?_;refine Al 4 (Da emptyN) E vL ?_;exact gB
 |true=>
 rw[hb]at q4;rw[zD (λh=>h.elim h5 (by rw[hb];simp))]at aa;by_cases h6:0≤en
 ·have g6:decide (en≥0)=true:=zL h6;rw[zE h6]at aa;subst aa;refine gA qr F297 qn F20 ?_;refine gI q1 F72 q2 F71 ?_;refine gI q3 F141 q4 F131 ?_;refine C q5 F299 ?_;refine Al 4 (Da emptyN) E vL ?_;exact gB
 have g6:decide (en≥0)=false:=zI h6;rw[zD h6]at aa;by_cases h7:n.statics.length=64
 ·have g7:((n.statics.length:Int)==64)=true:=by rw[yI];omega
  rw[zE h7]at aa;subst aa;refine gA qr F297 qn F20 ?_;refine gI q1 F72 q2 F71 ?_;refine gI q3 F141 q4 F131 ?_;refine C q5 F299 ?_;refine Al 4 (Da emptyN) E vL ?_;exact gB
 have g7:((n.statics.length:Int)==64)=false:=by rw[zR];omega
 rw[zD h7]at aa;subst aa;refine gA qr F297 qn F20 ?_;refine gI q1 F72 q2 F71 ?_;refine gI q3 F141 q4 F131 ?_;refine C q5 F299 ?_;refine X (Ad [(0,901),(1,902),(2,903),(3,904),(4,905),(5,906),(6,907),(7,908)] E F38 de E W E V) ?_;refine X (Ag Γ.toTy 87 E E E E E (.row E) (.lit (e:=A2) (l:=[(⟨l.row,dm,(p:Int),l.mac⟩:Static)]) E E) j_ (by simp only[zW];omega) (by simp only[zW];omega)) ?_;refine Aj 901 E ?_;refine Aj 902 E ?_;refine Aj 903 E ?_;refine Aj 904 E ?_;refine Aj 87 E ?_;refine Aj 906 E ?_;refine Aj 907 E ?_;refine Aj 908 E ?_;exact D
def Ap3(n:Net)(hn:n.Fin)(hr:Ac n=true)(dev port:ByteArray):Sp 298 [Ao n,Ap dev,Ap port] (Aa (endI n dev port)):=cT F298 ntmps298 λF hF=>by
 have q1:=I4 n hn hr dev;have q2:=Tl n hn hr (Cg n dev) port;have aa:=endI.eq_1 n dev port;generalize endI n dev port=res at *;generalize Og n (Cg n dev) port=pt at *;generalize Cg n dev=d at *;by_cases h:d<0
 ·have g:decide (d<0)=true:=zL h;rw[zE h]at aa;subst aa;refine gD q1 F72 ?_;exact D
 ·have g:decide (d<0)=false:=zI h;rw[zD h]at aa;subst aa;refine gA q1 F72 q2 F71 ?_;exact D
def end_range{n:Net}{dev port:ByteArray}(h:¬endI n dev port<0):∃k:Nat,endI n dev port=k∧k<n.ports.length:=by
 unfold endI at h⊢;split
 ·rename_i h1;rw[zE h1]at h;omega
 ·rename_i h1;rw[zD h1]at h;exact Ke h
def A36(n:Net)(hn:n.Fin)(l:LineM)(hl:LineW l):Sp 228 [Ao n,A3 l] (.tup [Ao (putLink n l).1,Aa (putLink n l).2]):=cT F228 ntmps228 λF hF=>by
 have qr:=Lf l hl;have qn:=A0 n hn;have de:=T3 n hn;have aa:=putLink.eq_1 n l;dsimp only at aa;have hf:=fitsB.eq_1 n l 3;generalize putLink n l=res at *;generalize fitsB n l 3=f at *;cases h1:(l.kind==3) with
 |false=>
  have g1:(l.kind != 3)=true:=by rw[bne,h1];rfl
  rw[h1,yG]at hf;rw[hf,zE rfl]at aa;subst aa;refine T ?_;refine Al 4 (Da emptyN) E vL ?_;exact gB
 |true=>
 have g1:(l.kind != 3)=false:=by rw[bne,h1];rfl
 rw[h1,yF]at hf;cases h2:Cq l with
 |false=>
  rw[h2]at qr hf;rw[hf,yG,zE rfl]at aa;subst aa;refine gD qr F297 ?_;refine Al 4 (Da emptyN) E vL ?_;exact gB
 |true=>
 rw[h2]at qr hf;cases hr:Ac n with
 |false=>
  rw[hr]at qn hf;rw[hf,wK,zE rfl]at aa;subst aa;refine gA qr F297 qn F20 ?_;refine Al 4 (Da emptyN) E vL ?_;exact gB
 |true=>
 rw[hr]at qn hf;rw[hf,zD y_]at aa;have q1:=Ap3 n hn hr l.dev l.port;have q2:=Ap3 n hn hr l.peer l.far;have ra:=@end_range n l.dev l.port;have rb:=@end_range n l.peer l.far;have iy:n.links.length<2147483648:=hn.links;generalize endI n l.dev l.port=a at *;generalize endI n l.peer l.far=b at *;refine gA qr F297 qn F20 ?_;refine gI q1 F298 q2 F298 ?_;refine Xd (V1 Γ.toTy E E E E E E) ?_;refine T ?_;refine Ba 2 8 (Ao n) E E E ?_;refine Ba 3 17 (A3 l) E E E ?_;refine Ba 6 2 (.agg [Aa a,Aa b]) E E E ?_;refine Cj (λj:Nat=>j≤2∧(1≤j→¬a<0)∧(2≤j→¬b<0)) (λj=>[(2,.ref 8 (Ao n) 0),(3,.ref 17 (A3 l) 0),(4,.ptr 1001 0),(6,.ref 2 (.agg [Aa a,Aa b]) 0),(41,.agg [Aa a,Aa b]),(42,Aa j)]) (λ_=>[(1001,.box [.val (.slice none 0 0),.val (.slice none 0 0),.val (.slice none 0 0),.val (.slice none 0 0),.val (.slice none 0 0),.val (.slice none 0 0),.val (.slice none 0 0),.val (.slice none 0 0)])]) (λj=>2-j) 0 [(1001,4)] ⟨by omega,by omega,by omega⟩ U ?_;rintro j ⟨hj,ja,jb⟩;have hc:j=0∨j=1∨j=2:=by omega
 rcases hc with rfl|rfl|rfl
 ·by_cases ka:a<0
  ·have g1:decide (a<0)=true:=zL ka;rw[zE (.inl ka)]at aa;subst aa;refine T ?_;refine X (Ch (k:=.int .i64) Γ.toTy E E E Tryz.underlying3 E E j_ j_ E) ?_;refine Al 1001 (Da emptyN) E vL ?_;exact gB
  ·have g1:decide (a<0)=false:=zI ka;refine T ?_;refine X (Ch (k:=.int .i64) Γ.toTy E E E Tryz.underlying3 E E j_ j_ E) ?_;exact Ax 1 [] ⟨by omega,λ_=>ka,by omega⟩ q_ U
 ·have ka:=ja q_;by_cases kb:b<0
  ·have g1:decide (b<0)=true:=zL kb;rw[zE (.inr kb)]at aa;subst aa;refine T ?_;refine X (Ch (k:=.int .i64) Γ.toTy E E E Tryz.underlying3 E E j_ j_ E) ?_;refine Al 1001 (Da emptyN) E vL ?_;exact gB
  ·have g1:decide (b<0)=false:=zI kb;refine T ?_;refine X (Ch (k:=.int .i64) Γ.toTy E E E Tryz.underlying3 E E j_ j_ E) ?_;exact Ax 2 [] ⟨by omega,λ_=>ka,λ_=>kb⟩ q_ U
 ·have ka:=ja q_;have kb:=jb q_;obtain ⟨a,rfl,kh⟩:=ra ka;obtain ⟨b,rfl,o6⟩:=rb kb;rw[zD (λh=>h.elim ka kb)]at aa;clear ja jb ra rb hj;have jh:(a:Int).toNat<n.ports.length:=kh;have pf:(b:Int).toNat<n.ports.length:=o6;have hna:nth n.ports (a:Int)=n.ports[(a:Int).toNat]'jh:=Af jh;have hnb:nth n.ports (b:Int)=n.ports[(b:Int).toNat]'pf:=Af pf;rw[hna,hnb]at aa;by_cases k1:(n.ports[(a:Int).toNat]'jh).dev=(n.ports[(b:Int).toNat]'pf).dev
  ·have g1:((n.ports[(a:Int).toNat]'jh).dev==(n.ports[(b:Int).toNat]'pf).dev)=true:=by rw[yI];exact k1
   rw[zE (.inl k1)]at aa;subst aa;refine T ?_;refine Al 1001 (Da emptyN) E vL ?_;exact gB
  have g1:((n.ports[(a:Int).toNat]'jh).dev==(n.ports[(b:Int).toNat]'pf).dev)=false:=by rw[zR];exact k1
  by_cases k2:0≤(n.ports[(a:Int).toNat]'jh).link
  ·have g2:decide ((n.ports[(a:Int).toNat]'jh).link≥0)=true:=zL k2;rw[zE (.inr (.inl k2))]at aa;subst aa;refine T ?_;refine Al 1001 (Da emptyN) E vL ?_;exact gB
  have g2:decide ((n.ports[(a:Int).toNat]'jh).link≥0)=false:=zI k2;by_cases k3:0≤(n.ports[(b:Int).toNat]'pf).link
  ·have g3:decide ((n.ports[(b:Int).toNat]'pf).link≥0)=true:=zL k3;rw[zE (.inr (.inr k3))]at aa;subst aa;refine T ?_;refine Al 1001 (Da emptyN) E vL ?_;exact gB
  have g3:decide ((n.ports[(b:Int).toNat]'pf).link≥0)=false:=zI k3;rw[zD (by rintro (h|h|h);exact k1 h;exact k2 h;exact k3 h)]at aa;by_cases k4:n.links.length=20
  ·have g4:((n.links.length:Int)==20)=true:=by rw[yI];omega
   rw[zE k4]at aa;subst aa;refine T ?_;refine Al 1001 (Da emptyN) E vL ?_;exact gB
  have g4:((n.links.length:Int)==20)=false:=by rw[zR];omega
  rw[zD k4]at aa;have t1:Hr n.ports (a:Int) (n.links.length:Int)=n.ports.set (a:Int).toNat (⟨(n.ports[(a:Int).toNat]'jh).row,(n.ports[(a:Int).toNat]'jh).dev,(n.ports[(a:Int).toNat]'jh).native,(n.ports[(a:Int).toNat]'jh).cost,(n.links.length:Int),(n.ports[(a:Int).toNat]'jh).name,(n.ports[(a:Int).toNat]'jh).tagged⟩:Port):=by rw[Hr,hna]
  have l1:(Hr n.ports (a:Int) (n.links.length:Int)).length=n.ports.length:=by rw[Hr,yP]
  have af:n.ports≠[]:=λe=>by rw[e]at kh;cases kh
  obtain ⟨P1,hP1⟩:∃P1,Hr n.ports (a:Int) (n.links.length:Int)=P1:=⟨_,rfl⟩
  rw[hP1]at aa t1 l1;have gv:(b:Int).toNat<P1.length:=by rw[l1];exact pf
  have wo:nth P1 (b:Int)=P1[(b:Int).toNat]'gv:=Af gv;have hne1:P1≠[]:=λe=>by rw[e]at gv;cases gv
  have t2:Hr P1 (b:Int) (n.links.length:Int)=P1.set (b:Int).toNat (⟨(P1[(b:Int).toNat]'gv).row,(P1[(b:Int).toNat]'gv).dev,(P1[(b:Int).toNat]'gv).native,(P1[(b:Int).toNat]'gv).cost,(n.links.length:Int),(P1[(b:Int).toNat]'gv).name,(P1[(b:Int).toNat]'gv).tagged⟩:Port):=by rw[Hr,wo]
  obtain ⟨P2,hP2⟩:∃P2,Hr P1 (b:Int) (n.links.length:Int)=P2:=⟨_,rfl⟩
  rw[hP2]at aa t2;subst aa;refine T ?_;refine X (Ad [(0,901),(1,902),(2,903),(3,904),(4,905),(5,906),(6,907),(7,908)] E F38 de E W E V) ?_;refine Cj (λj:Nat=>j≤2) (λj=>[(3,.ref 17 (A3 l) 0),(4,.ptr 1001 0),(6,.ref 2 (.agg [Aa (a:Int),Aa (b:Int)]) 0),(11,.ptr 1002 0),(86,.agg [Aa (a:Int),Aa (b:Int)]),(87,Aa j)]) (λj=>[(1001,.box [.val (.slice none 0 0),.val (.slice none 0 0),.val (.slice none 0 0),.val (.slice none 0 0),.val (.slice none 0 0),.val (.slice none 0 0),.val (.slice none 0 0),.val (.slice none 0 0)]),(1002,.box [.osl 901,.osl 902,.osl 903,.osl 904,.osl 905,.osl 906,.osl 907,.osl 908]),(901,.row 5 Aw n.devices),(902,.row 7 A7 (if j=0 then n.ports else if j=1 then P1 else P2)),(903,.row 3 B5 n.links),(904,.row 6 Aq n.domains),(905,.row 4 A2 n.statics),(906,.row 4 Bh n.floods),(907,.row 5 Ck n.vrfs),(908,.row 5 Cb n.irbs)]) (λj=>2-j) 0 [(1002,11)] q_ U ?_;intro j hj;have hc:j=0∨j=1∨j=2:=by omega
  rcases hc with rfl|rfl|rfl
  ·rw[zE rfl];refine T ?_;refine X (Ch (k:=.int .i64) Γ.toTy E E E Tryz.underlying3 E E j_ j_ E) ?_;refine T ?_;refine⟨af,?_⟩;refine T ?_;refine⟨(⟨(n.ports[(a:Int).toNat]'jh).row,(n.ports[(a:Int).toNat]'jh).dev,(n.ports[(a:Int).toNat]'jh).native,(n.ports[(a:Int).toNat]'jh).cost,(n.links.length:Int),(n.ports[(a:Int).toNat]'jh).name,(n.ports[(a:Int).toNat]'jh).tagged⟩:Port),E,E,?_⟩;refine T ?_;exact Ax 1 [] q_ q_ ⟨⟨E,E,E,E,E,E,E,E,E,E,E,E,Y⟩,⟨.inl E,E,.inl E,E,.inl E,E,.inl (zH (Ob.row 7 A7) t1),E,.inl E,E,.inl E,E,.inl E,E,.inl E,E,.inl E,E,.inl E,E,Y⟩,E,E⟩
  ·rw[zD j_,zE rfl];refine T ?_;refine X (Ch (k:=.int .i64) Γ.toTy E E E Tryz.underlying3 E E j_ j_ E) ?_;refine T ?_;refine⟨hne1,?_⟩;refine T ?_;refine⟨(⟨(P1[(b:Int).toNat]'gv).row,(P1[(b:Int).toNat]'gv).dev,(P1[(b:Int).toNat]'gv).native,(P1[(b:Int).toNat]'gv).cost,(n.links.length:Int),(P1[(b:Int).toNat]'gv).name,(P1[(b:Int).toNat]'gv).tagged⟩:Port),E,E,?_⟩;refine T ?_;exact Ax 2 [] q_ q_ ⟨⟨E,E,E,E,E,E,E,E,E,E,E,E,Y⟩,⟨.inl E,E,.inl E,E,.inl E,E,.inl (zH (Ob.row 7 A7) t2),E,.inl E,E,.inl E,E,.inl E,E,.inl E,E,.inl E,E,.inl E,E,Y⟩,E,E⟩
  ·rw[zD j_,zD j_];refine T ?_;refine X (Ag Γ.toTy 109 E E E E E (.row E) (.lit (e:=B5) (l:=[(⟨l.row,(a:Int),(b:Int)⟩:Link)]) E E) j_ (by simp only[zW];omega) (by simp only[zW];omega)) ?_;refine T ?_;refine Aj 901 E ?_;refine Aj 902 E ?_;refine Aj 109 E ?_;refine Aj 904 E ?_;refine Aj 905 E ?_;refine Aj 906 E ?_;refine Aj 907 E ?_;refine Aj 908 E ?_;exact D
abbrev Avj(n:Net):Obs:=[(900,.box [.osl 901,.osl 902,.osl 903,.osl 904,.osl 905,.osl 906,.osl 907,.osl 908]),(901,.row 5 Aw n.devices),(902,.row 7 A7 n.ports),(903,.row 3 B5 n.links),(904,.row 6 Aq n.domains),(905,.row 4 A2 n.statics),(906,.row 4 Bh n.floods),(907,.row 5 Ck n.vrfs),(908,.row 5 Cb n.irbs)]
def Adc(n:Net)(hn:n.Fin)(l:LineM)(hl:LineW l)(k:Int)(h:fitsB n l k=true):Sq 293 [Ao n,A3 l,Aa k] [] (.tup [.ptr 900 0,Ab true]) (Avj n):=cT F293 ntmps293 λF hF=>by
 have qr:=Lf l hl;have qn:=A0 n hn;have de:=T3 n hn;unfold fitsB at h;simp only[zG]at h;obtain ⟨h1,h2,h3⟩:=h;have g1:(l.kind != k)=false:=by rw[bne,h1];rfl
 rw[h2]at qr;rw[h3]at qn;refine gA qr F297 qn F20 ?_;refine X (Ad [(0,901),(1,902),(2,903),(3,904),(4,905),(5,906),(6,907),(7,908)] E F38 de E W E V) ?_;exact done E (.cons .tmp (.cons .tmp .nil)) [(900,25)] (Avj n) (λ_ h=>h) E E U
def Xw(n:Net)(hn:n.Fin)(l:LineM)(hl:LineW l)(k:Int)(h:fitsB n l k=false):Sp 293 [Ao n,A3 l,Aa k] (.tup [.val (.pointer none),Ab false]):=cT F293 ntmps293 λF hF=>by
 have qr:=Lf l hl;have qn:=A0 n hn;unfold fitsB at h;cases h1:(l.kind==k) with
 |false=>
  have g1:(l.kind != k)=true:=by rw[bne,h1];rfl
  exact gB
 |true=>
 have g1:(l.kind != k)=false:=by rw[bne,h1];rfl
 rw[h1,yF]at h;cases h2:Cq l with
 |false=>
  rw[h2]at qr;refine gD qr F297 ?_;exact D
 |true=>
 rw[h2]at qr h;rw[yF]at h;rw[h]at qn;refine gA qr F297 qn F20 ?_;exact D
def A27(l:LineM)(d:Device):Sp 295 [Aw d,.ref 17 (A3 l) 0] (Ab (d.name==l.dev||d.mac==l.mac)):=cT F295 ntmps295 λF hF=>by
 cases h:(d.name==l.dev)
 ·exact gB
 ·exact gB
def Avk(n:Net)(hn:n.Fin)(l:LineM)(hl:LineW l):Sp 226 [Ao n,A3 l] (.tup [Ao (putDevice n l).1,Aa (putDevice n l).2]):=cT F226 ntmps226 λF hF=>by
 have aa:=putDevice.eq_1 n l;generalize putDevice n l=res at *;cases hf:fitsB n l 1 with
 |false=>
  have q1:=Xw n hn l hl 1 hf;rw[hf,zE rfl]at aa;subst aa;refine gD q1 F293 ?_;refine Al 4 (Da emptyN) E vL ?_;exact gB
 |true=>
 have q1:=Adc n hn l hl 1 hf;rw[hf,zD y_]at aa;have qc:=Wa n.devices (λd=>d.name==l.dev||d.mac==l.mac) 295 [] [.ref 17 (A3 l) 0] rfl (λd _=>⟨⟨_,_,F295⟩,A27 l d⟩) hn.devices;rw[Jm]at qc;have iy:n.devices.length<2147483648:=hn.devices;generalize n.devices.any (λd=>d.name==l.dev||d.mac==l.mac)=cl at *;cases cl with
 |true=>
  rw[zE rfl]at aa;subst aa;refine T ?_;refine X (Ad [] E F293 q1 E W E V) ?_;refine Ba 3 17 (A3 l) E E E ?_;refine X (Iy [901] E F294 qc (.cons (.row E E) (.cons (.refl _) .nil)) E E) ?_;refine Al 4 (Da emptyN) E vL ?_;exact gB
 |false=>
 rw[zD y_]at aa;by_cases h5:n.devices.length=8
 ·have g5:((n.devices.length:Int)==8)=true:=by rw[yI];omega
  rw[zE h5]at aa;subst aa;refine T ?_;refine X (Ad [] E F293 q1 E W E V) ?_;refine Ba 3 17 (A3 l) E E E ?_;refine X (Iy [901] E F294 qc (.cons (.row E E) (.cons (.refl _) .nil)) E E) ?_;refine Al 4 (Da emptyN) E vL ?_;exact gB
 have g5:((n.devices.length:Int)==8)=false:=by rw[zR];omega
 rw[zD h5]at aa;subst aa;refine T ?_;refine X (Ad [] E F293 q1 E W E V) ?_;refine Ba 3 17 (A3 l) E E E ?_;refine X (Iy [901] E F294 qc (.cons (.row E E) (.cons (.refl _) .nil)) E E) ?_;refine T ?_;refine Xd (Ag Γ.toTy 52 E E E E E (.row E) (.lit (e:=Aw) (l:=[(⟨l.row,l.num,l.dev,l.mac,0⟩:Device)]) E E) j_ (by simp only[zW];omega) (by simp only[zW];omega)) ?_;refine T ?_;refine Aj 52 E ?_;refine Aj 902 E ?_;refine Aj 903 E ?_;refine Aj 904 E ?_;refine Aj 905 E ?_;refine Aj 906 E ?_;refine Aj 907 E ?_;refine Aj 908 E ?_;exact D
end Go.Sy.YtolnneiipmfgaaaGreatDoor
namespace Go.Sy
def Ai7{P:Program}(Γ:Ty P){o:Oper}{s:SS}(d q:Nat){α:Type}{e:α→SV}{l:List α}(z:α){sv:SV}{t:TypeId}{ti:TI}{et:TypeId}{sz eb:Nat}{ez:List Value}{x y:Operand}{k:Option Nat}(h:o.op=.call ⟨.builtin .append,#[x,y],#[t,t]⟩)(hd:s.h d=.fresh)(ht:Γ.get t=some ti)(hk:ti.k=.slice et sz eb ez)(pg:ez.length=sz)(hb:BaseT s sz e (ev s x) k l)(hy:ev s y=.osl q)(hq:s.h q=.lit sz [sv])(hv:∀(M:Nat→Prop) (w:World) (v:Value),RdD M w sv v→RdD M w (e z) v)(pp:∀j,k=some j→j≠d)(cx:(l.length+1)*eb≤140737488355328)(sg:l.length+1≤9223372036854775807):Good P o s ⟨.osl d,[q],Ua k d (.row sz e (l++[z]))⟩:=by
 obtain ⟨f,hb,hf⟩:=hb.base;have hs:AppSrc s sz (ev s y) [q] 1 (Aix [sv]):=by
  rw[hy];exact AppSrc.lit (sz:=sz) hq
 refine Adw Γ h hd ht hk pg hb hs pp cx sg λκ w hr=>?_
 rcases hr with ⟨_,h2⟩|⟨b,cap,cs,T,fr,e1,e2,e3,e4,e5,e6⟩
 ·omega
 ·refine .inr ⟨b,cap,cs,T,fr,by simpa using e1,e2,e3,e4,by simpa using e5,λi x hx=>?_⟩;obtain ⟨hi,rfl⟩:=hx;have kg:i<l.length+1:=by simpa using hi
  by_cases hl:i<l.length
  ·have hx:rowF e l i ((l++[z])[i] |> e):=⟨hl,by rw[yU hl]⟩
   obtain ⟨a1,a2⟩:=e6 i _ (.inl ⟨hl,hf i _ hx⟩);exact⟨by simpa using a1,a2⟩
  ·have s4:i=l.length:=by omega
   subst s4;obtain ⟨a1,u,hu,db⟩:=e6 l.length sv (.inr ⟨yD _,by rw[tS];rfl⟩);refine⟨by simp,u,?_,db⟩;have:=hv _ _ u hu;simpa using this
end Go.Sy
namespace Go.Sy.YtolnneiipmfgaaaGreatDoor
open Go.Proofs Go.Proofs.Tryz
attribute [local irreducible] Go.Sy.G Go.Sy.DR
set_option maxRecDepth 100000
set_option maxHeartbeats 4000000
def Aaz(dev v:Int)(d:Domain):Sp 359 [Aq d,.ref 1 (Aa dev) 0,.ref 1 (Aa v) 0] (Ab (d.dev==dev&&d.vlan==v)):=cT F359 ntmps359 λF hF=>by
 cases h:(d.dev==dev)
 ·exact gB
 ·exact gB
abbrev A8i(n:Net)(ds:List Domain):Obs:=[(900,.box [.osl 901,.osl 902,.osl 903,.osl 1904,.osl 905,.osl 906,.osl 907,.osl 908]),(901,.row 5 Aw n.devices),(902,.row 7 A7 n.ports),(903,.row 3 B5 n.links),(904,.non),(1904,.row 6 Aq ds),(905,.row 4 A2 n.statics),(906,.row 4 Bh n.floods),(907,.row 5 Ck n.vrfs),(908,.row 5 Cb n.irbs)]
def Oz(n:Net)(hl:n.domains.length<2147483648)(dev v:Int)(hc:¬(0<v∧n.domains.any (λd=>d.dev==dev&&d.vlan==v)=false)):Sq 296 [.ptr 900 0,Aa dev,Aa v] (Avj n) (.tup []) (Avj n):=cT F296 ntmps296 λF hF=>by
 have qc:=L6 n.domains (λd=>d.dev==dev&&d.vlan==v) 359 [] [.ref 1 (Aa dev) 0,.ref 1 (Aa v) 0] rfl (λd _=>⟨⟨_,_,F359⟩,Aaz dev v d⟩) hl;rw[Jm]at qc;generalize n.domains.any (λd=>d.dev==dev&&d.vlan==v)=cl at *;by_cases h1:0<v
 ·have g1:decide (v>0)=true:=zL h1;cases cl with
  |true=>
   refine T ?_;refine Ba 4 1 (Aa dev) E E E ?_;refine Ba 5 1 (Aa v) E E E ?_;refine X (Iy [904] E F358 qc (.cons (.row E E) (.cons (.refl _) .nil)) E E) ?_;exact A4 E .nil [] (Avj n) (λ_ h=>h) E E U
  |false=>exact yB ⟨h1,rfl⟩ hc
 ·have g1:decide (v>0)=false:=zI h1;refine T ?_;exact A4 E .nil [] (Avj n) (λ_ h=>h) E E U
def Mf(n:Net)(hl:n.domains.length<2147483648)(dev v:Int)(hc:0<v∧n.domains.any (λd=>d.dev==dev&&d.vlan==v)=false):Sq 296 [.ptr 900 0,Aa dev,Aa v] (Avj n) (.tup []) (A8i n (n.domains++[(⟨dev,v,0,-1,0,[]⟩:Domain)])):=cT F296 ntmps296 λF hF=>by
 have qc:=L6 n.domains (λd=>d.dev==dev&&d.vlan==v) 359 [] [.ref 1 (Aa dev) 0,.ref 1 (Aa v) 0] rfl (λd _=>⟨⟨_,_,F359⟩,Aaz dev v d⟩) hl;rw[Jm,hc.2]at qc;have g1:decide (v>0)=true:=zL hc.1;refine T ?_;refine Ba 4 1 (Aa dev) E E E ?_;refine Ba 5 1 (Aa v) E E E ?_;refine X (Iy [904] E F358 qc (.cons (.row E E) (.cons (.refl _) .nil)) E E) ?_;refine T ?_;refine Xd (Ai7 Γ.toTy 28 27 (⟨dev,v,0,-1,0,[]⟩:Domain) E E E E E (.row E) E E (λM w u hu=>A0v (⟨dev,v,0,-1,0,[]⟩:Domain) E hu) j_ q_ q_) ?_;refine T ?_;exact A4 E .nil [(1904,28)] (A8i n (n.domains++[(⟨dev,v,0,-1,0,[]⟩:Domain)])) (λ_ h=>h) E E U
def Acs{dev v:Int}{ds:List Domain}(h:¬(0<v∧ds.any (λd=>d.dev==dev&&d.vlan==v)=false)):C1 dev ds v=ds:=by rw[C1,zD h]
def Zc{dev v:Int}{ds:List Domain}(h:0<v∧ds.any (λd=>d.dev==dev&&d.vlan==v)=false):C1 dev ds v=ds++[(⟨dev,v,0,-1,0,[]⟩:Domain)]:=by rw[C1,zE h]
def Abh(dev:Int):∀(l:List Int) (ds:List Domain),(Bk dev ds l).length≤ds.length+l.length
 |[],ds=>by simp[Bk]
 |v::l,ds=>by
  have ih:=Abh dev l (C1 dev ds v);have h1:(C1 dev ds v).length≤ds.length+1:=by
   unfold C1;split<;>simp
  have e:Bk dev ds (v::l)=Bk dev (C1 dev ds v) l:=rfl;rw[e,yM];omega
def Abg(dev:Int)(ds:List Domain)(l:List Int)(v:Int):Bk dev ds (l++[v])=C1 dev (Bk dev ds l) v:=by
 unfold Bk;rw[xN];rfl
end Go.Sy.YtolnneiipmfgaaaGreatDoor
