/- Parts of a proof. -/
import Derived.Test.YticmobkdaneelaaGreatDoorYE15
set_option linter.all false
set_option linter.unusedVariables false
set_option linter.unusedSimpArgs false
set_option linter.deprecated false
namespace Go.Sy.YticmobkdaneelaaGreatDoor
open Go.Proofs Go.Proofs.Tryz
def emptyN:Net:=⟨[],[],[],[],[],[],[],[]⟩
def fitsB(n:Net)(l:LineM)(k:Int):Bool:=l.kind==k&&(Cj l&&Ac n)
def Cn(n:Net)(s:ByteArray):Int:=Bv (λd:Device=>d.name==s) n.devices
def Uq(n:Net)(dev:Int)(s:ByteArray):Int:=Bv (λp:Port=>p.dev==dev&&p.name==s) n.ports
def Adc(n:Net)(dev:Int)(s:ByteArray):Int:=Bv (λv:Vrf=>v.dev==dev&&v.name==s) n.vrfs
def putDevice(n:Net)(l:LineM):Net×Int :=
 if fitsB n l 1=false then (emptyN,2) else if n.devices.any (λd=>d.name==l.dev||d.mac==l.mac)=true then (emptyN,30) else if n.devices.length=8 then (emptyN,3)
 else ({n with devices:=n.devices++[⟨l.row,l.num,l.dev,l.mac,0⟩]},0)
def Cr(dev:Int)(ds:List Domain)(v:Int):List Domain:=if 0<v∧ds.any (λd=>d.dev==dev&&d.vlan==v)=false then ds++[⟨dev,v,0,-1,0,[]⟩] else ds
def Bh(dev:Int)(ds:List Domain)(l:List Int):List Domain:=l.foldl (Cr dev) ds
def putPort(n:Net)(l:LineM):Net×Int :=
 if fitsB n l 2=false then (emptyN,2) else if Cn n l.dev<0 then (emptyN,31) else if 0≤Uq n (Cn n l.dev) l.port then (emptyN,30) else if n.ports.length=40 then (emptyN,3)
 else if 48<(Bh (Cn n l.dev) n.domains (l.vlan::l.tagged)).length then (emptyN,3)
 else ({n with ports:=n.ports++[⟨l.row,Cn n l.dev,l.vlan,l.cost,-1,l.port,l.tagged⟩],domains:=Bh (Cn n l.dev) n.domains (l.vlan::l.tagged)},0)
def endI(n:Net)(dev port:ByteArray):Int:=if Cn n dev<0 then -1 else Uq n (Cn n dev) port
def Hk(l:List Port)(i k:Int):List Port:=l.set i.toNat {nth l i with link:=k}
def putLink(n:Net)(l:LineM):Net×Int :=
 if fitsB n l 3=false then (emptyN,2) else
 let a:=endI n l.dev l.port
 let b:=endI n l.peer l.far
 if a<0∨b<0 then (emptyN,31) else if (nth n.ports a).dev=(nth n.ports b).dev∨0≤(nth n.ports a).link∨0≤(nth n.ports b).link then (emptyN,33) else if n.links.length=20 then (emptyN,3)
 else ({n with ports:=Hk (Hk n.ports a n.links.length) b n.links.length,links:=n.links++[⟨l.row,a,b⟩]},0)
def Alp(n:Net)(d mac:Int):Int:=Bv (λs:Static=>s.domain==d&&s.mac==mac) n.statics
def putStatic(n:Net)(l:LineM):Net×Int :=
 if fitsB n l 4=false then (emptyN,2) else
 let dev:=Cn n l.dev
 let port:=Uq n dev l.port
 let dom:=C2 n dev l.vlan
 if dev<0∨port<0 then (emptyN,31) else if dom<0∨Dl (nth n.ports port) l.vlan=false then (emptyN,32) else if 0≤Alp n dom l.mac then (emptyN,30) else if n.statics.length=64 then (emptyN,3)
 else ({n with statics:=n.statics++[⟨l.row,dom,port,l.mac⟩]},0)
def D2(n:Net)(a:Int):Int:=Bv (λd:Device=>d.vtep==a) n.devices
def O4(n:Net)(dev vni:Int):Int:=Bv (λd:Domain=>d.dev==dev&&(d.vni==vni&&vni != 0)) n.domains
def I5(n:Net)(dev vni:Int):Int:=Bv (λf:Flood=>f.dev==dev&&f.vni==vni) n.floods
def begT(n:Net)(l:LineM)(k:Int):Int×Int:=if fitsB n l k=false then (0,2) else if Cn n l.dev<0 then (0,31) else (Cn n l.dev,0)
def Xu(l:List Device)(i a:Int):List Device:=l.set i.toNat {nth l i with vtep:=a}
def putVtep(n:Net)(l:LineM):Net×Int :=
 if (begT n l 5).2≠0 then (emptyN,(begT n l 5).2) else
 let dev:=(begT n l 5).1
 if (nth n.devices dev).vtep≠0∨0≤D2 n l.addr then (emptyN,30) else ({n with devices:=Xu n.devices dev l.addr},0)
def putVni(n:Net)(l:LineM):Net×Int :=
 if (begT n l 6).2≠0 then (emptyN,(begT n l 6).2) else
 let dev:=(begT n l 6).1
 let at_:=C2 n dev l.vlan
 if (nth n.devices dev).vtep=0 then (emptyN,35) else if at_<0 then (emptyN,32) else if (nth n.domains at_).vni≠0∨0≤O4 n dev l.num then (emptyN,30)
 else ({n with domains:=n.domains.set at_.toNat {nth n.domains at_ with vni:=l.num,row:=l.row} },0)
def putFlood(n:Net)(l:LineM):Net×Int :=
 if (begT n l 7).2≠0 then (emptyN,(begT n l 7).2) else
 let dev:=(begT n l 7).1
 if O4 n dev l.num<0 then (emptyN,31) else if 0≤I5 n dev l.num then (emptyN,30) else if inB l.addrs (nth n.devices dev).vtep=true then (emptyN,36) else if n.floods.length=48 then (emptyN,3)
 else ({n with floods:=n.floods++[⟨l.row,dev,l.num,l.addrs⟩]},0)
def putVrf(n:Net)(l:LineM):Net×Int :=
 if (begT n l 8).2≠0 then (emptyN,(begT n l 8).2) else
 let dev:=(begT n l 8).1
 if 0≤Adc n dev l.name then (emptyN,30) else if n.vrfs.length=16 then (emptyN,3)
 else ({n with vrfs:=n.vrfs++[⟨l.row,dev,l.name,l.imports,l.exports⟩]},0)
def Ss(a bits x:Int):Bool:=decide (0≤bits)&&(decide (bits≤32)&&Dg a bits==Dg x bits)
def clashB(n:Net)(dev a bits:Int)(x:Irb):Bool:=x.addr==a||((nth n.vrfs x.vrf).dev != dev&&(Ss x.addr x.bits a||Ss a bits x.addr))
def putIrb(n:Net)(l:LineM):Net×Int :=
 if (begT n l 9).2≠0 then (emptyN,(begT n l 9).2) else
 let dev:=(begT n l 9).1
 let vrf:=Adc n dev l.name
 let at_:=C2 n dev l.vlan
 if vrf<0 then (emptyN,31) else if at_<0 then (emptyN,32) else if 0≤(nth n.domains at_).irb∨n.irbs.any (clashB n dev l.addr l.bits)=true then (emptyN,37)
 else ({n with domains:=n.domains.set at_.toNat {nth n.domains at_ with irb:=n.irbs.length},irbs:=n.irbs++[⟨l.row,at_,vrf,l.addr,l.bits⟩]},0)
def putT(n:Net)(l:LineM):Net×Int :=
 if l.kind=1 then putDevice n l else if l.kind=2 then putPort n l else if l.kind=3 then putLink n l else if l.kind=4 then putStatic n l else if l.kind=5 then putVtep n l
 else if l.kind=6 then putVni n l else if l.kind=7 then putFlood n l else if l.kind=8 then putVrf n l else if l.kind=9 then putIrb n l else (emptyN,2)
def agreeA(n:Net)(f:Flood)(a:Int):Bool :=
 let dev:=D2 n a
 decide (0≤dev) && (a != 0 && (decide (0≤O4 n dev f.vni) && (decide (0≤I5 n dev f.vni) &&
  (inB (nth n.floods (I5 n dev f.vni)).addrs (nth n.devices f.dev).vtep && f.addrs.all λ b=>b == a || inB (nth n.floods (I5 n dev f.vni)).addrs b))))
def agreesB(n:Net)(f:Flood):Bool:=decide (0≤O4 n f.dev f.vni)&&f.addrs.all (agreeA n f)
def peersT(n:Net)(d:Domain):List Int:=if d.vni≠0∧0≤I5 n d.dev d.vni then (nth n.floods (I5 n d.dev d.vni)).addrs.map (λa=>O4 n (D2 n a) d.vni) else []
def By(n:Net):Net:={n with domains:=n.domains.map λd=>{d with peers:=peersT n d} }
def meshNT(n:Net):Net×Int×Int :=
 if Ac n=false then (emptyN,0,2) else match n.floods.find? (λf=>!(agreesB n f)) with
 |some f=>(emptyN,f.row,36)
 |none=>if Ac (By n)=false then (emptyN,0,36) else (By n,0,0)
def Dp(f:List Int):Prop:=∀i (h:i<f.length),0≤f[i]∧f[i]≤i
def Amt:Nat→List Int→Int→List Int×Int
 |0,f,i=>(f,i)
 |k+1,f,i=>if nth f i=i then (f,i) else Amt k (f.set i.toNat (nth f (nth f i))) (nth f (nth f i))
def Ly(f:List Int)(i:Int):List Int×Int:=Amt (i.toNat+1) f i
def W8(f:List Int)(a b:Int):List Int×Bool :=
 let x:=Ly f a
 let y:=Ly x.1 b
 (y.1.set (max x.2 y.2).toNat (min x.2 y.2),x.2 != y.2)
def Oe(k:Nat):List Int:=(List.range k).map λi:Nat=>(i:Int)
def D3(n:Net)(f:List Int)(i:Int)(v:Int):List Int:=if (linkDomT n i v).2=true then (W8 f (C2 n (nth n.ports i).dev v) (linkDomT n i v).1).1 else f
def Jg(n:Net)(f:List Int)(i:Nat):List Int:=((nth n.ports i).tagged++[(nth n.ports i).native]).foldl (λf v=>D3 n f i v) f
def V4(n:Net)(f:List Int):List Int:=(List.range n.ports.length).foldl (Jg n) f
def Ahl:Int→List Int→Int
 |m,[]=>m
 |m,x::l=>Ahl (min m x) l
def Aob(l:List Int):Int:=Ahl (nth l 0) (l.drop 1)
def S1(n:Net):List Int→Nat→List Domain→Int×Bool
 |_,_,[]=>(0,false)
 |f,i,d::r=>if d.peers=[] then S1 n f (i+1) r else
  let x:=W8 f i ((n.domains.length:Int)+min (i:Int) (Aob d.peers))
  if x.2=false then (d.row,true) else S1 n x.1 (i+1) r
def loopT(n:Net):Int×Bool:=if Ac n=false then (0,false) else S1 n (V4 n (Oe (2*n.domains.length))) 0 n.domains
def finishT(n:Net):Net×Int×Int:=if (meshNT n).2.2≠0 then meshNT n else if (loopT (meshNT n).1).2=true then (emptyN,(loopT (meshNT n).1).1,38) else ((meshNT n).1,0,0)
def Bt:Net→List LineM→Net×Int×Int
 |n,[]=>finishT n
 |n,l::r=>if (putT n l).2≠0 then (emptyN,l.row,(putT n l).2) else Bt (putT n l).1 r
def Dc(l:List LineM):Net×Int×Int:=Bt emptyN l
def netTextT(b:List UInt8):Net×Int×Int:=if (textT b).2.2≠0 then (emptyN,(textT b).2.1,(textT b).2.2) else Dc (textT b).1
def Jp{α:Type}[Inhabited α](l:List α)(x:α){i:Int}(h:i.toNat<l.length):nth (l++[x]) i=nth l i:=by
 rw[nth,nth,xR h]
def H9{α:Type}[Inhabited α](l:List α)(x:α):nth (l++[x]) (l.length:Int)=x:=by
 rw[nth,zU,wG (yG _),tQ];rfl
def place_iff{i:Int}{k:Nat}:Ah i k=true↔0≤i∧i<k:=by simp[Ah]
def Io{α:Type}[Inhabited α](l:List α)(x:α){i:Int}{j:Nat}(h:i.toNat≠j):nth (l.set j x) i=nth l i:=by
 rw[nth,nth,List.getElem?_set_ne (λe=>h e.symm)]
def Afe{α:Type}[Inhabited α](l:List α)(x:α){j:Nat}(h:j<l.length):nth (l.set j x) (j:Int)=x:=by
 rw[nth,zU,vV h];rfl
def My{α:Type}[Inhabited α](l:List α){i:Int}{j:Nat}(h:i.toNat=j):nth l i=nth l (j:Int):=by
 rw[nth,nth,h,zU]
def Ow{α:Type}[Inhabited α](l:List α)(i:Nat)(h:i<l.length):l[i]=nth l (i:Int):=(Ai (i:=(i:Int)) h).symm
structure NetR(n:Net):Prop where
 few:Aga n=true
 bare:∀i:Nat,i<n.domains.length→O1 n i (nth n.domains i)=true
 peers:∀i:Nat,i<n.domains.length→Qa n i (nth n.domains i)=true
 port:∀i:Nat,i<n.ports.length→Jd n i (nth n.ports i)=true
 link:∀i:Nat,i<n.links.length→Tp n i (nth n.links i)=true
 static:∀i:Nat,i<n.statics.length→Lb n (nth n.statics i)=true
 flood:∀i:Nat,i<n.floods.length→M8 n (nth n.floods i)=true
 vrf:∀i:Nat,i<n.vrfs.length→Amh n (nth n.vrfs i)=true
 irb:∀i:Nat,i<n.irbs.length→Afu n i (nth n.irbs i)=true
def Agz{α:Type}[Inhabited α]{p:Nat→α→Bool}{l:List α}:Ik p l=true↔∀i:Nat,i<l.length→p i (nth l i)=true:=by
 rw[allB_iff];constructor
 ·intro h i hi;rw[←Ow l i hi];exact h i hi
 ·intro h i hi;rw[Ow l i hi];exact h i hi
def netR_iff{n:Net}:Ac n=true↔NetR n:=by
 simp only[Ac,zE,Agz];constructor
 ·rintro ⟨⟨⟨⟨⟨⟨⟨⟨a,b⟩,c⟩,d⟩,e⟩,f⟩,g⟩,h⟩,i⟩;exact⟨a,b,c,d,e,f,g,h,i⟩
 ·rintro ⟨a,b,c,d,e,f,g,h,i⟩;exact⟨⟨⟨⟨⟨⟨⟨⟨a,b⟩,c⟩,d⟩,e⟩,f⟩,g⟩,h⟩,i⟩
def peerB_iff{n:Net}{i:Nat}{d:Domain}{k:Int}:Qq n i d k=true↔Ah k n.domains.length=true∧k≠i∧Ah (nth n.domains k).dev n.devices.length=true∧(nth n.domains k).dev≠d.dev∧(nth n.domains k).vni=d.vni∧d.vni≠0∧L7 n (nth n.domains k)=true∧L7 n d=true∧inB (nth n.domains k).peers i=true:=by
 simp only[Qq,zE,xG,yJ,ne_eq];constructor
 ·rintro ⟨⟨⟨⟨⟨⟨⟨⟨a,b⟩,c⟩,d⟩,e⟩,f⟩,g⟩,h⟩,i⟩;exact⟨a,b,c,d,e,f,g,h,i⟩
 ·rintro ⟨a,b,c,d,e,f,g,h,i⟩;exact⟨⟨⟨⟨⟨⟨⟨⟨a,b⟩,c⟩,d⟩,e⟩,f⟩,g⟩,h⟩,i⟩
def Lo{n m:Net}{i:Nat}{d e:Domain}(hd:e.peers=d.peers)(h:Qa n i d=true)(hp:∀k,Qq n i d k=true→Qq m i e k=true):Qa m i e=true:=by
 rw[Qa,hd];rw[Qa]at h;rw[Agz]at h⊢;intro j hj;have:=h j hj;rw[zE]at this⊢;exact⟨hp _ this.1,this.2⟩
def bareB_iff{n:Net}{i:Nat}{d:Domain}:O1 n i d=true↔Ah d.dev n.devices.length=true∧(1≤d.vlan∧d.vlan≤4094)∧(0≤d.vni∧d.vni≤16777215)∧(d.irb=-1∨Ah d.irb n.irbs.length=true∧(nth n.irbs d.irb).domain=i)∧C2 n d.dev d.vlan=i:=by
 simp only[O1,zE,yM,zJ,yJ];constructor
 ·rintro ⟨⟨⟨⟨⟨⟨a,b⟩,c⟩,d⟩,e⟩,f⟩,g⟩;exact⟨a,⟨b,c⟩,⟨d,e⟩,f,g⟩
 ·rintro ⟨a,⟨b,c⟩,⟨d,e⟩,f,g⟩;exact⟨⟨⟨⟨⟨⟨a,b⟩,c⟩,d⟩,e⟩,f⟩,g⟩
def portB_iff{n:Net}{i:Nat}{p:Port}:Jd n i p=true↔Ah p.dev n.devices.length=true∧(0≤p.native∧p.native≤4094)∧Ug p.tagged 4094=true∧inB p.tagged p.native=false∧¬(p.native=0∧p.tagged=[])∧(∀v∈p.tagged,0≤C2 n p.dev v) ∧
  (0<p.native→0≤C2 n p.dev p.native)∧(p.link=-1∨Ah p.link n.links.length=true∧((nth n.links p.link).a=i∨(nth n.links p.link).b=i)):=by
 have e:Ik (λ_ v=>decide (0≤C2 n p.dev v)) p.tagged=true↔∀v∈p.tagged,0≤C2 n p.dev v:=by
  rw[allB_iff];simp only[zJ];constructor
  ·intro h v hv;obtain ⟨j,hj,rfl⟩:=yY.1 hv;exact h j hj
  ·intro h j hj;exact h _ (zI hj)
 simp only[Jd,Eh];simp only[zE,yM,e,yW,tC,Bool.and_eq_false_imp,zJ,zX,yJ,Ug,wW];constructor
 ·rintro ⟨⟨⟨⟨⟨⟨⟨⟨a,b⟩,c⟩,d⟩,e⟩,f⟩,g⟩,h⟩,i⟩;refine⟨a,⟨b,c⟩,d,e,λx=>f x.1 x.2,g,λx=>?_,i⟩;simpa using h x
 ·rintro ⟨a,⟨b,c⟩,d,e,f,g,h,i⟩;refine⟨⟨⟨⟨⟨⟨⟨⟨a,b⟩,c⟩,d⟩,e⟩,λx y=>f ⟨x,y⟩⟩,g⟩,λx=>?_⟩,i⟩;simpa using h x
def linkB_iff{n:Net}{i:Nat}{l:Link}:Tp n i l=true↔Ah l.a n.ports.length=true∧Ah l.b n.ports.length=true∧(nth n.ports l.a).dev≠(nth n.ports l.b).dev∧(nth n.ports l.a).link=i∧(nth n.ports l.b).link=i:=by
 simp only[Tp,zE,xG,yJ,ne_eq,and_assoc]
def staticB_iff{n:Net}{s:Static}:Lb n s=true↔Ah s.domain n.domains.length=true∧Ah s.port n.ports.length=true∧(nth n.ports s.port).dev=(nth n.domains s.domain).dev∧Dl (nth n.ports s.port) (nth n.domains s.domain).vlan=true:=by
 simp only[Lb,zE,yJ,and_assoc]
def irbB_iff{n:Net}{i:Nat}{x:Irb}:Afu n i x=true↔Ah x.domain n.domains.length=true∧Ah x.vrf n.vrfs.length=true∧(nth n.domains x.domain).dev=(nth n.vrfs x.vrf).dev∧(nth n.domains x.domain).irb=i∧1≤x.bits∧x.bits≤30:=by
 simp only[Afu,zE,yJ,zJ,and_assoc]
def floodB_iff{n:Net}{f:Flood}:M8 n f=true↔Ah f.dev n.devices.length=true∧f.addrs.length≤16:=by simp[M8]
def vrfB_iff{n:Net}{v:Vrf}:Amh n v=true↔Ah v.dev n.devices.length=true∧Ug v.imports 65535=true∧Ug v.exports 65535=true:=by simp[Amh,and_assoc]
def few_iff{n:Net}:Aga n=true↔n.devices.length≤8∧n.ports.length≤40∧n.links.length≤20∧n.domains.length≤48∧n.statics.length≤64∧n.floods.length≤48∧n.vrfs.length≤16∧n.irbs.length≤48:=by
 simp[Aga,and_assoc]
def H8{i:Int}{k m:Nat}(h:Ah i k=true)(hkm:k≤m):Ah i m=true:=by
 rw[place_iff]at h⊢;omega
def Alw{n:Net}(h:NetR n)(x:Device)(hx:n.devices.length<8):NetR {n with devices:=n.devices++[x]}:=by
 have hp:∀{i:Int},Ah i n.devices.length=true→Ah i (n.devices++[x]).length=true:=λh=>H8 h y_
 have hv:∀d:Domain,Ah d.dev n.devices.length=true→L7 {n with devices:=n.devices++[x]} d=L7 n d:=λd hd=>by
  have:=place_iff.1 hd;simp only[L7];rw[Jp _ _ q_]
 refine⟨?_,λi hi=>?_,λi hi=>?_,λi hi=>?_,h.link,h.static,λi hi=>?_,λi hi=>?_,h.irb⟩
 ·have:=few_iff.1 h.few;exact few_iff.2 (by simp only[zW,yC];omega)
 ·have:=bareB_iff.1 (h.bare i hi);exact bareB_iff.2 ⟨hp this.1,this.2⟩
 ·have hb:=(bareB_iff.1 (h.bare i hi)).1;refine Lo E (h.peers i hi) λk hk=>?_
  obtain ⟨a,b,c,d,e,f,g,q,r⟩:=peerB_iff.1 hk;exact peerB_iff.2 ⟨a,b,hp c,d,e,f,(hv _ c).trans g,(hv _ hb).trans q,r⟩
 ·have:=portB_iff.1 (h.port i hi);exact portB_iff.2 ⟨hp this.1,this.2⟩
 ·have:=floodB_iff.1 (h.flood i hi);exact floodB_iff.2 ⟨hp this.1,this.2⟩
 ·have:=vrfB_iff.1 (h.vrf i hi);exact vrfB_iff.2 ⟨hp this.1,this.2⟩
def Aki{n:Net}(h:NetR n)(x:Static)(hx:Lb n x=true)(hl:n.statics.length<64):NetR {n with statics:=n.statics++[x]}:=by
 refine⟨?_,h.bare,h.peers,h.port,h.link,λi hi=>?_,h.flood,h.vrf,h.irb⟩
 ·have:=few_iff.1 h.few;exact few_iff.2 (by simp only[zW,yC];omega)
 ·simp only[zW,yC]at hi;by_cases e:i<n.statics.length
  ·rw[show nth (n.statics++[x]) (i:Int)=nth n.statics (i:Int) from Jp _ _ e];exact h.static i e
  ·rw[show i=n.statics.length by omega,H9];exact hx
def Apn{n:Net}(h:NetR n)(x:Flood)(hx:M8 n x=true)(hl:n.floods.length<48):NetR {n with floods:=n.floods++[x]}:=by
 refine⟨?_,h.bare,h.peers,h.port,h.link,h.static,λi hi=>?_,h.vrf,h.irb⟩
 ·have:=few_iff.1 h.few;exact few_iff.2 (by simp only[zW,yC];omega)
 ·simp only[zW,yC]at hi;by_cases e:i<n.floods.length
  ·rw[show nth (n.floods++[x]) (i:Int)=nth n.floods (i:Int) from Jp _ _ e];exact h.flood i e
  ·rw[show i=n.floods.length by omega,H9];exact hx
def Awd{n:Net}(h:NetR n)(x:Vrf)(hx:Amh n x=true)(hl:n.vrfs.length<16):NetR {n with vrfs:=n.vrfs++[x]}:=by
 refine⟨?_,h.bare,h.peers,h.port,h.link,h.static,h.flood,λi hi=>?_,λi hi=>?_⟩
 ·have:=few_iff.1 h.few;exact few_iff.2 (by simp only[zW,yC];omega)
 ·simp only[zW,yC]at hi;by_cases e:i<n.vrfs.length
  ·rw[show nth (n.vrfs++[x]) (i:Int)=nth n.vrfs (i:Int) from Jp _ _ e];exact h.vrf i e
  ·rw[show i=n.vrfs.length by omega,H9];exact hx
 ·obtain ⟨a,b,c,d,e⟩:=irbB_iff.1 (h.irb i hi);have hb:=place_iff.1 b;exact irbB_iff.2 ⟨a,H8 b y_,by rw[show nth (n.vrfs++[x]) (nth n.irbs (i:Int)).vrf=nth n.vrfs (nth n.irbs (i:Int)).vrf from Jp _ _ q_];exact c,d,e⟩
def Aqv{n:Net}(h:NetR n)(j:Nat)(a:Int)(ha:a≠0):NetR {n with devices:=n.devices.set j {nth n.devices j with vtep:=a} }:=by
 have hp:(n.devices.set j {nth n.devices j with vtep:=a}).length=n.devices.length:=yR;have hv:∀d:Domain,L7 n d=true→L7 {n with devices:=n.devices.set j {nth n.devices j with vtep:=a} } d=true:=λd hd=>by
  simp only[L7,xG,ne_eq]at hd⊢;by_cases e:d.dev.toNat=j
  ·by_cases hl:j<n.devices.length
   ·have:nth (n.devices.set j {nth n.devices j with vtep:=a}) d.dev={nth n.devices j with vtep:=a}:=by
     rw[nth,e,vV hl];rfl
    rw[this];exact ha
   ·rw[tD q_];exact hd
  ·rw[Io _ _ e];exact hd
 refine⟨?_,λi hi=>?_,λi hi=>?_,λi hi=>?_,h.link,h.static,λi hi=>?_,λi hi=>?_,h.irb⟩
 ·have:=few_iff.1 h.few;exact few_iff.2 (by rw[hp];exact this)
 ·have:=bareB_iff.1 (h.bare i hi);exact bareB_iff.2 ⟨by rw[hp];exact this.1,this.2⟩
 ·refine Lo E (h.peers i hi) λk hk=>?_
  obtain ⟨a,b,c,d,e,f,g,q,r⟩:=peerB_iff.1 hk;exact peerB_iff.2 ⟨a,b,by rw[hp];exact c,d,e,f,hv _ g,hv _ q,r⟩
 ·have:=portB_iff.1 (h.port i hi);exact portB_iff.2 ⟨by rw[hp];exact this.1,this.2⟩
 ·have:=floodB_iff.1 (h.flood i hi);exact floodB_iff.2 ⟨by rw[hp];exact this.1,this.2⟩
 ·have:=vrfB_iff.1 (h.vrf i hi);exact vrfB_iff.2 ⟨by rw[hp];exact this.1,this.2⟩
def A2z{α:Type}(p:α→Bool)(l:List α)(j:Nat)(x:α)(h:∀y,l[j]? = some y→p x=p y):Bv p (l.set j x)=Bv p l:=by
 have e:(l.set j x).findIdx? p=l.findIdx? p:=by
  induction l generalizing j with
  |nil=>rfl
  |cons z l ih=>
   cases j with
   |zero=>
    rw[uD,List.findIdx?_cons,List.findIdx?_cons,h z rfl]
   |succ j=>
    rw[tM,List.findIdx?_cons,List.findIdx?_cons,ih j (λy hy=>h y (by simpa using hy))]
 rw[Bv,Bv,e]
def Ap1{n:Net}{j:Nat}(hj:j<n.domains.length)(x:Domain)(h1:x.dev=(nth n.domains j).dev)(h2:x.vlan=(nth n.domains j).vlan)(m:Net)(hm:m.domains=n.domains.set j x)(dev vlan:Int):C2 m dev vlan=C2 n dev vlan:=by
 rw[C2,hm,A2z _ _ _ _ (λy hy=>?_)]
 ·rfl
 ·rw[zT hj]at hy;simp only[Option.some.injEq]at hy;rw[Ow _ _ hj]at hy;rw[←hy,h1,h2]
def Jz{α:Type}[Inhabited α](l:List α)(x:α)(j:Nat)(i:Int)(f:α→Int)(hf:f x=f (nth l j))(hj:j<l.length):f (nth (l.set j x) i)=f (nth l i):=by
 by_cases e:i.toNat=j
 ·have:nth (l.set j x) i=x:=by rw[nth,e,vV hj];rfl
  have h2:nth l i=nth l (j:Int):=My _ e;rw[this,h2,hf]
 ·rw[Io _ _ e]
def Awe{n:Net}(h:NetR n)(j:Nat)(hj:j<n.domains.length)(h0:(nth n.domains j).vni=0)(v r:Int)(hv:0≤v∧v≤16777215):NetR {n with domains:=n.domains.set j {nth n.domains j with vni:=v,row:=r} }:=by
 have hl:(n.domains.set j {nth n.domains j with vni:=v,row:=r}).length=n.domains.length:=yR;have jm:=Ap1 (n:=n) hj {nth n.domains j with vni:=v,row:=r} rfl rfl {n with domains:=n.domains.set j {nth n.domains j with vni:=v,row:=r} } rfl;have gb:=λi=>Jz n.domains {nth n.domains j with vni:=v,row:=r} j i Domain.dev rfl hj
 have iu:=λi=>Jz n.domains {nth n.domains j with vni:=v,row:=r} j i Domain.vlan rfl hj
 have xe:=λi=>Jz n.domains {nth n.domains j with vni:=v,row:=r} j i Domain.irb rfl hj
 have ag:∀i:Nat,i≠j→nth (n.domains.set j {nth n.domains j with vni:=v,row:=r}) (i:Int)=nth n.domains (i:Int):=λi hi=>Io _ _ (by rw[zU];exact hi)
 refine⟨?_,λi hi=>?_,λi hi=>?_,λi hi=>?_,h.link,λi hi=>?_,h.flood,h.vrf,λi hi=>?_⟩
 ·have:=few_iff.1 h.few;exact few_iff.2 (by rw[hl];exact this)
 ·rw[hl]at hi;obtain ⟨a,b,c,d,e⟩:=bareB_iff.1 (h.bare i hi);refine bareB_iff.2 ⟨by rw[gb];exact a,by rw[iu];exact b,?_,by rw[xe];exact d,by rw[jm,gb,iu];exact e⟩;by_cases ij:i=j
  ·subst ij;show 0≤(nth (n.domains.set i {nth n.domains i with vni:=v,row:=r}) (i:Int)).vni∧(nth (n.domains.set i {nth n.domains i with vni:=v,row:=r}) (i:Int)).vni≤_;rw[Afe _ _ hj];exact hv
  ·rw[ag i ij];exact c
 ·rw[hl]at hi;have s9:=h.peers i hi;by_cases ij:i=j
  ·subst ij;rw[Afe _ _ hj];have:(nth n.domains (i:Int)).peers=[]:=by
    cases hp:(nth n.domains (i:Int)).peers with
    |nil=>rfl
    |cons k r=>
     rw[Qa,hp,Agz]at s9;have:=s9 0 y_;rw[zE]at this;exact zY h0 (peerB_iff.1 this.1).2.2.2.2.2.1
   rw[Qa];dsimp only;rw[this];rfl
  ·rw[ag i ij];refine Lo E s9 λk hk=>?_
   obtain ⟨a,b,c,d,e,f,g,q,rr⟩:=peerB_iff.1 hk;have hk:=place_iff.1 a;have kj:k.toNat≠j:=λkj=>by
    have:nth n.domains k=nth n.domains (j:Int):=My _ kj;rw[this,h0]at e;exact f e.symm
   have jn:nth (n.domains.set j {nth n.domains j with vni:=v,row:=r}) k=nth n.domains k:=Io _ _ kj;exact peerB_iff.2 ⟨by rw[hl];exact a,b,by rw[jn];exact c,by rw[jn];exact d,by rw[jn];exact e,f,by rw[jn];exact g,q,by rw[jn];exact rr⟩
 ·obtain ⟨a,b,c,d,e,f,g,q⟩:=portB_iff.1 (h.port i hi);exact portB_iff.2 ⟨a,b,c,d,e,λv hv=>by rw[jm];exact f v hv,λhv=>by rw[jm];exact g hv,q⟩
 ·obtain ⟨a,b,c,d⟩:=staticB_iff.1 (h.static i hi);exact staticB_iff.2 ⟨by rw[hl];exact a,b,by rw[gb];exact c,by rw[iu];exact d⟩
 ·obtain ⟨a,b,c,d,e⟩:=irbB_iff.1 (h.irb i hi);exact irbB_iff.2 ⟨by rw[hl];exact a,b,by rw[gb];exact c,by rw[xe];exact d,e⟩
def Ayn{n:Net}(h:NetR n)(j:Nat)(hj:j<n.domains.length)(h0:(nth n.domains j).irb<0)(x:Irb)(hx:x.domain=j)(hv:Ah x.vrf n.vrfs.length=true)(hd:(nth n.domains j).dev=(nth n.vrfs x.vrf).dev)(hb:1≤x.bits∧x.bits≤30):NetR {n with domains:=n.domains.set j {nth n.domains j with irb:=n.irbs.length},irbs:=n.irbs++[x]}:=by
 have hl:(n.domains.set j {nth n.domains j with irb:=n.irbs.length}).length=n.domains.length:=yR;have jm:=Ap1 (n:=n) hj {nth n.domains j with irb:=n.irbs.length} rfl rfl {n with domains:=n.domains.set j {nth n.domains j with irb:=n.irbs.length},irbs:=n.irbs++[x]} rfl;have gb:=λi=>Jz n.domains {nth n.domains j with irb:=n.irbs.length} j i Domain.dev rfl hj
 have iu:=λi=>Jz n.domains {nth n.domains j with irb:=n.irbs.length} j i Domain.vlan rfl hj
 have vo:=λi=>Jz n.domains {nth n.domains j with irb:=n.irbs.length} j i Domain.vni rfl hj
 have gp:∀i,(nth (n.domains.set j {nth n.domains j with irb:=n.irbs.length}) i).peers=(nth n.domains i).peers:=λi=>by
  by_cases e:i.toNat=j
  ·have:nth (n.domains.set j {nth n.domains j with irb:=n.irbs.length}) i={nth n.domains j with irb:=n.irbs.length}:=by rw[nth,e,vV hj];rfl
   have h2:nth n.domains i=nth n.domains (j:Int):=My _ e;rw[this,h2]
  ·rw[Io _ _ e]
 have ag:∀i:Nat,i≠j→nth (n.domains.set j {nth n.domains j with irb:=n.irbs.length}) (i:Int)=nth n.domains (i:Int):=λi hi=>Io _ _ (by rw[zU];exact hi)
 have o6:nth (n.domains.set j {nth n.domains j with irb:=n.irbs.length}) (j:Int)={nth n.domains j with irb:=n.irbs.length}:=Afe _ _ hj;have m5:n.irbs.length<48:=by
  have hf:=few_iff.1 h.few;refine yV ?_ hf.2.2.2.1;have inj:∀a b:Nat,a<n.irbs.length→b<n.irbs.length→(nth n.irbs (a:Int)).domain=(nth n.irbs (b:Int)).domain→a=b:=λa b ha hb e=>by
   have h1:=(irbB_iff.1 (h.irb a ha)).2.2.2.1;have h2:=(irbB_iff.1 (h.irb b hb)).2.2.2.1;rw[e,h2]at h1;omega
  have bc:((List.range n.irbs.length).map λa:Nat=>(nth n.irbs (a:Int)).domain.toNat).length≤((List.range n.domains.length).erase j).length:=by
   refine List.Nodup.length_le_of_subset ?_ ?_
   ·rw[List.nodup_iff_pairwise_ne,List.pairwise_map];refine List.Pairwise.imp_of_mem ?_ List.pairwise_lt_range;intro a b ha hb hab e;have ha:=xA.1 ha;have hb:=xA.1 hb;have p1:=place_iff.1 (irbB_iff.1 (h.irb a ha)).1;have p2:=place_iff.1 (irbB_iff.1 (h.irb b hb)).1;have:=inj a b ha hb q_;omega
   ·intro y hy;obtain ⟨a,ha,rfl⟩:=yS.1 hy;have ha:=xA.1 ha;have p1:=place_iff.1 (irbB_iff.1 (h.irb a ha)).1;have p2:=(irbB_iff.1 (h.irb a ha)).2.2.2.1;rw[List.mem_erase_of_ne]
    ·exact xA.2 q_
    ·intro e;have:nth n.domains (nth n.irbs (a:Int)).domain=nth n.domains (j:Int):=My _ e;rw[this]at p2;omega
  rw[xF,tU,List.length_erase_of_mem (xA.2 hj),tU]at bc;omega
 refine⟨?_,λi hi=>?_,λi hi=>?_,λi hi=>?_,h.link,λi hi=>?_,h.flood,h.vrf,λi hi=>?_⟩
 ·have:=few_iff.1 h.few;exact few_iff.2 (by rw[hl];simp only[zW,yC];omega)
 ·rw[hl]at hi;obtain ⟨a,b,c,d,e⟩:=bareB_iff.1 (h.bare i hi);refine bareB_iff.2 ⟨by rw[gb];exact a,by rw[iu];exact b,by rw[vo];exact c,?_,by rw[jm,gb,iu];exact e⟩;by_cases ij:i=j
  ·subst ij;rw[o6];refine .inr ⟨place_iff.2 (by simp;omega),?_⟩;show (nth (n.irbs++[x]) (n.irbs.length:Int)).domain=_;rw[H9,hx]
  ·rw[ag i ij];rcases d with d|⟨d1,d2⟩
   ·exact .inl d
   ·have:=place_iff.1 d1;exact .inr ⟨H8 d1 y_,by rw[show nth (n.irbs++[x]) (nth n.domains (i:Int)).irb=nth n.irbs (nth n.domains (i:Int)).irb from Jp _ _ q_];exact d2⟩
 ·rw[hl]at hi;refine Lo (gp _) (h.peers i hi) λk hk=>?_
  obtain ⟨a,b,c,d,e,f,g,q,r⟩:=peerB_iff.1 hk;have hvt:∀k,L7 {n with domains:=n.domains.set j {nth n.domains j with irb:=n.irbs.length},irbs:=n.irbs++[x]} (nth (n.domains.set j {nth n.domains j with irb:=n.irbs.length}) k)=L7 n (nth n.domains k):=λk=>by
   simp only[L7];rw[gb]
  exact peerB_iff.2 ⟨by rw[hl];exact a,b,by rw[gb];exact c,by rw[gb,gb];exact d,by rw[vo,vo];exact e,by rw[vo];exact f,(hvt k).trans g,(hvt i).trans q,by rw[gp];exact r⟩
 ·obtain ⟨a,b,c,d,e,f,g,q⟩:=portB_iff.1 (h.port i hi);exact portB_iff.2 ⟨a,b,c,d,e,λv hv=>by rw[jm];exact f v hv,λhv=>by rw[jm];exact g hv,q⟩
 ·obtain ⟨a,b,c,d⟩:=staticB_iff.1 (h.static i hi);exact staticB_iff.2 ⟨by rw[hl];exact a,b,by rw[gb];exact c,by rw[iu];exact d⟩
 ·simp only[zW,yC]at hi;by_cases e:i<n.irbs.length
  ·rw[show nth (n.irbs++[x]) (i:Int)=nth n.irbs (i:Int) from Jp _ _ e];obtain ⟨a,b,c,d,e⟩:=irbB_iff.1 (h.irb i e);have pa:=place_iff.1 a;have hdj:(nth n.irbs (i:Int)).domain.toNat≠j:=λe=>by
    have:nth n.domains (nth n.irbs (i:Int)).domain=nth n.domains (j:Int):=My _ e;rw[this]at d;omega
   have hk:nth (n.domains.set j {nth n.domains j with irb:=n.irbs.length}) (nth n.irbs (i:Int)).domain=nth n.domains (nth n.irbs (i:Int)).domain:=Io _ _ hdj;exact irbB_iff.2 ⟨by rw[hl];exact a,b,by rw[hk];exact c,by rw[hk];exact d,e⟩
  ·rw[show i=n.irbs.length by omega,H9];refine irbB_iff.2 ⟨by rw[hl];exact place_iff.2 q_,hv,?_,?_,hb⟩
   ·rw[hx,o6];exact hd
   ·rw[hx,o6]
def idxI_nonneg{α:Type}{p:α→Bool}{l:List α}:0≤Bv p l↔l.any p=true:=by
 rw[wK];constructor
 ·intro h;cases hf:l.findIdx? p with
  |none=>simp only[Bv,hf]at h;omega
  |some i=>
   rw[wF]at hf;obtain ⟨h1,h2,_⟩:=hf;exact⟨l[i],zI h1,h2⟩
 ·rintro ⟨x,hx,hp⟩;cases hf:l.findIdx? p with
  |none=>
   rw[List.findIdx?_eq_none_iff]at hf;rw[hf x hx]at hp;cases hp
  |some i=>simp only[Bv,hf];omega
def H1{α:Type}[Inhabited α]{p:α→Bool}{l:List α}(h:0≤Bv p l):(Bv p l).toNat<l.length∧p (nth l (Bv p l))=true:=by
 cases hf:l.findIdx? p with
 |none=>simp only[Bv,hf]at h;omega
 |some i=>
  have e:Bv p l=i:=by simp only[Bv,hf]
  rw[wF]at hf;obtain ⟨h1,h2,_⟩:=hf;rw[e,zU];refine⟨h1,?_⟩;rw[←Ow l i h1];exact h2
def Ao7{α:Type}(p:α→Bool)(l e:List α)(h:0≤Bv p l):Bv p (l++e)=Bv p l:=by
 cases hf:l.findIdx? p with
 |none=>simp only[Bv,hf]at h;omega
 |some i=>
  have:(l++e).findIdx? p=some i:=by rw[List.findIdx?_append,hf];rfl
  simp only[Bv,hf,this]
def Ai9{α:Type}(p:α→Bool)(l:List α)(x:α)(h:l.any p=false)(hx:p x=true):Bv p (l++[x])=l.length:=by
 refine C7 (j:=l.length) y_ (λi hi br=>?_) ?_
 ·rw[yT br];rw[wM]at h;have:=h l[i] (zI br);simpa using this
 ·rw[xP (yG _)];simpa using hx
def Als{n:Net}(h:NetR n)(dev v:Int)(hd:Ah dev n.devices.length=true)(hv:1≤v∧v≤4094)(ha:n.domains.any (λd=>d.dev==dev&&d.vlan==v)=false)(m:Net)(hm:m={n with domains:=n.domains++[⟨dev,v,0,-1,0,[]⟩]})(hl:n.domains.length<48):NetR m:=by
 subst hm;have hn:∀{i:Int},i.toNat<n.domains.length→nth (n.domains++[(⟨dev,v,0,-1,0,[]⟩:Domain)]) i=nth n.domains i:=λh=>Jp _ _ h
 have y3:∀{i:Nat},i<n.domains.length→nth (n.domains++[(⟨dev,v,0,-1,0,[]⟩:Domain)]) (i:Int)=nth n.domains (i:Int):=λh=>Jp _ _ h
 have vp:∀a b,0≤C2 n a b→C2 {n with domains:=n.domains++[⟨dev,v,0,-1,0,[]⟩]} a b=C2 n a b:=λa b h=>Ao7 _ _ _ h
 refine⟨?_,λi hi=>?_,λi hi=>?_,λi hi=>?_,h.link,λi hi=>?_,h.flood,h.vrf,λi hi=>?_⟩
 ·have:=few_iff.1 h.few;exact few_iff.2 (by simp only[zW,yC];omega)
 ·simp only[zW,yC]at hi;by_cases e:i<n.domains.length
  ·rw[y3 e];obtain ⟨a,b,c,d,f⟩:=bareB_iff.1 (h.bare i e);exact bareB_iff.2 ⟨a,b,c,d,by rw[vp _ _ q_];exact f⟩
  ·rw[show i=n.domains.length by omega,H9];refine bareB_iff.2 ⟨hd,hv,⟨xU _,by show (0:Int)≤_;decide⟩,.inl E,?_⟩;exact Ai9 _ _ _ ha y_
 ·simp only[zW,yC]at hi;by_cases e:i<n.domains.length
  ·rw[y3 e];refine Lo E (h.peers i e) λk hk=>?_
   obtain ⟨a,b,c,d,f,g,o,q,r⟩:=peerB_iff.1 hk;have ha:=place_iff.1 a;exact peerB_iff.2 ⟨H8 a y_,b,by rw[hn q_];exact c,by rw[hn q_];exact d,by rw[hn q_];exact f,g,by rw[hn q_];exact o,q,by rw[hn q_];exact r⟩
  ·rw[show i=n.domains.length by omega,H9];rfl
 ·obtain ⟨a,b,c,d,e,f,g,q⟩:=portB_iff.1 (h.port i hi);exact portB_iff.2 ⟨a,b,c,d,e,λv hv=>by rw[vp _ _ (f v hv)];exact f v hv,λhv=>by rw[vp _ _ (g hv)];exact g hv,q⟩
 ·obtain ⟨a,b,c,d⟩:=staticB_iff.1 (h.static i hi);have pa:=place_iff.1 a;have e1:=hn (i:=(nth n.statics (i:Int)).domain) q_;exact staticB_iff.2 ⟨H8 a y_,b,c.trans (zH Domain.dev e1).symm,by have:=d;rw[←zH Domain.vlan e1]at this;exact this⟩
 ·obtain ⟨a,b,c,d,e⟩:=irbB_iff.1 (h.irb i hi);have pa:=place_iff.1 a;have e1:=hn (i:=(nth n.irbs (i:Int)).domain) q_;exact irbB_iff.2 ⟨H8 a y_,b,(zH Domain.dev e1).trans c,(zH Domain.irb e1).trans d,e⟩
def Adb(dev:Int):∀(l:List Int) (ds:List Domain),ds.length≤(Bh dev ds l).length
 |[],ds=>yG _
 |v::l,ds=>by
  refine wO ?_ (Adb dev l (Cr dev ds v));rw[Cr];split<;>simp
def Xj{dev:Int}:∀(l:List Int) (n:Net),NetR n→Ah dev n.devices.length=true→(∀v∈l,v≤4094)→(Bh dev n.domains l).length≤48→NetR {n with domains:=Bh dev n.domains l}∧∀v∈l,0<v→0≤C2 {n with domains:=Bh dev n.domains l} dev v
 |[],n,h,_,_,_=>⟨h,λv hv=>by cases hv⟩
 |v::l,n,h,hd,hv,hl=>by
  have hlen:=Adb dev l (Cr dev n.domains v);have e:Bh dev n.domains (v::l)=Bh dev (Cr dev n.domains v) l:=rfl;rw[e]at hl⊢;have h1:NetR {n with domains:=Cr dev n.domains v}∧(0<v→0≤C2 {n with domains:=Cr dev n.domains v} dev v):=by
   rw[Cr]at hlen⊢;split
   ·rename_i hc;rw[zG hc]at hlen;refine⟨Als h dev v hd ⟨by omega,hv v y_⟩ hc.2 _ E ?_,λ_=>?_⟩
    ·have ny:=hl;rw[Cr,zG hc]at ny;simp only[zW,yC]at hlen;omega
    ·rw[C2,Ai9 _ _ _ hc.2 y_];omega
   ·rename_i hc;refine⟨h,λh0=>?_⟩;have:n.domains.any (λd=>d.dev==dev&&d.vlan==v)=true:=by
     cases ha:n.domains.any (λd=>d.dev==dev&&d.vlan==v)
     ·exact zY ⟨h0,ha⟩ hc
     ·rfl
    exact idxI_nonneg.2 this
  obtain ⟨r1,r2⟩:=Xj l {n with domains:=Cr dev n.domains v} h1.1 hd (λx hx=>hv x (by simp[hx])) hl;refine⟨r1,λx hx h0=>?_⟩;rcases yH.1 hx with rfl|hx
  ·have h2:=h1.2 h0;have:∀(l:List Int) (ds:List Domain),0≤Bv (λd:Domain=>d.dev==dev&&d.vlan==x) ds→0≤Bv (λd:Domain=>d.dev==dev&&d.vlan==x) (Bh dev ds l):=by
    intro l
    induction l with
    |nil=>exact λds h=>h
    |cons y l ih=>
     intro ds h;refine ih (Cr dev ds y) ?_;rw[Cr];split
     ·rw[Ao7 _ _ _ h];exact h
     ·exact h
   exact this l _ h2
  ·exact r2 x hx h0
def Asf{n:Net}(h:NetR n)(p:Port)(hp:Jd n n.ports.length p=true)(hl:n.ports.length<40):NetR {n with ports:=n.ports++[p]}:=by
 have hn:∀{i:Int},i.toNat<n.ports.length→nth (n.ports++[p]) i=nth n.ports i:=λh=>Jp _ _ h
 refine⟨?_,h.bare,h.peers,λi hi=>?_,λi hi=>?_,λi hi=>?_,h.flood,h.vrf,h.irb⟩
 ·have:=few_iff.1 h.few;exact few_iff.2 (by simp only[zW,yC];omega)
 ·simp only[zW,yC]at hi;by_cases e:i<n.ports.length
  ·have e1:nth (n.ports++[p]) (i:Int)=nth n.ports (i:Int):=hn (i:=(i:Int)) e;rw[e1];exact h.port i e
  ·rw[show i=n.ports.length by omega,H9];exact hp
 ·obtain ⟨a,b,c,d,e⟩:=linkB_iff.1 (h.link i hi);have pa:=place_iff.1 a;have pb:=place_iff.1 b;have e1:=hn (i:=(nth n.links (i:Int)).a) q_;have e2:=hn (i:=(nth n.links (i:Int)).b) q_;exact linkB_iff.2 ⟨H8 a y_,H8 b y_,λx=>c ((zH Port.dev e1).symm.trans (x.trans (zH Port.dev e2))),(zH Port.link e1).trans d,(zH Port.link e2).trans e⟩
 ·obtain ⟨a,b,c,d⟩:=staticB_iff.1 (h.static i hi);have pb:=place_iff.1 b;have e1:=hn (i:=(nth n.statics (i:Int)).port) q_;exact staticB_iff.2 ⟨a,H8 b y_,(zH Port.dev e1).trans c,by have:=d;rw[←e1]at this;exact this⟩
def As2{n:Net}(h:NetR n)(a b:Nat)(ha:a<n.ports.length)(hb:b<n.ports.length)(hd:(nth n.ports a).dev≠(nth n.ports b).dev)(h1:(nth n.ports a).link<0)(h2:(nth n.ports b).link<0)(row:Int)(hl:n.links.length<20):NetR {n with ports:=Hk (Hk n.ports a n.links.length) b n.links.length,links:=n.links++[⟨row,a,b⟩]}:=by
 have hab:a≠b:=λe=>hd (by rw[e])
 have hlen:(Hk (Hk n.ports a n.links.length) b n.links.length).length=n.ports.length:=by simp[Hk]
 have rz:∀i:Int,i.toNat≠a→i.toNat≠b→nth (Hk (Hk n.ports a n.links.length) b n.links.length) i=nth n.ports i:=λi x y=>by
  rw[Hk,zU,Io _ _ y,Hk,zU,Io _ _ x]
 have ss:∀i:Int,i.toNat=a→nth (Hk (Hk n.ports a n.links.length) b n.links.length) i={nth n.ports a with link:=n.links.length}:=λi x=>by
  rw[Hk,zU,Io _ _ q_,Hk,zU,nth,x,vV ha];rfl
 have vq:∀i:Int,i.toNat=b→nth (Hk (Hk n.ports a n.links.length) b n.links.length) i={nth n.ports b with link:=n.links.length}:=λi x=>by
  have e:nth (Hk n.ports a n.links.length) (b:Int)=nth n.ports b:=by rw[Hk,zU,Io _ _ (by rw[zU];omega)]
  rw[Hk,zU,e,nth,x,vV (by rw[Hk,yR];exact hb)];rfl
 have same:∀{β:Type} (f:Port→β),(∀p k,f {p with link:=k}=f p)→∀i:Int,f (nth (Hk (Hk n.ports a n.links.length) b n.links.length) i)=f (nth n.ports i):=λf hf i=>by
  by_cases x:i.toNat=a
  ·rw[ss i x,hf,nth,nth,x,zU]
  ·by_cases y:i.toNat=b
   ·rw[vq i y,hf,nth,nth,y,zU]
   ·rw[rz i x y]
 have sd:=same Port.dev (λ_ _=>rfl);have sn:=same Port.native (λ_ _=>rfl);have st:=same Port.tagged (λ_ _=>rfl);have sm:=same (λp v=>Dl p v) (λ_ _=>rfl);refine⟨?_,h.bare,h.peers,λi hi=>?_,λi hi=>?_,λi hi=>?_,h.flood,h.vrf,h.irb⟩
 ·have:=few_iff.1 h.few;exact few_iff.2 (by rw[hlen];simp only[zW,yC];omega)
 ·rw[hlen]at hi;obtain ⟨c1,c2,c3,c4,c5,c6,c7,c8⟩:=portB_iff.1 (h.port i hi);refine portB_iff.2 ⟨by rw[sd];exact c1,by rw[sn];exact c2,by rw[st];exact c3,by rw[st,sn];exact c4,by rw[sn,st];exact c5,by rw[st,sd];exact c6,by rw[sn,sd];exact c7,?_⟩;have nl:nth (n.links++[(⟨row,a,b⟩:Link)]) (n.links.length:Int)=⟨row,a,b⟩:=H9 _ _;by_cases x:i=a
  ·rw[ss i (by rw[zU];exact x)];refine .inr ⟨place_iff.2 (by simp;omega),.inl ?_⟩;show (nth (n.links++[(⟨row,a,b⟩:Link)]) (n.links.length:Int)).a=_;rw[nl,x]
  ·by_cases y:i=b
   ·rw[vq i (by rw[zU];exact y)];refine .inr ⟨place_iff.2 (by simp;omega),.inr ?_⟩;show (nth (n.links++[(⟨row,a,b⟩:Link)]) (n.links.length:Int)).b=_;rw[nl,y]
   ·rw[rz i (by rw[zU];exact x) (by rw[zU];exact y)];rcases c8 with c8|⟨d1,d2⟩
    ·exact .inl c8
    ·have pd:=place_iff.1 d1;exact .inr ⟨H8 d1 y_,by rw[show nth (n.links++[(⟨row,a,b⟩:Link)]) (nth n.ports (i:Int)).link=nth n.links (nth n.ports (i:Int)).link from Jp _ _ q_];exact d2⟩
 ·simp only[zW,yC]at hi;by_cases e:i<n.links.length
  ·rw[show nth (n.links++[(⟨row,a,b⟩:Link)]) (i:Int)=nth n.links (i:Int) from Jp _ _ e];obtain ⟨c1,c2,c3,c4,c5⟩:=linkB_iff.1 (h.link i e);have off:∀k:Int,(nth n.ports k).link=(i:Int)→nth (Hk (Hk n.ports a n.links.length) b n.links.length) k=nth n.ports k:=λk hk=>by
    refine rz k (λx=>?_) (λx=>?_)
    ·have:nth n.ports k=nth n.ports (a:Int):=My _ x;rw[this]at hk;omega
    ·have:nth n.ports k=nth n.ports (b:Int):=My _ x;rw[this]at hk;omega
   exact linkB_iff.2 ⟨by rw[hlen];exact c1,by rw[hlen];exact c2,by rw[sd,sd];exact c3,by rw[off _ c4];exact c4,by rw[off _ c5];exact c5⟩
  ·rw[show i=n.links.length by omega,H9];refine linkB_iff.2 ⟨by rw[hlen];exact place_iff.2 ⟨by show (0:Int)≤(a:Int);omega,by show (a:Int)<_;omega⟩,by rw[hlen];exact place_iff.2 ⟨by show (0:Int)≤(b:Int);omega,by show (b:Int)<_;omega⟩,by rw[sd,sd];exact hd,?_,?_⟩
   ·rw[ss (a:Int) (zU a)]
   ·rw[vq (b:Int) (zU b)]
 ·obtain ⟨c1,c2,c3,c4⟩:=staticB_iff.1 (h.static i hi);refine staticB_iff.2 ⟨c1,by rw[hlen];exact c2,by rw[sd];exact c3,?_⟩;have:=sm (nth n.statics (i:Int)).port;exact(congrFun this _).trans c4
def Vb{n:Net}{l:LineM}{k:Int}(h:¬fitsB n l k=false):l.kind=k∧(Bm l).2=true∧NetR n:=by
 have h:fitsB n l k=true:=by simpa using h
 simp only[fitsB,Cj,zE,yJ]at h;exact⟨h.1,h.2.1.1,netR_iff.1 h.2.2⟩
def Q8{n:Net}{l:LineM}{k:Int}(h:¬(begT n l k).2≠0):l.kind=k∧(Bm l).2=true∧NetR n∧0≤Cn n l.dev∧(Cn n l.dev).toNat<n.devices.length∧(begT n l k).1=Cn n l.dev:=by
 rw[begT]at h⊢;split at h
 ·simp at h
 ·rename_i h1;rw[zD h1];split at h
  ·simp at h
  ·rename_i h2;rw[zD h2];obtain ⟨a,b,c⟩:=Vb h1;exact⟨a,b,c,by omega,(H1 (p:=λd:Device=>d.name==l.dev) (by show 0≤Cn n l.dev;omega)).1,E⟩
def Ax5{l:List Int}{v:Int}:inB l v=l.contains v:=by
 induction l with
 |nil=>rfl
 |cons x l ih=>
  rw[inB,List.any_cons,List.contains_cons];rw[inB]at ih;rw[ih];congr 1;exact Bool.beq_comm
def Axh{n:Net}{l:LineM}(h:(putT n l).2=0):NetR (putT n l).1:=by
 rw[putT]at h⊢;by_cases k1:l.kind=1
 ·rw[zG k1]at h⊢;rw[putDevice]at h⊢
  repeat' split at h
  all_goals (try (simp at h;done))
  rename_i h1 h2 h3;rw[zD h1,zD h2,zD h3];obtain ⟨_,_,hr⟩:=Vb h1;have:=few_iff.1 hr.few;exact Alw hr _ q_
 rw[zD k1]at h⊢;by_cases k2:l.kind=2
 ·rw[zG k2]at h⊢;rw[putPort]at h⊢
  repeat' split at h
  all_goals (try (simp at h;done))
  rename_i h1 h2 h3 h4 h5;rw[zD h1,zD h2,zD h3,zD h4,zD h5];obtain ⟨_,hu,hr⟩:=Vb h1;have hf:=few_iff.1 hr.few;simp only[Bm,zD k1,zG k2,zE]at hu;obtain ⟨u1,u2,u3,u4,u5⟩:=hu;have hv:=within_iff.1 u3;have hp:=(H1 (p:=λd:Device=>d.name==l.dev) (l:=n.devices) (by show 0≤Cn n l.dev;omega)).1;have bh:Ah (Cn n l.dev) n.devices.length=true:=place_iff.2 ⟨by omega,by have:(Cn n l.dev).toNat<n.devices.length:=hp;omega⟩;have o7:∀v∈l.tagged,1≤v∧v≤4094:=λv hv=>by
   rcases listOK_iff.1 u4 with e|e
   ·rw[e]at hv;cases hv
   ·exact(rising_iff.1 e).2.1 v hv
  obtain ⟨r1,r2⟩:=Xj (l.vlan::l.tagged) n hr bh (λ v hv=>by
   rcases yH.1 hv with rfl|hv
   ·omega
   ·exact(o7 v hv).2) q_
  refine Asf r1 _ (portB_iff.2 ⟨bh,hv,u4,?_,?_,λv hv=>r2 v (by simp[hv]) (by have:=o7 v hv;omega),λh0=>r2 _ y_ h0,.inl E⟩) (by show n.ports.length<40;omega)
  ·simp only[membersB,zE,yW,tC]at u5;rw[Ax5];exact u5.2
  ·rintro ⟨e1,e2⟩;dsimp only at e1 e2;simp[membersB,e1,e2]at u5
 rw[zD k2]at h⊢;by_cases k3:l.kind=3
 ·rw[zG k3]at h⊢;rw[putLink]at h⊢;dsimp only at h⊢
  repeat' split at h
  all_goals (try (simp at h;done))
  rename_i h1 h2 h3 h4;rw[zD h1,zD h2,zD h3,zD h4];obtain ⟨_,hu,hr⟩:=Vb h1;have hf:=few_iff.1 hr.few;have m6:∀d p,0≤endI n d p→(endI n d p).toNat<n.ports.length:=λd p h=>by
   rw[endI]at h⊢;split at h
   ·omega
   ·rename_i hx;rw[zD hx];exact(H1 h).1
  have ha:=m6 l.dev l.port q_;have hb:=m6 l.peer l.far q_;generalize endI n l.dev l.port=a at *;generalize endI n l.peer l.far=b at *;obtain ⟨a,rfl⟩:∃k:Nat,a=k:=⟨a.toNat,by omega⟩
  obtain ⟨b,rfl⟩:∃k:Nat,b=k:=⟨b.toNat,by omega⟩
  rw[zU]at ha hb;simp only[uC]at h3;exact As2 hr a b ha hb h3.1 q_ q_ l.row q_
 rw[zD k3]at h⊢;by_cases k4:l.kind=4
 ·rw[zG k4]at h⊢;rw[putStatic]at h⊢;dsimp only at h⊢
  repeat' split at h
  all_goals (try (simp at h;done))
  rename_i h1 h2 h3 h4 h5;rw[zD h1,zD h2,zD h3,zD h4,zD h5];obtain ⟨_,hu,hr⟩:=Vb h1;have hf:=few_iff.1 hr.few;simp only[uC]at h2 h3;have p1:=H1 (p:=λp:Port=>p.dev==Cn n l.dev&&p.name==l.port) (l:=n.ports) (by show 0≤Uq n (Cn n l.dev) l.port;omega);have p2:=H1 (p:=λd:Domain=>d.dev==Cn n l.dev&&d.vlan==l.vlan) (l:=n.domains) (by show 0≤C2 n (Cn n l.dev) l.vlan;omega);obtain ⟨a1,a2⟩:=p1;obtain ⟨b1,b2⟩:=p2;have a1:(Uq n (Cn n l.dev) l.port).toNat<n.ports.length:=a1;have b1:(C2 n (Cn n l.dev) l.vlan).toNat<n.domains.length:=b1;simp only[zE,yJ]at a2 b2;have a2:(nth n.ports (Uq n (Cn n l.dev) l.port)).dev=Cn n l.dev:=a2.1;have b2:(nth n.domains (C2 n (Cn n l.dev) l.vlan)).dev=Cn n l.dev∧(nth n.domains (C2 n (Cn n l.dev) l.vlan)).vlan=l.vlan:=b2;refine Aki hr _ (staticB_iff.2 ⟨place_iff.2 ⟨?_,?_⟩,place_iff.2 ⟨?_,?_⟩,?_,?_⟩) q_
  ·show 0≤C2 n (Cn n l.dev) l.vlan;omega
  ·show C2 n (Cn n l.dev) l.vlan<_;omega
  ·show 0≤Uq n (Cn n l.dev) l.port;omega
  ·show Uq n (Cn n l.dev) l.port<_;omega
  ·exact a2.trans b2.1.symm
  ·show Dl _ (nth n.domains (C2 n (Cn n l.dev) l.vlan)).vlan=true;rw[b2.2];simpa using h3.2
 rw[zD k4]at h⊢;by_cases k5:l.kind=5
 ·rw[zG k5]at h⊢;rw[putVtep]at h⊢;dsimp only at h⊢;by_cases h1:(begT n l 5).2≠0
  ·rw[zG h1]at h;exact zY h h1
  rw[zD h1]at h⊢;split at h
  ·simp at h
  rename_i h2;rw[zD h2];obtain ⟨_,hu,hr,d0,d1,d2⟩:=Q8 h1;simp only[Bm,zD k1,zD k2,zD k3,zD k4,zG k5,zJ]at hu;rw[d2];have:=Aqv hr (Cn n l.dev).toNat l.addr hu;rw[xD d0]at this;exact this
 rw[zD k5]at h⊢;by_cases k6:l.kind=6
 ·rw[zG k6]at h⊢;rw[putVni]at h⊢;dsimp only at h⊢;by_cases h1:(begT n l 6).2≠0
  ·rw[zG h1]at h;exact zY h h1
  rw[zD h1]at h⊢;obtain ⟨_,hu,hr,d0,d1,d2⟩:=Q8 h1;rw[d2]at h⊢
  repeat' split at h
  all_goals (try (simp at h;done))
  rename_i h2 h3 h4;rw[zD h2,zD h3,zD h4];simp only[Bm,zD k1,zD k2,zD k3,zD k4,zD k5,zG k6,zE]at hu;have hv:=within_iff.1 hu.2;have b1:(C2 n (Cn n l.dev) l.vlan).toNat<n.domains.length:=(H1 (p:=λd:Domain=>d.dev==Cn n l.dev&&d.vlan==l.vlan) (l:=n.domains) (by show 0≤C2 n (Cn n l.dev) l.vlan;omega)).1;simp only[uC,Decidable.not_not]at h4;generalize C2 n (Cn n l.dev) l.vlan=j at *;obtain ⟨j,rfl⟩:∃k:Nat,j=k:=⟨j.toNat,by omega⟩
  rw[zU]at b1⊢;exact Awe hr j b1 h4.1 l.num l.row ⟨by omega,hv.2⟩
 rw[zD k6]at h⊢;by_cases k7:l.kind=7
 ·rw[zG k7]at h⊢;rw[putFlood]at h⊢;dsimp only at h⊢;by_cases h1:(begT n l 7).2≠0
  ·rw[zG h1]at h;exact zY h h1
  rw[zD h1]at h⊢;obtain ⟨_,hu,hr,d0,d1,d2⟩:=Q8 h1;rw[d2]at h⊢
  repeat' split at h
  all_goals (try (simp at h;done))
  rename_i h2 h3 h4 h5;rw[zD h2,zD h3,zD h4,zD h5];have hf:=few_iff.1 hr.few;simp only[Bm,zD k1,zD k2,zD k3,zD k4,zD k5,zD k6,zG k7,zE,Kt,zJ]at hu;exact Apn hr _ (floodB_iff.2 ⟨place_iff.2 ⟨d0,by show Cn n l.dev<_;omega⟩,hu.2.2.2⟩) q_
 rw[zD k7]at h⊢;by_cases k8:l.kind=8
 ·rw[zG k8]at h⊢;rw[putVrf]at h⊢;dsimp only at h⊢;by_cases h1:(begT n l 8).2≠0
  ·rw[zG h1]at h;exact zY h h1
  rw[zD h1]at h⊢;obtain ⟨_,hu,hr,d0,d1,d2⟩:=Q8 h1;rw[d2]at h⊢
  repeat' split at h
  all_goals (try (simp at h;done))
  rename_i h2 h3;rw[zD h2,zD h3];have hf:=few_iff.1 hr.few;simp only[Bm,zD k1,zD k2,zD k3,zD k4,zD k5,zD k6,zD k7,zG k8,zE]at hu;exact Awd hr _ (vrfB_iff.2 ⟨place_iff.2 ⟨d0,by show Cn n l.dev<_;omega⟩,hu.2.1,hu.2.2⟩) q_
 rw[zD k8]at h⊢;by_cases k9:l.kind=9
 ·rw[zG k9]at h⊢;rw[putIrb]at h⊢;dsimp only at h⊢;by_cases h1:(begT n l 9).2≠0
  ·rw[zG h1]at h;exact zY h h1
  rw[zD h1]at h⊢;obtain ⟨_,hu,hr,d0,d1,d2⟩:=Q8 h1;rw[d2]at h⊢
  repeat' split at h
  all_goals (try (simp at h;done))
  rename_i h2 h3 h4;rw[zD h2,zD h3,zD h4];simp only[Bm,zD k1,zD k2,zD k3,zD k4,zD k5,zD k6,zD k7,zD k8,zG k9,zE]at hu;have hb:=T7 hu.2.2;have p1:=H1 (p:=λv:Vrf=>v.dev==Cn n l.dev&&v.name==l.name) (l:=n.vrfs) (by show 0≤Adc n (Cn n l.dev) l.name;omega);have p2:=H1 (p:=λd:Domain=>d.dev==Cn n l.dev&&d.vlan==l.vlan) (l:=n.domains) (by show 0≤C2 n (Cn n l.dev) l.vlan;omega);have a1:(Adc n (Cn n l.dev) l.name).toNat<n.vrfs.length:=p1.1;have a2:(nth n.vrfs (Adc n (Cn n l.dev) l.name)).dev=Cn n l.dev:=by
   have:=p1.2;simp only[zE,yJ]at this;exact this.1
  have b1:(C2 n (Cn n l.dev) l.vlan).toNat<n.domains.length:=p2.1;have b2:(nth n.domains (C2 n (Cn n l.dev) l.vlan)).dev=Cn n l.dev:=by
   have:=p2.2;simp only[zE,yJ]at this;exact this.1
  simp only[uC]at h4;generalize C2 n (Cn n l.dev) l.vlan=j at *;obtain ⟨j,rfl⟩:∃k:Nat,j=k:=⟨j.toNat,by omega⟩
  rw[zU]at b1⊢;exact Ayn hr j b1 q_ ⟨l.row,j,Adc n (Cn n l.dev) l.name,l.addr,l.bits⟩ E (place_iff.2 ⟨by dsimp only;omega,by dsimp only;omega⟩) (b2.trans a2.symm) hb
 ·rw[zD k9]at h;simp at h
def Apt:NetR emptyN:=netR_iff.1 (by decide +kernel)
set_option maxHeartbeats 4000000
def Aqa(l:List LineM)(k:Int):Nat:=(l.filter λx=>x.kind==k).length
structure Many(n:Net)(c:Int→Nat):Prop where
 c1:n.devices.length=c 1
 c2:n.ports.length=c 2
 c3:n.links.length=c 3
 c4:n.statics.length=c 4
 c7:n.floods.length=c 7
 c8:n.vrfs.length=c 8
 c9:n.irbs.length=c 9
def Ax8{n:Net}{c:Int→Nat}(h:Many n c):Many (By n) c:=⟨h.c1,h.c2,h.c3,h.c4,h.c7,h.c8,h.c9⟩
def J7(l:List Port)(i k:Int):(Hk l i k).length=l.length:=yR
def Hn(l:List Device)(i k:Int):(Xu l i k).length=l.length:=yR
def Aog{n:Net}{x:LineM}(h:(putDevice n x).2=0):(putDevice n x).1.devices.length=n.devices.length+1∧(putDevice n x).1.ports.length=n.ports.length∧(putDevice n x).1.links.length=n.links.length∧(putDevice n x).1.statics.length=n.statics.length∧(putDevice n x).1.floods.length=n.floods.length∧(putDevice n x).1.vrfs.length=n.vrfs.length∧(putDevice n x).1.irbs.length=n.irbs.length:=by
 unfold putDevice at h⊢;by_cases h0:fitsB n x 1=false
 ·rw[zG h0]at h;cases h
 rw[zD h0]at h⊢;try dsimp only at h⊢
 split at h
 ·cases h
 rename_i h1;rw[zD h1];split at h
 ·cases h
 rename_i h2;rw[zD h2];simp[J7,Hn]
def Ax7{n:Net}{x:LineM}(h:(putPort n x).2=0):(putPort n x).1.devices.length=n.devices.length∧(putPort n x).1.ports.length=n.ports.length+1∧(putPort n x).1.links.length=n.links.length∧(putPort n x).1.statics.length=n.statics.length∧(putPort n x).1.floods.length=n.floods.length∧(putPort n x).1.vrfs.length=n.vrfs.length∧(putPort n x).1.irbs.length=n.irbs.length:=by
 unfold putPort at h⊢;by_cases h0:fitsB n x 2=false
 ·rw[zG h0]at h;cases h
 rw[zD h0]at h⊢;try dsimp only at h⊢
 split at h
 ·cases h
 rename_i h1;rw[zD h1];split at h
 ·cases h
 rename_i h2;rw[zD h2];split at h
 ·cases h
 rename_i h3;rw[zD h3];split at h
 ·cases h
 rename_i h4;rw[zD h4];simp[J7,Hn]
def Ax9{n:Net}{x:LineM}(h:(putLink n x).2=0):(putLink n x).1.devices.length=n.devices.length∧(putLink n x).1.ports.length=n.ports.length∧(putLink n x).1.links.length=n.links.length+1∧(putLink n x).1.statics.length=n.statics.length∧(putLink n x).1.floods.length=n.floods.length∧(putLink n x).1.vrfs.length=n.vrfs.length∧(putLink n x).1.irbs.length=n.irbs.length:=by
 unfold putLink at h⊢;by_cases h0:fitsB n x 3=false
 ·rw[zG h0]at h;cases h
 rw[zD h0]at h⊢;try dsimp only at h⊢
 split at h
 ·cases h
 rename_i h1;rw[zD h1];split at h
 ·cases h
 rename_i h2;rw[zD h2];split at h
 ·cases h
 rename_i h3;rw[zD h3];simp[J7,Hn]
def Aof{n:Net}{x:LineM}(h:(putStatic n x).2=0):(putStatic n x).1.devices.length=n.devices.length∧(putStatic n x).1.ports.length=n.ports.length∧(putStatic n x).1.links.length=n.links.length∧(putStatic n x).1.statics.length=n.statics.length+1∧(putStatic n x).1.floods.length=n.floods.length∧(putStatic n x).1.vrfs.length=n.vrfs.length∧(putStatic n x).1.irbs.length=n.irbs.length:=by
 unfold putStatic at h⊢;by_cases h0:fitsB n x 4=false
 ·rw[zG h0]at h;cases h
 rw[zD h0]at h⊢;try dsimp only at h⊢
 split at h
 ·cases h
 rename_i h1;rw[zD h1];split at h
 ·cases h
 rename_i h2;rw[zD h2];split at h
 ·cases h
 rename_i h3;rw[zD h3];split at h
 ·cases h
 rename_i h4;rw[zD h4];simp[J7,Hn]
def Ax6{n:Net}{x:LineM}(h:(putVtep n x).2=0):(putVtep n x).1.devices.length=n.devices.length∧(putVtep n x).1.ports.length=n.ports.length∧(putVtep n x).1.links.length=n.links.length∧(putVtep n x).1.statics.length=n.statics.length∧(putVtep n x).1.floods.length=n.floods.length∧(putVtep n x).1.vrfs.length=n.vrfs.length∧(putVtep n x).1.irbs.length=n.irbs.length:=by
 unfold putVtep at h⊢;by_cases h0:(begT n x 5).2≠0
 ·rw[zG h0]at h;exact zY h h0
 rw[zD h0]at h⊢;try dsimp only at h⊢
 split at h
 ·cases h
 rename_i h1;rw[zD h1];simp[J7,Hn]
def A2g{n:Net}{x:LineM}(h:(putVni n x).2=0):(putVni n x).1.devices.length=n.devices.length∧(putVni n x).1.ports.length=n.ports.length∧(putVni n x).1.links.length=n.links.length∧(putVni n x).1.statics.length=n.statics.length∧(putVni n x).1.floods.length=n.floods.length∧(putVni n x).1.vrfs.length=n.vrfs.length∧(putVni n x).1.irbs.length=n.irbs.length:=by
 unfold putVni at h⊢;by_cases h0:(begT n x 6).2≠0
 ·rw[zG h0]at h;exact zY h h0
 rw[zD h0]at h⊢;try dsimp only at h⊢
 split at h
 ·cases h
 rename_i h1;rw[zD h1];split at h
 ·cases h
 rename_i h2;rw[zD h2];split at h
 ·cases h
 rename_i h3;rw[zD h3];simp[J7,Hn]
def Asw{n:Net}{x:LineM}(h:(putFlood n x).2=0):(putFlood n x).1.devices.length=n.devices.length∧(putFlood n x).1.ports.length=n.ports.length∧(putFlood n x).1.links.length=n.links.length∧(putFlood n x).1.statics.length=n.statics.length∧(putFlood n x).1.floods.length=n.floods.length+1∧(putFlood n x).1.vrfs.length=n.vrfs.length∧(putFlood n x).1.irbs.length=n.irbs.length:=by
 unfold putFlood at h⊢;by_cases h0:(begT n x 7).2≠0
 ·rw[zG h0]at h;exact zY h h0
 rw[zD h0]at h⊢;try dsimp only at h⊢
 split at h
 ·cases h
 rename_i h1;rw[zD h1];split at h
 ·cases h
 rename_i h2;rw[zD h2];split at h
 ·cases h
 rename_i h3;rw[zD h3];split at h
 ·cases h
 rename_i h4;rw[zD h4];simp[J7,Hn]
def A2f{n:Net}{x:LineM}(h:(putVrf n x).2=0):(putVrf n x).1.devices.length=n.devices.length∧(putVrf n x).1.ports.length=n.ports.length∧(putVrf n x).1.links.length=n.links.length∧(putVrf n x).1.statics.length=n.statics.length∧(putVrf n x).1.floods.length=n.floods.length∧(putVrf n x).1.vrfs.length=n.vrfs.length+1∧(putVrf n x).1.irbs.length=n.irbs.length:=by
 unfold putVrf at h⊢;by_cases h0:(begT n x 8).2≠0
 ·rw[zG h0]at h;exact zY h h0
 rw[zD h0]at h⊢;try dsimp only at h⊢
 split at h
 ·cases h
 rename_i h1;rw[zD h1];split at h
 ·cases h
 rename_i h2;rw[zD h2];simp[J7,Hn]
def A2h{n:Net}{x:LineM}(h:(putIrb n x).2=0):(putIrb n x).1.devices.length=n.devices.length∧(putIrb n x).1.ports.length=n.ports.length∧(putIrb n x).1.links.length=n.links.length∧(putIrb n x).1.statics.length=n.statics.length∧(putIrb n x).1.floods.length=n.floods.length∧(putIrb n x).1.vrfs.length=n.vrfs.length∧(putIrb n x).1.irbs.length=n.irbs.length+1:=by
 unfold putIrb at h⊢;by_cases h0:(begT n x 9).2≠0
 ·rw[zG h0]at h;exact zY h h0
 rw[zD h0]at h⊢;try dsimp only at h⊢
 split at h
 ·cases h
 rename_i h1;rw[zD h1];split at h
 ·cases h
 rename_i h2;rw[zD h2];split at h
 ·cases h
 rename_i h3;rw[zD h3];simp[J7,Hn]
def A05{n:Net}{c:Int→Nat}{x:LineM}(hm:Many n c)(h:(putT n x).2=0):Many (putT n x).1 (λk=>c k+if x.kind=k then 1 else 0):=by
 obtain ⟨c1,c2,c3,c4,c7,c8,c9⟩:=hm;unfold putT at h⊢;by_cases k1:x.kind=1
 ·rw[zG k1]at h⊢;obtain ⟨e1,e2,e3,e4,e7,e8,e9⟩:=Aog h;constructor<;>simp[*]
 rw[zD k1]at h⊢;by_cases k2:x.kind=2
 ·rw[zG k2]at h⊢;obtain ⟨e1,e2,e3,e4,e7,e8,e9⟩:=Ax7 h;constructor<;>simp[*]
 rw[zD k2]at h⊢;by_cases k3:x.kind=3
 ·rw[zG k3]at h⊢;obtain ⟨e1,e2,e3,e4,e7,e8,e9⟩:=Ax9 h;constructor<;>simp[*]
 rw[zD k3]at h⊢;by_cases k4:x.kind=4
 ·rw[zG k4]at h⊢;obtain ⟨e1,e2,e3,e4,e7,e8,e9⟩:=Aof h;constructor<;>simp[*]
 rw[zD k4]at h⊢;by_cases k5:x.kind=5
 ·rw[zG k5]at h⊢;obtain ⟨e1,e2,e3,e4,e7,e8,e9⟩:=Ax6 h;constructor<;>simp[*]
 rw[zD k5]at h⊢;by_cases k6:x.kind=6
 ·rw[zG k6]at h⊢;obtain ⟨e1,e2,e3,e4,e7,e8,e9⟩:=A2g h;constructor<;>simp[*]
 rw[zD k6]at h⊢;by_cases k7:x.kind=7
 ·rw[zG k7]at h⊢;obtain ⟨e1,e2,e3,e4,e7,e8,e9⟩:=Asw h;constructor<;>simp[*]
 rw[zD k7]at h⊢;by_cases k8:x.kind=8
 ·rw[zG k8]at h⊢;obtain ⟨e1,e2,e3,e4,e7,e8,e9⟩:=A2f h;constructor<;>simp[*]
 rw[zD k8]at h⊢;by_cases k9:x.kind=9
 ·rw[zG k9]at h⊢;obtain ⟨e1,e2,e3,e4,e7,e8,e9⟩:=A2h h;constructor<;>simp[*]
 rw[zD k9]at h⊢;cases h
def Aty:Many emptyN (λ_=>0):=⟨rfl,rfl,rfl,rfl,rfl,rfl,rfl⟩
def A20{α:Type}(p:α→Bool)(f:α→α)(l:List α)(h:∀x,p (f x)=p x):Bv p (l.map f)=Bv p l:=by
 have e:(l.map f).findIdx? p=l.findIdx? p:=by
  rw[List.findIdx?_map];congr 1;funext x;exact h x
 rw[Bv,Bv,e]
def Aak(n:Net)(a b:Int):O4 (By n) a b=O4 n a b:=A20 _ _ _ λ_=>rfl
def Asi(n:Net)(d:Domain)(p:List Int):peersT (By n) {d with peers:=p}=peersT n d:=by
 rw[peersT,peersT];have e1:∀a b,I5 (By n) a b=I5 n a b:=λ_ _=>rfl
 have e2:∀a,D2 (By n) a=D2 n a:=λ_=>rfl
 simp only[Aak,e1,e2];rfl
def Ax1(n:Net):By (By n)=By n:=by
 have:(By n).domains.map (λd=>{d with peers:=peersT (By n) d})=(By n).domains:=by
  show (n.domains.map λd=>{d with peers:=peersT n d}).map (λd=>{d with peers:=peersT (By n) d})=n.domains.map λd=>{d with peers:=peersT n d}
  rw[List.map_map];refine tF λd _=>?_
  show ({d with peers:=peersT (By n) {d with peers:=peersT n d} }:Domain)={d with peers:=peersT n d};rw[Asi]
 rw[By,this]
def Aul(n:Net)(f:Flood):agreesB (By n) f=agreesB n f:=by
 have e1:∀a b,I5 (By n) a b=I5 n a b:=λ_ _=>rfl
 have e2:∀a,D2 (By n) a=D2 n a:=λ_=>rfl
 have e3:∀a,agreeA (By n) f a=agreeA n f a:=λa=>by
  rw[agreeA,agreeA];simp only[Aak,e1,e2];rfl
 have e4:agreeA (By n) f=agreeA n f:=funext e3;rw[agreesB,agreesB,Aak,e4]
def On{n:Net}(h:(meshNT n).2.2=0):(meshNT n).1=By n∧(meshNT n).2.1=0∧Ac (By n)=true∧n.floods.find? (λf=>!(agreesB n f))=none:=by
 rw[meshNT]at h⊢;split at h
 ·simp at h
 rename_i h1;rw[zD h1];cases hf:n.floods.find? (λf=>!(agreesB n f)) with
 |some f=>rw[hf]at h;simp at h
 |none=>
  rw[hf]at h;dsimp only at h⊢;split at h
  ·simp at h
  rename_i h2;rw[zD h2];exact⟨E,E,by simpa using h2,E⟩
def Asv{n:Net}(h:(meshNT n).2.2=0):meshNT (By n)=(By n,0,0):=by
 obtain ⟨_,_,h3,h4⟩:=On h;have e:(By n).floods.find? (λf=>!(agreesB (By n) f))=none:=by
  show n.floods.find? (λf=>!(agreesB (By n) f))=none;simp only[Aul];exact h4
 rw[meshNT,zD (by rw[h3];simp),e];dsimp only;rw[Ax1,zD (by rw[h3];simp)]
def Ux(n:Net):∀(l:List Domain) (f:List Int) (i:Nat),(S1 n f i l).2=false→(S1 n f i l).1=0
 |[],f,i,_=>rfl
 |d::l,f,i,h=>by
  rw[S1]at h⊢;split
  ·rename_i h1;rw[zG h1]at h;exact Ux n l f _ h
  ·rename_i h1;rw[zD h1]at h;dsimp only at h⊢;split
   ·rename_i h2;rw[zG h2]at h;cases h
   ·rename_i h2;rw[zD h2]at h;exact Ux n l _ _ h
def Asy{n:Net}(h:(loopT n).2=false):loopT n=(0,false):=by
 have h1:(loopT n).1=0:=by
  rw[loopT]at h⊢;split
  ·rfl
  ·rename_i hb;rw[zD hb]at h;exact Ux n _ _ _ h
 rw[←h,←h1]
def Ac0:∀(l:List LineM) (n0:Net) (c:Int→Nat),NetR n0→Many n0 c→(Bt n0 l).2.2=0 →
  (Bt n0 l).2.1=0∧Ac (Bt n0 l).1=true∧meshNT (Bt n0 l).1=((Bt n0 l).1,0,0)∧loopT (Bt n0 l).1=(0,false)∧Many (Bt n0 l).1 (λk=>c k+Aqa l k)
 |[],n0,c,hr,hm,h=>by
  rw[Bt,finishT]at h⊢;split at h
  ·rename_i h1;exact zY h h1
  rename_i h1;rw[zD h1];split at h
  ·simp at h
  rename_i h2;rw[zD h2];have h0:(meshNT n0).2.2=0:=by omega
  obtain ⟨e1,e2,e3,e4⟩:=On h0;dsimp only;rw[e1]at h2⊢;refine⟨E,e3,Asv h0,Asy (by simpa using h2),?_⟩;have:=Ax8 hm;exact⟨this.c1,this.c2,this.c3,this.c4,this.c7,this.c8,this.c9⟩
 |x::l,n0,c,hr,hm,h=>by
  rw[Bt]at h⊢;split at h
  ·rename_i h1;exact zY h h1
  rename_i h1;rw[zD h1];have h0:(putT n0 x).2=0:=by omega
  obtain ⟨a,b,d,e,f⟩:=Ac0 l _ _ (Axh h0) (A05 hm h0) h;refine⟨a,b,d,e,?_⟩;have hc:∀k,Aqa (x::l) k=(if x.kind=k then 1 else 0)+Aqa l k:=λk=>by
   rw[Aqa,Aqa,List.filter_cons];by_cases hk:x.kind=k
   ·simp[hk];omega
   ·simp[hk]
  refine⟨f.c1.trans ?_,f.c2.trans ?_,f.c3.trans ?_,f.c4.trans ?_,f.c7.trans ?_,f.c8.trans ?_,f.c9.trans ?_⟩<;>(rw[hc];omega)
def Ac1:∀(l:List LineM) (n0:Net),(Bt n0 l).2.2≠0→(Bt n0 l).1=emptyN
 |[],n0,h=>by
  rw[Bt,finishT]at h⊢;split
  ·rename_i h1;rw[meshNT]at h1⊢;split
   ·rfl
   rename_i h2;rw[zD h2]at h1;split
   ·rfl
   ·rename_i hf;rw[hf]at h1;dsimp only at h1;split
    ·rfl
    ·rename_i h3;rw[zD h3]at h1;exact zY E h1
  ·rename_i h1;rw[zD h1]at h;split
   ·rfl
   ·rename_i h2;rw[zD h2]at h;exact zY E h
 |x::l,n0,h=>by
  rw[Bt]at h⊢;split
  ·rfl
  ·rename_i h1;rw[zD h1]at h;exact Ac1 l _ h
end Go.Sy.YticmobkdaneelaaGreatDoor
