/- Parts of a proof. -/
import Derived.Test.YtodbnbfjhjcanaaGreatDoorXA14
set_option maxHeartbeats 4000000
set_option linter.all false
namespace Go.Sy.Zaa
open Go.Proofs Go.Proofs.Tryz
def emptyN:Net:=⟨[],[],[],[],[],[],[],[]⟩
def fitsB(n:Net)(l:LineM)(k:Int):Bool:=l.kind==k&&(Cn l&&Ac n)
def Cf(n:Net)(s:ByteArray):Int:=Bs (λd:Device=>d.name==s) n.devices
def M7(n:Net)(dev:Int)(s:ByteArray):Int:=Bs (λp:Port=>p.dev==dev&&p.name==s) n.ports
def fS(n:Net)(dev:Int)(s:ByteArray):Int:=Bs (λv:Vrf=>v.dev==dev&&v.name==s) n.vrfs
def putDevice(n:Net)(l:LineM):Net×Int :=
 if fitsB n l 1=false then (emptyN,2) else if n.devices.any (λd=>d.name==l.dev||d.mac==l.mac)=true then (emptyN,30) else if n.devices.length=8 then (emptyN,3)
 else ({n with devices:=n.devices++[⟨l.row,l.num,l.dev,l.mac,0⟩]},0)
def Cw(dev:Int)(ds:List Domain)(v:Int):List Domain:=if 0<v/\ds.any (λd=>d.dev==dev&&d.vlan==v)=false then ds++[⟨dev,v,0,-1,0,[]⟩] else ds
def Bk(dev:Int)(ds:List Domain)(l:List Int):List Domain:=l.foldl (Cw dev) ds
def putPort(n:Net)(l:LineM):Net×Int :=
 if fitsB n l 2=false then (emptyN,2) else if Cf n l.dev<0 then (emptyN,31) else if 0<=M7 n (Cf n l.dev) l.port then (emptyN,30) else if n.ports.length=40 then (emptyN,3)
 else if 48<(Bk (Cf n l.dev) n.domains (l.vlan::l.tagged)).length then (emptyN,3)
 else ({n with ports:=n.ports++[⟨l.row,Cf n l.dev,l.vlan,l.cost,-1,l.port,l.tagged⟩],domains:=Bk (Cf n l.dev) n.domains (l.vlan::l.tagged)},0)
def endI(n:Net)(dev port:ByteArray):Int:=if Cf n dev<0 then -1 else M7 n (Cf n dev) port
def Ho(l:List Port)(i k:Int):List Port:=l.set i.toNat {nth l i with link:=k}
def putLink(n:Net)(l:LineM):Net×Int :=
 if fitsB n l 3=false then (emptyN,2) else
 let a:=endI n l.dev l.port
 let b:=endI n l.peer l.far
 if a<0\/b<0 then (emptyN,31) else if (nth n.ports a).dev=(nth n.ports b).dev\/0<=(nth n.ports a).link\/0<=(nth n.ports b).link then (emptyN,33) else if n.links.length=20 then (emptyN,3)
 else ({n with ports:=Ho (Ho n.ports a n.links.length) b n.links.length,links:=n.links++[⟨l.row,a,b⟩]},0)
def Ag4(n:Net)(d mac:Int):Int:=Bs (λs:Static=>s.domain==d&&s.mac==mac) n.statics
def putStatic(n:Net)(l:LineM):Net×Int :=
 if fitsB n l 4=false then (emptyN,2) else
 let dev:=Cf n l.dev
 let port:=M7 n dev l.port
 let dom:=Da n dev l.vlan
 if dev<0\/port<0 then (emptyN,31) else if dom<0\/Cz (nth n.ports port) l.vlan=false then (emptyN,32) else if 0<=Ag4 n dom l.mac then (emptyN,30) else if n.statics.length=64 then (emptyN,3)
 else ({n with statics:=n.statics++[⟨l.row,dom,port,l.mac⟩]},0)
def D0(n:Net)(a:Int):Int:=Bs (λd:Device=>d.vtep==a) n.devices
def Ql(n:Net)(dev vni:Int):Int:=Bs (λd:Domain=>d.dev==dev&&(d.vni==vni&&vni != 0)) n.domains
def Jd(n:Net)(dev vni:Int):Int:=Bs (λf:Flood=>f.dev==dev&&f.vni==vni) n.floods
def begT(n:Net)(l:LineM)(k:Int):Int×Int:=if fitsB n l k=false then (0,2) else if Cf n l.dev<0 then (0,31) else (Cf n l.dev,0)
def Yn(l:List Device)(i a:Int):List Device:=l.set i.toNat {nth l i with vtep:=a}
def putVtep(n:Net)(l:LineM):Net×Int :=
 if (begT n l 5).2≠0 then (emptyN,(begT n l 5).2) else
 let dev:=(begT n l 5).1
 if (nth n.devices dev).vtep≠0\/0<=D0 n l.addr then (emptyN,30) else ({n with devices:=Yn n.devices dev l.addr},0)
def putVni(n:Net)(l:LineM):Net×Int :=
 if (begT n l 6).2≠0 then (emptyN,(begT n l 6).2) else
 let dev:=(begT n l 6).1
 let at_:=Da n dev l.vlan
 if (nth n.devices dev).vtep=0 then (emptyN,35) else if at_<0 then (emptyN,32) else if (nth n.domains at_).vni≠0\/0<=Ql n dev l.num then (emptyN,30)
 else ({n with domains:=n.domains.set at_.toNat {nth n.domains at_ with vni:=l.num,row:=l.row} },0)
def putFlood(n:Net)(l:LineM):Net×Int :=
 if (begT n l 7).2≠0 then (emptyN,(begT n l 7).2) else
 let dev:=(begT n l 7).1
 if Ql n dev l.num<0 then (emptyN,31) else if 0<=Jd n dev l.num then (emptyN,30) else if inB l.addrs (nth n.devices dev).vtep=true then (emptyN,36) else if n.floods.length=48 then (emptyN,3)
 else ({n with floods:=n.floods++[⟨l.row,dev,l.num,l.addrs⟩]},0)
def putVrf(n:Net)(l:LineM):Net×Int :=
 if (begT n l 8).2≠0 then (emptyN,(begT n l 8).2) else
 let dev:=(begT n l 8).1
 if 0<=fS n dev l.name then (emptyN,30) else if n.vrfs.length=16 then (emptyN,3)
 else ({n with vrfs:=n.vrfs++[⟨l.row,dev,l.name,l.imports,l.exports⟩]},0)
def Tl(a bits x:Int):Bool:=decide (0<=bits)&&(decide (bits<=32)&&D9 a bits==D9 x bits)
def clashB(n:Net)(dev a bits:Int)(x:Irb):Bool:=x.addr==a||((nth n.vrfs x.vrf).dev != dev&&(Tl x.addr x.bits a||Tl a bits x.addr))
def putIrb(n:Net)(l:LineM):Net×Int :=
 if (begT n l 9).2≠0 then (emptyN,(begT n l 9).2) else
 let dev:=(begT n l 9).1
 let vrf:=fS n dev l.name
 let at_:=Da n dev l.vlan
 if vrf<0 then (emptyN,31) else if at_<0 then (emptyN,32) else if 0<=(nth n.domains at_).irb\/n.irbs.any (clashB n dev l.addr l.bits)=true then (emptyN,37)
 else ({n with domains:=n.domains.set at_.toNat {nth n.domains at_ with irb:=n.irbs.length},irbs:=n.irbs++[⟨l.row,at_,vrf,l.addr,l.bits⟩]},0)
def putT(n:Net)(l:LineM):Net×Int :=
 if l.kind=1 then putDevice n l else if l.kind=2 then putPort n l else if l.kind=3 then putLink n l else if l.kind=4 then putStatic n l else if l.kind=5 then putVtep n l
 else if l.kind=6 then putVni n l else if l.kind=7 then putFlood n l else if l.kind=8 then putVrf n l else if l.kind=9 then putIrb n l else (emptyN,2)
def agreeA(n:Net)(f:Flood)(a:Int):Bool :=
 let dev:=D0 n a
 decide (0<=dev) && (a != 0 && (decide (0<=Ql n dev f.vni) && (decide (0<=Jd n dev f.vni) &&
  (inB (nth n.floods (Jd n dev f.vni)).addrs (nth n.devices f.dev).vtep && f.addrs.all λ b=>b == a || inB (nth n.floods (Jd n dev f.vni)).addrs b))))
def agreesB(n:Net)(f:Flood):Bool:=decide (0<=Ql n f.dev f.vni)&&f.addrs.all (agreeA n f)
def peersT(n:Net)(d:Domain):List Int:=if d.vni≠0/\0<=Jd n d.dev d.vni then (nth n.floods (Jd n d.dev d.vni)).addrs.map (λa=>Ql n (D0 n a) d.vni) else []
def By(n:Net):Net:={n with domains:=n.domains.map λd=>{d with peers:=peersT n d} }
def meshNT(n:Net):Net×Int×Int :=
 if Ac n=false then (emptyN,0,2) else match n.floods.find? (λf=>!(agreesB n f)) with
 |some f=>(emptyN,f.row,36)
 |none=>if Ac (By n)=false then (emptyN,0,36) else (By n,0,0)
def Ds(f:List Int):Prop:=∀i (h:i<f.length),0<=f[i]/\f[i]<=i
def Ah9:Nat->List Int->Int->List Int×Int
 |0,f,i=>(f,i)
 |k+1,f,i=>if nth f i=i then (f,i) else Ah9 k (f.set i.toNat (nth f (nth f i))) (nth f (nth f i))
def L5(f:List Int)(i:Int):List Int×Int:=Ah9 (i.toNat+1) f i
def X2(f:List Int)(a b:Int):List Int×Bool :=
 let x:=L5 f a
 let y:=L5 x.1 b
 (y.1.set (max x.2 y.2).toNat (min x.2 y.2),x.2 != y.2)
def Oy(k:Nat):List Int:=(List.range k).map λi:Nat=>(i:Int)
def D1(n:Net)(f:List Int)(i:Int)(v:Int):List Int:=if (linkDomT n i v).2=true then (X2 f (Da n (nth n.ports i).dev v) (linkDomT n i v).1).1 else f
def Jn(n:Net)(f:List Int)(i:Nat):List Int:=((nth n.ports i).tagged++[(nth n.ports i).native]).foldl (λf v=>D1 n f i v) f
def Wu(n:Net)(f:List Int):List Int:=(List.range n.ports.length).foldl (Jn n) f
def Acp:Int->List Int->Int
 |m,[]=>m
 |m,x::l=>Acp (min m x) l
def Ajq(l:List Int):Int:=Acp (nth l 0) (l.drop 1)
def Ts(n:Net):List Int->Nat->List Domain->Int×Bool
 |_,_,[]=>(0,false)
 |f,i,d::r=>if d.peers=[] then Ts n f (i+1) r else
  let x:=X2 f i ((n.domains.length:Int)+min (i:Int) (Ajq d.peers))
  if x.2=false then (d.row,true) else Ts n x.1 (i+1) r
def loopT(n:Net):Int×Bool:=if Ac n=false then (0,false) else Ts n (Wu n (Oy (2*n.domains.length))) 0 n.domains
def finishT(n:Net):Net×Int×Int:=if (meshNT n).2.2≠0 then meshNT n else if (loopT (meshNT n).1).2=true then (emptyN,(loopT (meshNT n).1).1,38) else ((meshNT n).1,0,0)
def Bu:Net->List LineM->Net×Int×Int
 |n,[]=>finishT n
 |n,l::r=>if (putT n l).2≠0 then (emptyN,l.row,(putT n l).2) else Bu (putT n l).1 r
def Di(l:List LineM):Net×Int×Int:=Bu emptyN l
def netTextT(b:List UInt8):Net×Int×Int:=if (textT b).2.2≠0 then (emptyN,(textT b).2.1,(textT b).2.2) else Di (textT b).1
def J0{k:Type}[Inhabited k](l:List k)(x:k){i:Int}(h:i.toNat<l.length):nth (l++[x]) i=nth l i:=by
 rw[nth,nth,xQ h]
def Ig{k:Type}[Inhabited k](l:List k)(x:k):nth (l++[x]) (l.length:Int)=x:=by
 rw[nth,yE,wE (yG _),tP];rfl
def place_iff{i:Int}{k:Nat}:Af i k=true↔0<=i/\i<k:=by simp[Af]
def Is{k:Type}[Inhabited k](l:List k)(x:k){i:Int}{j:Nat}(h:i.toNat≠j):nth (l.set j x) i=nth l i:=by
 rw[nth,nth,List.getElem?_set_ne (λe=>h e.symm)]
def oX{k:Type}[Inhabited k](l:List k)(x:k){j:Nat}(h:j<l.length):nth (l.set j x) (j:Int)=x:=by
 rw[nth,yE,uB h];rfl
def Oc{k:Type}[Inhabited k](l:List k){i:Int}{j:Nat}(h:i.toNat=j):nth l i=nth l (j:Int):=by
 rw[nth,nth,h,yE]
def Qg{k:Type}[Inhabited k](l:List k)(i:Nat)(h:i<l.length):l[i]=nth l (i:Int):=(Ag (i:=(i:Int)) h).symm
structure NetR(n:Net):Prop where
 few:Ac4 n=true
 bare:∀i:Nat,i<n.domains.length->Ov n i (nth n.domains i)=true
 peers:∀i:Nat,i<n.domains.length->Qs n i (nth n.domains i)=true
 port:∀i:Nat,i<n.ports.length->J7 n i (nth n.ports i)=true
 link:∀i:Nat,i<n.links.length->Qb n i (nth n.links i)=true
 static:∀i:Nat,i<n.statics.length->Ll n (nth n.statics i)=true
 flood:∀i:Nat,i<n.floods.length->Oo n (nth n.floods i)=true
 vrf:∀i:Nat,i<n.vrfs.length->Ahv n (nth n.vrfs i)=true
 irb:∀i:Nat,i<n.irbs.length->Aao n i (nth n.irbs i)=true
def Aby{k:Type}[Inhabited k]{p:Nat->k->Bool}{l:List k}:H9 p l=true↔∀i:Nat,i<l.length->p i (nth l i)=true:=by
 rw[allB_iff];constructor
 .intro h i hi;rw[<-Qg l i hi];exact h i hi
 .intro h i hi;rw[Qg l i hi];exact h i hi
def netR_iff{n:Net}:Ac n=true↔NetR n:=by
 simp only[Ac,zG,Aby];constructor
 .rintro ⟨⟨⟨⟨⟨⟨⟨⟨a,b⟩,c⟩,d⟩,e⟩,f⟩,g⟩,h⟩,i⟩;exact⟨a,b,c,d,e,f,g,h,i⟩
 .rintro ⟨a,b,c,d,e,f,g,h,i⟩;exact⟨⟨⟨⟨⟨⟨⟨⟨a,b⟩,c⟩,d⟩,e⟩,f⟩,g⟩,h⟩,i⟩
def peerB_iff{n:Net}{i:Nat}{d:Domain}{k:Int}:Sc n i d k=true↔Af k n.domains.length=true/\k≠i/\Af (nth n.domains k).dev n.devices.length=true/\(nth n.domains k).dev≠d.dev/\(nth n.domains k).vni=d.vni/\d.vni≠0/\Md n (nth n.domains k)=true/\Md n d=true/\inB (nth n.domains k).peers i=true:=by
 simp only[Sc,zG,xC,yJ,ne_eq];constructor
 .rintro ⟨⟨⟨⟨⟨⟨⟨⟨a,b⟩,c⟩,d⟩,e⟩,f⟩,g⟩,h⟩,i⟩;exact⟨a,b,c,d,e,f,g,h,i⟩
 .rintro ⟨a,b,c,d,e,f,g,h,i⟩;exact⟨⟨⟨⟨⟨⟨⟨⟨a,b⟩,c⟩,d⟩,e⟩,f⟩,g⟩,h⟩,i⟩
def Lu{n m:Net}{i:Nat}{d e:Domain}(hd:e.peers=d.peers)(h:Qs n i d=true)(hp:∀k,Sc n i d k=true->Sc m i e k=true):Qs m i e=true:=by
 rw[Qs,hd];rw[Qs]at h;rw[Aby]at h|-;intro j hj;have:=h j hj;rw[zG]at this|-;exact⟨hp _ this.1,this.2⟩
def bareB_iff{n:Net}{i:Nat}{d:Domain}:Ov n i d=true↔Af d.dev n.devices.length=true/\(1<=d.vlan/\d.vlan<=4094)/\(0<=d.vni/\d.vni<=16777215)/\(d.irb=-1\/Af d.irb n.irbs.length=true/\(nth n.irbs d.irb).domain=i)/\Da n d.dev d.vlan=i:=by
 simp only[Ov,zG,yQ,zJ,yJ];constructor
 .rintro ⟨⟨⟨⟨⟨⟨a,b⟩,c⟩,d⟩,e⟩,f⟩,g⟩;exact⟨a,⟨b,c⟩,⟨d,e⟩,f,g⟩
 .rintro ⟨a,⟨b,c⟩,⟨d,e⟩,f,g⟩;exact⟨⟨⟨⟨⟨⟨a,b⟩,c⟩,d⟩,e⟩,f⟩,g⟩
def portB_iff{n:Net}{i:Nat}{p:Port}:J7 n i p=true↔Af p.dev n.devices.length=true/\(0<=p.native/\p.native<=4094)/\U3 p.tagged 4094=true/\inB p.tagged p.native=false/\¬(p.native=0/\p.tagged=[])/\(∀v∈p.tagged,0<=Da n p.dev v) /\
  (0<p.native->0<=Da n p.dev p.native)/\(p.link=-1\/Af p.link n.links.length=true/\((nth n.links p.link).a=i\/(nth n.links p.link).b=i)):=by
 have e:H9 (λ_ v=>decide (0<=Da n p.dev v)) p.tagged=true↔∀v∈p.tagged,0<=Da n p.dev v:=by
  rw[allB_iff];simp only[zJ];constructor
  .intro h v hv;obtain ⟨j,hj,rfl⟩:=yY.1 hv;exact h j hj
  .intro h j hj;exact h _ (zI hj)
 simp only[J7,Ec];simp only[zG,yQ,e,xJ,Bool.not_true,Bool.and_eq_false_imp,zJ,zY,yJ,U3,vH];constructor
 .rintro ⟨⟨⟨⟨⟨⟨⟨⟨a,b⟩,c⟩,d⟩,e⟩,f⟩,g⟩,h⟩,i⟩;refine⟨a,⟨b,c⟩,d,e,λx=>f x.1 x.2,g,λx=>?_,i⟩;simpa using h x
 .rintro ⟨a,⟨b,c⟩,d,e,f,g,h,i⟩;refine⟨⟨⟨⟨⟨⟨⟨⟨a,b⟩,c⟩,d⟩,e⟩,λx y=>f ⟨x,y⟩⟩,g⟩,λx=>?_⟩,i⟩;simpa using h x
def linkB_iff{n:Net}{i:Nat}{l:Link}:Qb n i l=true↔Af l.a n.ports.length=true/\Af l.b n.ports.length=true/\(nth n.ports l.a).dev≠(nth n.ports l.b).dev/\(nth n.ports l.a).link=i/\(nth n.ports l.b).link=i:=by
 simp only[Qb,zG,xC,yJ,ne_eq,and_assoc]
def staticB_iff{n:Net}{s:Static}:Ll n s=true↔Af s.domain n.domains.length=true/\Af s.port n.ports.length=true/\(nth n.ports s.port).dev=(nth n.domains s.domain).dev/\Cz (nth n.ports s.port) (nth n.domains s.domain).vlan=true:=by
 simp only[Ll,zG,yJ,and_assoc]
def irbB_iff{n:Net}{i:Nat}{x:Irb}:Aao n i x=true↔Af x.domain n.domains.length=true/\Af x.vrf n.vrfs.length=true/\(nth n.domains x.domain).dev=(nth n.vrfs x.vrf).dev/\(nth n.domains x.domain).irb=i/\1<=x.bits/\x.bits<=30:=by
 simp only[Aao,zG,yJ,zJ,and_assoc]
def floodB_iff{n:Net}{f:Flood}:Oo n f=true↔Af f.dev n.devices.length=true/\f.addrs.length<=16:=by simp[Oo]
def vrfB_iff{n:Net}{v:Vrf}:Ahv n v=true↔Af v.dev n.devices.length=true/\U3 v.imports 65535=true/\U3 v.exports 65535=true:=by simp[Ahv,and_assoc]
def few_iff{n:Net}:Ac4 n=true↔n.devices.length<=8/\n.ports.length<=40/\n.links.length<=20/\n.domains.length<=48/\n.statics.length<=64/\n.floods.length<=48/\n.vrfs.length<=16/\n.irbs.length<=48:=by
 simp[Ac4,and_assoc]
def If{i:Int}{k m:Nat}(h:Af i k=true)(hkm:k<=m):Af i m=true:=by
 rw[place_iff]at h|-;omega
def Ahc{n:Net}(h:NetR n)(x:Device)(hx:n.devices.length<8):NetR {n with devices:=n.devices++[x]}:=by
 have hp:∀{i:Int},Af i n.devices.length=true->Af i (n.devices++[x]).length=true:=λh=>If h qq
 have hv:∀d:Domain,Af d.dev n.devices.length=true->Md {n with devices:=n.devices++[x]} d=Md n d:=λd hd=>by
  have:=place_iff.1 hd;simp only[Md];rw[J0 _ _ z_]
 refine⟨?_,λi hi=>?_,λi hi=>?_,λi hi=>?_,h.link,h.static,λi hi=>?_,λi hi=>?_,h.irb⟩
 .have:=few_iff.1 h.few;exact few_iff.2 (by simp only[zU,yF];omega)
 .have:=bareB_iff.1 (h.bare i hi);exact bareB_iff.2 ⟨hp this.1,this.2⟩
 .have hb:=(bareB_iff.1 (h.bare i hi)).1;refine Lu E (h.peers i hi) λk hk=>?_
  obtain ⟨a,b,c,d,e,f,g,q,r⟩:=peerB_iff.1 hk;exact peerB_iff.2 ⟨a,b,hp c,d,e,f,(hv _ c).trans g,(hv _ hb).trans q,r⟩
 .have:=portB_iff.1 (h.port i hi);exact portB_iff.2 ⟨hp this.1,this.2⟩
 .have:=floodB_iff.1 (h.flood i hi);exact floodB_iff.2 ⟨hp this.1,this.2⟩
 .have:=vrfB_iff.1 (h.vrf i hi);exact vrfB_iff.2 ⟨hp this.1,this.2⟩
def Afv{n:Net}(h:NetR n)(x:Static)(hx:Ll n x=true)(hl:n.statics.length<64):NetR {n with statics:=n.statics++[x]}:=by
 refine⟨?_,h.bare,h.peers,h.port,h.link,λi hi=>?_,h.flood,h.vrf,h.irb⟩
 .have:=few_iff.1 h.few;exact few_iff.2 (by simp only[zU,yF];omega)
 .simp only[zU,yF]at hi;by_cases e:i<n.statics.length
  .rw[show nth (n.statics++[x]) (i:Int)=nth n.statics (i:Int) from J0 _ _ e];exact h.static i e
  .rw[show i=n.statics.length by omega,Ig];exact hx
def Akw{n:Net}(h:NetR n)(x:Flood)(hx:Oo n x=true)(hl:n.floods.length<48):NetR {n with floods:=n.floods++[x]}:=by
 refine⟨?_,h.bare,h.peers,h.port,h.link,h.static,λi hi=>?_,h.vrf,h.irb⟩
 .have:=few_iff.1 h.few;exact few_iff.2 (by simp only[zU,yF];omega)
 .simp only[zU,yF]at hi;by_cases e:i<n.floods.length
  .rw[show nth (n.floods++[x]) (i:Int)=nth n.floods (i:Int) from J0 _ _ e];exact h.flood i e
  .rw[show i=n.floods.length by omega,Ig];exact hx
def Ary{n:Net}(h:NetR n)(x:Vrf)(hx:Ahv n x=true)(hl:n.vrfs.length<16):NetR {n with vrfs:=n.vrfs++[x]}:=by
 refine⟨?_,h.bare,h.peers,h.port,h.link,h.static,h.flood,λi hi=>?_,λi hi=>?_⟩
 .have:=few_iff.1 h.few;exact few_iff.2 (by simp only[zU,yF];omega)
 .simp only[zU,yF]at hi;by_cases e:i<n.vrfs.length
  .rw[show nth (n.vrfs++[x]) (i:Int)=nth n.vrfs (i:Int) from J0 _ _ e];exact h.vrf i e
  .rw[show i=n.vrfs.length by omega,Ig];exact hx
 .obtain ⟨a,b,c,d,e⟩:=irbB_iff.1 (h.irb i hi);have hb:=place_iff.1 b;exact irbB_iff.2 ⟨a,If b qq,by rw[show nth (n.vrfs++[x]) (nth n.irbs (i:Int)).vrf=nth n.vrfs (nth n.irbs (i:Int)).vrf from J0 _ _ z_];exact c,d,e⟩
def Al7{n:Net}(h:NetR n)(j:Nat)(a:Int)(ha:a≠0):NetR {n with devices:=n.devices.set j {nth n.devices j with vtep:=a} }:=by
 have hp:(n.devices.set j {nth n.devices j with vtep:=a}).length=n.devices.length:=yN;have hv:∀d:Domain,Md n d=true->Md {n with devices:=n.devices.set j {nth n.devices j with vtep:=a} } d=true:=λd hd=>by
  simp only[Md,xC,ne_eq]at hd|-;by_cases e:d.dev.toNat=j
  .by_cases hl:j<n.devices.length
   .have:nth (n.devices.set j {nth n.devices j with vtep:=a}) d.dev={nth n.devices j with vtep:=a}:=by
     rw[nth,e,uB hl];rfl
    rw[this];exact ha
   .rw[uZ z_];exact hd
  .rw[Is _ _ e];exact hd
 refine⟨?_,λi hi=>?_,λi hi=>?_,λi hi=>?_,h.link,h.static,λi hi=>?_,λi hi=>?_,h.irb⟩
 .have:=few_iff.1 h.few;exact few_iff.2 (by rw[hp];exact this)
 .have:=bareB_iff.1 (h.bare i hi);exact bareB_iff.2 ⟨by rw[hp];exact this.1,this.2⟩
 .refine Lu E (h.peers i hi) λk hk=>?_
  obtain ⟨a,b,c,d,e,f,g,q,r⟩:=peerB_iff.1 hk;exact peerB_iff.2 ⟨a,b,by rw[hp];exact c,d,e,f,hv _ g,hv _ q,r⟩
 .have:=portB_iff.1 (h.port i hi);exact portB_iff.2 ⟨by rw[hp];exact this.1,this.2⟩
 .have:=floodB_iff.1 (h.flood i hi);exact floodB_iff.2 ⟨by rw[hp];exact this.1,this.2⟩
 .have:=vrfB_iff.1 (h.vrf i hi);exact vrfB_iff.2 ⟨by rw[hp];exact this.1,this.2⟩
def Ay5{k:Type}(p:k->Bool)(l:List k)(j:Nat)(x:k)(h:∀y,l[j]? = some y->p x=p y):Bs p (l.set j x)=Bs p l:=by
 have e:(l.set j x).findIdx? p=l.findIdx? p:=by
  induction l generalizing j with
  |nil=>rfl
  |cons z l ih=>
   cases j with
   |zero=>
    rw[uP,List.findIdx?_cons,List.findIdx?_cons,h z rfl]
   |succ j=>
    rw[List.set_cons_succ,List.findIdx?_cons,List.findIdx?_cons,ih j (λy hy=>h y (kS hy))]
 rw[Bs,Bs,e]
def Ak8{n:Net}{j:Nat}(hj:j<n.domains.length)(x:Domain)(h1:x.dev=(nth n.domains j).dev)(h2:x.vlan=(nth n.domains j).vlan)(m:Net)(hm:m.domains=n.domains.set j x)(dev vlan:Int):Da m dev vlan=Da n dev vlan:=by
 rw[Da,hm,Ay5 _ _ _ _ (λy hy=>?_)]
 .rfl
 .rw[zR hj]at hy;simp only[Option.some.injEq]at hy;rw[Qg _ _ hj]at hy;rw[<-hy,h1,h2]
def J8{k:Type}[Inhabited k](l:List k)(x:k)(j:Nat)(i:Int)(f:k->Int)(hf:f x=f (nth l j))(hj:j<l.length):f (nth (l.set j x) i)=f (nth l i):=by
 by_cases e:i.toNat=j
 .have:nth (l.set j x) i=x:=by rw[nth,e,uB hj];rfl
  have h2:nth l i=nth l (j:Int):=Oc _ e;rw[this,h2,hf]
 .rw[Is _ _ e]
def Arz{n:Net}(h:NetR n)(j:Nat)(hj:j<n.domains.length)(h0:(nth n.domains j).vni=0)(v r:Int)(hv:0<=v/\v<=16777215):NetR {n with domains:=n.domains.set j {nth n.domains j with vni:=v,row:=r} }:=by
 have hl:(n.domains.set j {nth n.domains j with vni:=v,row:=r}).length=n.domains.length:=yN;have jn:=Ak8 (n:=n) hj {nth n.domains j with vni:=v,row:=r} rfl rfl {n with domains:=n.domains.set j {nth n.domains j with vni:=v,row:=r} } rfl;have gi:=λi=>J8 n.domains {nth n.domains j with vni:=v,row:=r} j i Domain.dev rfl hj
 have gl:=λi=>J8 n.domains {nth n.domains j with vni:=v,row:=r} j i Domain.vlan rfl hj
 have ox:=λi=>J8 n.domains {nth n.domains j with vni:=v,row:=r} j i Domain.irb rfl hj
 have ag:∀i:Nat,i≠j->nth (n.domains.set j {nth n.domains j with vni:=v,row:=r}) (i:Int)=nth n.domains (i:Int):=λi hi=>Is _ _ (by rw[yE];exact hi)
 refine⟨?_,λi hi=>?_,λi hi=>?_,λi hi=>?_,h.link,λi hi=>?_,h.flood,h.vrf,λi hi=>?_⟩
 .have:=few_iff.1 h.few;exact few_iff.2 (by rw[hl];exact this)
 .rw[hl]at hi;obtain ⟨a,b,c,d,e⟩:=bareB_iff.1 (h.bare i hi);refine bareB_iff.2 ⟨by rw[gi];exact a,by rw[gl];exact b,?_,by rw[ox];exact d,by rw[jn,gi,gl];exact e⟩;by_cases ij:i=j
  .subst ij;show 0<=(nth (n.domains.set i {nth n.domains i with vni:=v,row:=r}) (i:Int)).vni/\(nth (n.domains.set i {nth n.domains i with vni:=v,row:=r}) (i:Int)).vni<=_;rw[oX _ _ hj];exact hv
  .rw[ag i ij];exact c
 .rw[hl]at hi;have j0:=h.peers i hi;by_cases ij:i=j
  .subst ij;rw[oX _ _ hj];have:(nth n.domains (i:Int)).peers=[]:=by
    cases hp:(nth n.domains (i:Int)).peers with
    |nil=>rfl
    |cons k r=>
     rw[Qs,hp,Aby]at j0;have:=j0 0 qq;rw[zG]at this;exact zX h0 (peerB_iff.1 this.1).2.2.2.2.2.1
   rw[Qs];dsimp only;rw[this];rfl
  .rw[ag i ij];refine Lu E j0 λk hk=>?_
   obtain ⟨a,b,c,d,e,f,g,q,rr⟩:=peerB_iff.1 hk;have hk:=place_iff.1 a;have kj:k.toNat≠j:=λkj=>by
    have:nth n.domains k=nth n.domains (j:Int):=Oc _ kj;rw[this,h0]at e;exact f e.symm
   have jo:nth (n.domains.set j {nth n.domains j with vni:=v,row:=r}) k=nth n.domains k:=Is _ _ kj;exact peerB_iff.2 ⟨by rw[hl];exact a,b,by rw[jo];exact c,by rw[jo];exact d,by rw[jo];exact e,f,by rw[jo];exact g,q,by rw[jo];exact rr⟩
 .obtain ⟨a,b,c,d,e,f,g,q⟩:=portB_iff.1 (h.port i hi);exact portB_iff.2 ⟨a,b,c,d,e,λv hv=>by rw[jn];exact f v hv,λhv=>by rw[jn];exact g hv,q⟩
 .obtain ⟨a,b,c,d⟩:=staticB_iff.1 (h.static i hi);exact staticB_iff.2 ⟨by rw[hl];exact a,b,by rw[gi];exact c,by rw[gl];exact d⟩
 .obtain ⟨a,b,c,d,e⟩:=irbB_iff.1 (h.irb i hi);exact irbB_iff.2 ⟨by rw[hl];exact a,b,by rw[gi];exact c,by rw[ox];exact d,e⟩
def Aug{n:Net}(h:NetR n)(j:Nat)(hj:j<n.domains.length)(h0:(nth n.domains j).irb<0)(x:Irb)(hx:x.domain=j)(hv:Af x.vrf n.vrfs.length=true)(hd:(nth n.domains j).dev=(nth n.vrfs x.vrf).dev)(hb:1<=x.bits/\x.bits<=30):NetR {n with domains:=n.domains.set j {nth n.domains j with irb:=n.irbs.length},irbs:=n.irbs++[x]}:=by
 have hl:(n.domains.set j {nth n.domains j with irb:=n.irbs.length}).length=n.domains.length:=yN;have jn:=Ak8 (n:=n) hj {nth n.domains j with irb:=n.irbs.length} rfl rfl {n with domains:=n.domains.set j {nth n.domains j with irb:=n.irbs.length},irbs:=n.irbs++[x]} rfl;have gi:=λi=>J8 n.domains {nth n.domains j with irb:=n.irbs.length} j i Domain.dev rfl hj
 have gl:=λi=>J8 n.domains {nth n.domains j with irb:=n.irbs.length} j i Domain.vlan rfl hj
 have hvn:=λi=>J8 n.domains {nth n.domains j with irb:=n.irbs.length} j i Domain.vni rfl hj
 have gp:∀i,(nth (n.domains.set j {nth n.domains j with irb:=n.irbs.length}) i).peers=(nth n.domains i).peers:=λi=>by
  by_cases e:i.toNat=j
  .have:nth (n.domains.set j {nth n.domains j with irb:=n.irbs.length}) i={nth n.domains j with irb:=n.irbs.length}:=by rw[nth,e,uB hj];rfl
   have h2:nth n.domains i=nth n.domains (j:Int):=Oc _ e;rw[this,h2]
  .rw[Is _ _ e]
 have ag:∀i:Nat,i≠j->nth (n.domains.set j {nth n.domains j with irb:=n.irbs.length}) (i:Int)=nth n.domains (i:Int):=λi hi=>Is _ _ (by rw[yE];exact hi)
 have ph:nth (n.domains.set j {nth n.domains j with irb:=n.irbs.length}) (j:Int)={nth n.domains j with irb:=n.irbs.length}:=oX _ _ hj;have nk:n.irbs.length<48:=by
  have hf:=few_iff.1 h.few;refine yV ?_ hf.2.2.2.1;have inj:∀a b:Nat,a<n.irbs.length->b<n.irbs.length->(nth n.irbs (a:Int)).domain=(nth n.irbs (b:Int)).domain->a=b:=λa b ha hb e=>by
   have h1:=(irbB_iff.1 (h.irb a ha)).2.2.2.1;have h2:=(irbB_iff.1 (h.irb b hb)).2.2.2.1;rw[e,h2]at h1;omega
  have a6:((List.range n.irbs.length).map λa:Nat=>(nth n.irbs (a:Int)).domain.toNat).length<=((List.range n.domains.length).erase j).length:=by
   refine List.Nodup.length_le_of_subset ?_ ?_
   .rw[List.nodup_iff_pairwise_ne,List.pairwise_map];refine List.Pairwise.imp_of_mem ?_ List.pairwise_lt_range;intro a b ha hb hab e;have ha:=xA.1 ha;have hb:=xA.1 hb;have p1:=place_iff.1 (irbB_iff.1 (h.irb a ha)).1;have p2:=place_iff.1 (irbB_iff.1 (h.irb b hb)).1;have:=inj a b ha hb z_;omega
   .intro y hy;obtain ⟨a,ha,rfl⟩:=yS.1 hy;have ha:=xA.1 ha;have p1:=place_iff.1 (irbB_iff.1 (h.irb a ha)).1;have p2:=(irbB_iff.1 (h.irb a ha)).2.2.2.1;rw[List.mem_erase_of_ne]
    .exact xA.2 z_
    .intro e;have:nth n.domains (nth n.irbs (a:Int)).domain=nth n.domains (j:Int):=Oc _ e;rw[this]at p2;omega
  rw[yZ,tT,List.length_erase_of_mem (xA.2 hj),tT]at a6;omega
 refine⟨?_,λi hi=>?_,λi hi=>?_,λi hi=>?_,h.link,λi hi=>?_,h.flood,h.vrf,λi hi=>?_⟩
 .have:=few_iff.1 h.few;exact few_iff.2 (by rw[hl];simp only[zU,yF];omega)
 .rw[hl]at hi;obtain ⟨a,b,c,d,e⟩:=bareB_iff.1 (h.bare i hi);refine bareB_iff.2 ⟨by rw[gi];exact a,by rw[gl];exact b,by rw[hvn];exact c,?_,by rw[jn,gi,gl];exact e⟩;by_cases ij:i=j
  .subst ij;rw[ph];refine .inr ⟨place_iff.2 kO,?_⟩;show (nth (n.irbs++[x]) (n.irbs.length:Int)).domain=_;rw[Ig,hx]
  .rw[ag i ij];rcases d with d|⟨d1,d2⟩
   .exact .inl d
   .have:=place_iff.1 d1;exact .inr ⟨If d1 qq,by rw[show nth (n.irbs++[x]) (nth n.domains (i:Int)).irb=nth n.irbs (nth n.domains (i:Int)).irb from J0 _ _ z_];exact d2⟩
 .rw[hl]at hi;refine Lu (gp _) (h.peers i hi) λk hk=>?_
  obtain ⟨a,b,c,d,e,f,g,q,r⟩:=peerB_iff.1 hk;have hvt:∀k,Md {n with domains:=n.domains.set j {nth n.domains j with irb:=n.irbs.length},irbs:=n.irbs++[x]} (nth (n.domains.set j {nth n.domains j with irb:=n.irbs.length}) k)=Md n (nth n.domains k):=λk=>by
   simp only[Md];rw[gi]
  exact peerB_iff.2 ⟨by rw[hl];exact a,b,by rw[gi];exact c,by rw[gi,gi];exact d,by rw[hvn,hvn];exact e,by rw[hvn];exact f,(hvt k).trans g,(hvt i).trans q,by rw[gp];exact r⟩
 .obtain ⟨a,b,c,d,e,f,g,q⟩:=portB_iff.1 (h.port i hi);exact portB_iff.2 ⟨a,b,c,d,e,λv hv=>by rw[jn];exact f v hv,λhv=>by rw[jn];exact g hv,q⟩
 .obtain ⟨a,b,c,d⟩:=staticB_iff.1 (h.static i hi);exact staticB_iff.2 ⟨by rw[hl];exact a,b,by rw[gi];exact c,by rw[gl];exact d⟩
 .simp only[zU,yF]at hi;by_cases e:i<n.irbs.length
  .rw[show nth (n.irbs++[x]) (i:Int)=nth n.irbs (i:Int) from J0 _ _ e];obtain ⟨a,b,c,d,e⟩:=irbB_iff.1 (h.irb i e);have pa:=place_iff.1 a;have hdj:(nth n.irbs (i:Int)).domain.toNat≠j:=λe=>by
    have:nth n.domains (nth n.irbs (i:Int)).domain=nth n.domains (j:Int):=Oc _ e;rw[this]at d;omega
   have hk:nth (n.domains.set j {nth n.domains j with irb:=n.irbs.length}) (nth n.irbs (i:Int)).domain=nth n.domains (nth n.irbs (i:Int)).domain:=Is _ _ hdj;exact irbB_iff.2 ⟨by rw[hl];exact a,b,by rw[hk];exact c,by rw[hk];exact d,e⟩
  .rw[show i=n.irbs.length by omega,Ig];refine irbB_iff.2 ⟨by rw[hl];exact place_iff.2 z_,hv,?_,?_,hb⟩
   .rw[hx,ph];exact hd
   .rw[hx,ph]
def idxI_nonneg{k:Type}{p:k->Bool}{l:List k}:0<=Bs p l↔l.any p=true:=by
 rw[wJ];constructor
 .intro h;cases hf:l.findIdx? p with
  |none=>simp only[Bs,hf]at h;omega
  |some i=>
   rw[wD]at hf;obtain ⟨h1,h2,_⟩:=hf;exact⟨l[i],zI h1,h2⟩
 .rintro ⟨x,hx,hp⟩;cases hf:l.findIdx? p with
  |none=>
   rw[List.findIdx?_eq_none_iff]at hf;rw[hf x hx]at hp;cases hp
  |some i=>simp only[Bs,hf];omega
def H5{k:Type}[Inhabited k]{p:k->Bool}{l:List k}(h:0<=Bs p l):(Bs p l).toNat<l.length/\p (nth l (Bs p l))=true:=by
 cases hf:l.findIdx? p with
 |none=>simp only[Bs,hf]at h;omega
 |some i=>
  have e:Bs p l=i:=by simp only[Bs,hf]
  rw[wD]at hf;obtain ⟨h1,h2,_⟩:=hf;rw[e,yE];refine⟨h1,?_⟩;rw[<-Qg l i h1];exact h2
def Aki{k:Type}(p:k->Bool)(l e:List k)(h:0<=Bs p l):Bs p (l++e)=Bs p l:=by
 cases hf:l.findIdx? p with
 |none=>simp only[Bs,hf]at h;omega
 |some i=>
  have:(l++e).findIdx? p=some i:=by rw[List.findIdx?_append,hf];rfl
  simp only[Bs,hf,this]
def Aek{k:Type}(p:k->Bool)(l:List k)(x:k)(h:l.any p=false)(hx:p x=true):Bs p (l++[x])=l.length:=by
 refine Ct (j:=l.length) qq (λi hi cy=>?_) ?_
 .rw[yT cy];rw[wK]at h;have:=h l[i] (zI cy);simpa using this
 .rw[xR (yG _)];simpa using hx
def Ag7{n:Net}(h:NetR n)(dev v:Int)(hd:Af dev n.devices.length=true)(hv:1<=v/\v<=4094)(ha:n.domains.any (λd=>d.dev==dev&&d.vlan==v)=false)(m:Net)(hm:m={n with domains:=n.domains++[⟨dev,v,0,-1,0,[]⟩]})(hl:n.domains.length<48):NetR m:=by
 subst hm;have hn:∀{i:Int},i.toNat<n.domains.length->nth (n.domains++[(⟨dev,v,0,-1,0,[]⟩:Domain)]) i=nth n.domains i:=λh=>J0 _ _ h
 have hnn:∀{i:Nat},i<n.domains.length->nth (n.domains++[(⟨dev,v,0,-1,0,[]⟩:Domain)]) (i:Int)=nth n.domains (i:Int):=λh=>J0 _ _ h
 have w6:∀a b,0<=Da n a b->Da {n with domains:=n.domains++[⟨dev,v,0,-1,0,[]⟩]} a b=Da n a b:=λa b h=>Aki _ _ _ h
 refine⟨?_,λi hi=>?_,λi hi=>?_,λi hi=>?_,h.link,λi hi=>?_,h.flood,h.vrf,λi hi=>?_⟩
 .have:=few_iff.1 h.few;exact few_iff.2 (by simp only[zU,yF];omega)
 .simp only[zU,yF]at hi;by_cases e:i<n.domains.length
  .rw[hnn e];obtain ⟨a,b,c,d,f⟩:=bareB_iff.1 (h.bare i e);exact bareB_iff.2 ⟨a,b,c,d,by rw[w6 _ _ z_];exact f⟩
  .rw[show i=n.domains.length by omega,Ig];refine bareB_iff.2 ⟨hd,hv,⟨xN _,by show (0:Int)<=_;decide⟩,.inl E,?_⟩;exact Aek _ _ _ ha qq
 .simp only[zU,yF]at hi;by_cases e:i<n.domains.length
  .rw[hnn e];refine Lu E (h.peers i e) λk hk=>?_
   obtain ⟨a,b,c,d,f,g,o,q,r⟩:=peerB_iff.1 hk;have ha:=place_iff.1 a;exact peerB_iff.2 ⟨If a qq,b,by rw[hn z_];exact c,by rw[hn z_];exact d,by rw[hn z_];exact f,g,by rw[hn z_];exact o,q,by rw[hn z_];exact r⟩
  .rw[show i=n.domains.length by omega,Ig];rfl
 .obtain ⟨a,b,c,d,e,f,g,q⟩:=portB_iff.1 (h.port i hi);exact portB_iff.2 ⟨a,b,c,d,e,λv hv=>by rw[w6 _ _ (f v hv)];exact f v hv,λhv=>by rw[w6 _ _ (g hv)];exact g hv,q⟩
 .obtain ⟨a,b,c,d⟩:=staticB_iff.1 (h.static i hi);have pa:=place_iff.1 a;have e1:=hn (i:=(nth n.statics (i:Int)).domain) z_;exact staticB_iff.2 ⟨If a qq,b,c.trans (zH Domain.dev e1).symm,by have:=d;rw[<-zH Domain.vlan e1]at this;exact this⟩
 .obtain ⟨a,b,c,d,e⟩:=irbB_iff.1 (h.irb i hi);have pa:=place_iff.1 a;have e1:=hn (i:=(nth n.irbs (i:Int)).domain) z_;exact irbB_iff.2 ⟨If a qq,b,(zH Domain.dev e1).trans c,(zH Domain.irb e1).trans d,e⟩
def fR(dev:Int):∀(l:List Int) (ds:List Domain),ds.length<=(Bk dev ds l).length
 |[],ds=>yG _
 |v::l,ds=>by
  refine wQ ?_ (fR dev l (Cw dev ds v));rw[Cw];split<;>simp
def Yd{dev:Int}:∀(l:List Int) (n:Net),NetR n->Af dev n.devices.length=true->(∀v∈l,v<=4094)->(Bk dev n.domains l).length<=48->NetR {n with domains:=Bk dev n.domains l}/\∀v∈l,0<v->0<=Da {n with domains:=Bk dev n.domains l} dev v
 |[],n,h,_,_,_=>⟨h,λv hv=>by cases hv⟩
 |v::l,n,h,hd,hv,hl=>by
  have hlen:=fR dev l (Cw dev n.domains v);have e:Bk dev n.domains (v::l)=Bk dev (Cw dev n.domains v) l:=rfl;rw[e]at hl|-;have h1:NetR {n with domains:=Cw dev n.domains v}/\(0<v->0<=Da {n with domains:=Cw dev n.domains v} dev v):=by
   rw[Cw]at hlen|-;split
   .rename_i hc;rw[zE hc]at hlen;refine⟨Ag7 h dev v hd ⟨by omega,hv v qq⟩ hc.2 _ E ?_,λ_=>?_⟩
    .have tr:=hl;rw[Cw,zE hc]at tr;simp only[zU,yF]at hlen;omega
    .rw[Da,Aek _ _ _ hc.2 qq];omega
   .rename_i hc;refine⟨h,λh0=>?_⟩;have:n.domains.any (λd=>d.dev==dev&&d.vlan==v)=true:=by
     cases ha:n.domains.any (λd=>d.dev==dev&&d.vlan==v)
     .exact zX ⟨h0,ha⟩ hc
     .rfl
    exact idxI_nonneg.2 this
  obtain ⟨r1,r2⟩:=Yd l {n with domains:=Cw dev n.domains v} h1.1 hd (λx hx=>hv x (by simp[hx])) hl;refine⟨r1,λx hx h0=>?_⟩;rcases yH.1 hx with rfl|hx
  .have h2:=h1.2 h0;have:∀(l:List Int) (ds:List Domain),0<=Bs (λd:Domain=>d.dev==dev&&d.vlan==x) ds->0<=Bs (λd:Domain=>d.dev==dev&&d.vlan==x) (Bk dev ds l):=by
    intro l
    induction l with
    |nil=>exact λds h=>h
    |cons y l ih=>
     intro ds h;refine ih (Cw dev ds y) ?_;rw[Cw];split
     .rw[Aki _ _ _ h];exact h
     .exact h
   exact this l _ h2
  .exact r2 x hx h0
def Anu{n:Net}(h:NetR n)(p:Port)(hp:J7 n n.ports.length p=true)(hl:n.ports.length<40):NetR {n with ports:=n.ports++[p]}:=by
 have hn:∀{i:Int},i.toNat<n.ports.length->nth (n.ports++[p]) i=nth n.ports i:=λh=>J0 _ _ h
 refine⟨?_,h.bare,h.peers,λi hi=>?_,λi hi=>?_,λi hi=>?_,h.flood,h.vrf,h.irb⟩
 .have:=few_iff.1 h.few;exact few_iff.2 (by simp only[zU,yF];omega)
 .simp only[zU,yF]at hi;by_cases e:i<n.ports.length
  .have e1:nth (n.ports++[p]) (i:Int)=nth n.ports (i:Int):=hn (i:=(i:Int)) e;rw[e1];exact h.port i e
  .rw[show i=n.ports.length by omega,Ig];exact hp
 .obtain ⟨a,b,c,d,e⟩:=linkB_iff.1 (h.link i hi);have pa:=place_iff.1 a;have pb:=place_iff.1 b;have e1:=hn (i:=(nth n.links (i:Int)).a) z_;have e2:=hn (i:=(nth n.links (i:Int)).b) z_;exact linkB_iff.2 ⟨If a qq,If b qq,λx=>c ((zH Port.dev e1).symm.trans (x.trans (zH Port.dev e2))),(zH Port.link e1).trans d,(zH Port.link e2).trans e⟩
 .obtain ⟨a,b,c,d⟩:=staticB_iff.1 (h.static i hi);have pb:=place_iff.1 b;have e1:=hn (i:=(nth n.statics (i:Int)).port) z_;exact staticB_iff.2 ⟨a,If b qq,(zH Port.dev e1).trans c,by have:=d;rw[<-e1]at this;exact this⟩
def Aoo{n:Net}(h:NetR n)(a b:Nat)(ha:a<n.ports.length)(hb:b<n.ports.length)(hd:(nth n.ports a).dev≠(nth n.ports b).dev)(h1:(nth n.ports a).link<0)(h2:(nth n.ports b).link<0)(row:Int)(hl:n.links.length<20):NetR {n with ports:=Ho (Ho n.ports a n.links.length) b n.links.length,links:=n.links++[⟨row,a,b⟩]}:=by
 have hab:a≠b:=λe=>hd (by rw[e])
 have hlen:(Ho (Ho n.ports a n.links.length) b n.links.length).length=n.ports.length:=by simp[Ho]
 have sx:∀i:Int,i.toNat≠a->i.toNat≠b->nth (Ho (Ho n.ports a n.links.length) b n.links.length) i=nth n.ports i:=λi x y=>by
  rw[Ho,yE,Is _ _ y,Ho,yE,Is _ _ x]
 have rh:∀i:Int,i.toNat=a->nth (Ho (Ho n.ports a n.links.length) b n.links.length) i={nth n.ports a with link:=n.links.length}:=λi x=>by
  rw[Ho,yE,Is _ _ z_,Ho,yE,nth,x,uB ha];rfl
 have w7:∀i:Int,i.toNat=b->nth (Ho (Ho n.ports a n.links.length) b n.links.length) i={nth n.ports b with link:=n.links.length}:=λi x=>by
  have e:nth (Ho n.ports a n.links.length) (b:Int)=nth n.ports b:=by rw[Ho,yE,Is _ _ (by rw[yE];omega)]
  rw[Ho,yE,e,nth,x,uB (by rw[Ho,yN];exact hb)];rfl
 have same:∀{r:Type} (f:Port->r),(∀p k,f {p with link:=k}=f p)->∀i:Int,f (nth (Ho (Ho n.ports a n.links.length) b n.links.length) i)=f (nth n.ports i):=λf hf i=>by
  by_cases x:i.toNat=a
  .rw[rh i x,hf,nth,nth,x,yE]
  .by_cases y:i.toNat=b
   .rw[w7 i y,hf,nth,nth,y,yE]
   .rw[sx i x y]
 have sd:=same Port.dev (λ_ _=>rfl);have sn:=same Port.native (λ_ _=>rfl);have st:=same Port.tagged (λ_ _=>rfl);have sm:=same (λp v=>Cz p v) (λ_ _=>rfl);refine⟨?_,h.bare,h.peers,λi hi=>?_,λi hi=>?_,λi hi=>?_,h.flood,h.vrf,h.irb⟩
 .have:=few_iff.1 h.few;exact few_iff.2 (by rw[hlen];simp only[zU,yF];omega)
 .rw[hlen]at hi;obtain ⟨c1,c2,c3,c4,c5,c6,c7,c8⟩:=portB_iff.1 (h.port i hi);refine portB_iff.2 ⟨by rw[sd];exact c1,by rw[sn];exact c2,by rw[st];exact c3,by rw[st,sn];exact c4,by rw[sn,st];exact c5,by rw[st,sd];exact c6,by rw[sn,sd];exact c7,?_⟩;have nl:nth (n.links++[(⟨row,a,b⟩:Link)]) (n.links.length:Int)=⟨row,a,b⟩:=Ig _ _;by_cases x:i=a
  .rw[rh i (by rw[yE];exact x)];refine .inr ⟨place_iff.2 kO,.inl ?_⟩;show (nth (n.links++[(⟨row,a,b⟩:Link)]) (n.links.length:Int)).a=_;rw[nl,x]
  .by_cases y:i=b
   .rw[w7 i (by rw[yE];exact y)];refine .inr ⟨place_iff.2 kO,.inr ?_⟩;show (nth (n.links++[(⟨row,a,b⟩:Link)]) (n.links.length:Int)).b=_;rw[nl,y]
   .rw[sx i (by rw[yE];exact x) (by rw[yE];exact y)];rcases c8 with c8|⟨d1,d2⟩
    .exact .inl c8
    .have pd:=place_iff.1 d1;exact .inr ⟨If d1 qq,by rw[show nth (n.links++[(⟨row,a,b⟩:Link)]) (nth n.ports (i:Int)).link=nth n.links (nth n.ports (i:Int)).link from J0 _ _ z_];exact d2⟩
 .simp only[zU,yF]at hi;by_cases e:i<n.links.length
  .rw[show nth (n.links++[(⟨row,a,b⟩:Link)]) (i:Int)=nth n.links (i:Int) from J0 _ _ e];obtain ⟨c1,c2,c3,c4,c5⟩:=linkB_iff.1 (h.link i e);have off:∀k:Int,(nth n.ports k).link=(i:Int)->nth (Ho (Ho n.ports a n.links.length) b n.links.length) k=nth n.ports k:=λk hk=>by
    refine sx k (λx=>?_) (λx=>?_)
    .have:nth n.ports k=nth n.ports (a:Int):=Oc _ x;rw[this]at hk;omega
    .have:nth n.ports k=nth n.ports (b:Int):=Oc _ x;rw[this]at hk;omega
   exact linkB_iff.2 ⟨by rw[hlen];exact c1,by rw[hlen];exact c2,by rw[sd,sd];exact c3,by rw[off _ c4];exact c4,by rw[off _ c5];exact c5⟩
  .rw[show i=n.links.length by omega,Ig];refine linkB_iff.2 ⟨by rw[hlen];exact place_iff.2 ⟨by show (0:Int)<=(a:Int);omega,by show (a:Int)<_;omega⟩,by rw[hlen];exact place_iff.2 ⟨by show (0:Int)<=(b:Int);omega,by show (b:Int)<_;omega⟩,by rw[sd,sd];exact hd,?_,?_⟩
   .rw[rh (a:Int) (yE a)]
   .rw[w7 (b:Int) (yE b)]
 .obtain ⟨c1,c2,c3,c4⟩:=staticB_iff.1 (h.static i hi);refine staticB_iff.2 ⟨c1,by rw[hlen];exact c2,by rw[sd];exact c3,?_⟩;have:=sm (nth n.statics (i:Int)).port;exact(congrFun this _).trans c4
def V1{n:Net}{l:LineM}{k:Int}(h:¬fitsB n l k=false):l.kind=k/\(Bn l).2=true/\NetR n:=by
 have h:fitsB n l k=true:=kS h;simp only[fitsB,Cn,zG,yJ]at h;exact⟨h.1,h.2.1.1,netR_iff.1 h.2.2⟩
def S2{n:Net}{l:LineM}{k:Int}(h:¬(begT n l k).2≠0):l.kind=k/\(Bn l).2=true/\NetR n/\0<=Cf n l.dev/\(Cf n l.dev).toNat<n.devices.length/\(begT n l k).1=Cf n l.dev:=by
 rw[begT]at h|-;split at h
 .simp at h
 .rename_i h1;rw[zD h1];split at h
  .simp at h
  .rename_i h2;rw[zD h2];obtain ⟨a,b,c⟩:=V1 h1;exact⟨a,b,c,by omega,(H5 (p:=λd:Device=>d.name==l.dev) (by show 0<=Cf n l.dev;omega)).1,E⟩
def Atw{l:List Int}{v:Int}:inB l v=l.contains v:=by
 induction l with
 |nil=>rfl
 |cons x l ih=>
  rw[inB,List.any_cons,List.contains_cons];rw[inB]at ih;rw[ih];congr 1;exact Bool.beq_comm
def As6{n:Net}{l:LineM}(h:(putT n l).2=0):NetR (putT n l).1:=by
 rw[putT]at h|-;by_cases k1:l.kind=1
 .rw[zE k1]at h|-;rw[putDevice]at h|-
  repeat' split at h
  all_goals (try (simp at h;done))
  rename_i h1 h2 h3;rw[zD h1,zD h2,zD h3];obtain ⟨_,_,hr⟩:=V1 h1;have:=few_iff.1 hr.few;exact Ahc hr _ z_
 rw[zD k1]at h|-;by_cases k2:l.kind=2
 .rw[zE k2]at h|-;rw[putPort]at h|-
  repeat' split at h
  all_goals (try (simp at h;done))
  rename_i h1 h2 h3 h4 h5;rw[zD h1,zD h2,zD h3,zD h4,zD h5];obtain ⟨_,hu,hr⟩:=V1 h1;have hf:=few_iff.1 hr.few;simp only[Bn,zD k1,zE k2,zG]at hu;obtain ⟨u1,u2,u3,u4,u5⟩:=hu;have hv:=within_iff.1 u3;have hp:=(H5 (p:=λd:Device=>d.name==l.dev) (l:=n.devices) (by show 0<=Cf n l.dev;omega)).1;have bd:Af (Cf n l.dev) n.devices.length=true:=place_iff.2 ⟨by omega,by have:(Cf n l.dev).toNat<n.devices.length:=hp;omega⟩;have pi:∀v∈l.tagged,1<=v/\v<=4094:=λv hv=>by
   rcases listOK_iff.1 u4 with e|e
   .rw[e]at hv;cases hv
   .exact(rising_iff.1 e).2.1 v hv
  obtain ⟨r1,r2⟩:=Yd (l.vlan::l.tagged) n hr bd (λ v hv=>by
   rcases yH.1 hv with rfl|hv
   .omega
   .exact(pi v hv).2) z_
  refine Anu r1 _ (portB_iff.2 ⟨bd,hv,u4,?_,?_,λv hv=>r2 v (by simp[hv]) (by have:=pi v hv;omega),λh0=>r2 _ qq h0,.inl E⟩) (by show n.ports.length<40;omega)
  .simp only[membersB,zG,xJ,Bool.not_true]at u5;rw[Atw];exact u5.2
  .rintro ⟨e1,e2⟩;dsimp only at e1 e2;simp[membersB,e1,e2]at u5
 rw[zD k2]at h|-;by_cases k3:l.kind=3
 .rw[zE k3]at h|-;rw[putLink]at h|-;dsimp only at h|-
  repeat' split at h
  all_goals (try (simp at h;done))
  rename_i h1 h2 h3 h4;rw[zD h1,zD h2,zD h3,zD h4];obtain ⟨_,hu,hr⟩:=V1 h1;have hf:=few_iff.1 hr.few;have jq:∀d p,0<=endI n d p->(endI n d p).toNat<n.ports.length:=λd p h=>by
   rw[endI]at h|-;split at h
   .omega
   .rename_i hx;rw[zD hx];exact(H5 h).1
  have ha:=jq l.dev l.port z_;have hb:=jq l.peer l.far z_;generalize endI n l.dev l.port=a at *;generalize endI n l.peer l.far=b at *;obtain ⟨a,rfl⟩:∃k:Nat,a=k:=⟨a.toNat,by omega⟩
  obtain ⟨b,rfl⟩:∃k:Nat,b=k:=⟨b.toNat,by omega⟩
  rw[yE]at ha hb;simp only[vW]at h3;exact Aoo hr a b ha hb h3.1 z_ z_ l.row z_
 rw[zD k3]at h|-;by_cases k4:l.kind=4
 .rw[zE k4]at h|-;rw[putStatic]at h|-;dsimp only at h|-
  repeat' split at h
  all_goals (try (simp at h;done))
  rename_i h1 h2 h3 h4 h5;rw[zD h1,zD h2,zD h3,zD h4,zD h5];obtain ⟨_,hu,hr⟩:=V1 h1;have hf:=few_iff.1 hr.few;simp only[vW]at h2 h3;have p1:=H5 (p:=λp:Port=>p.dev==Cf n l.dev&&p.name==l.port) (l:=n.ports) (by show 0<=M7 n (Cf n l.dev) l.port;omega);have p2:=H5 (p:=λd:Domain=>d.dev==Cf n l.dev&&d.vlan==l.vlan) (l:=n.domains) (by show 0<=Da n (Cf n l.dev) l.vlan;omega);obtain ⟨a1,a2⟩:=p1;obtain ⟨b1,b2⟩:=p2;have a1:(M7 n (Cf n l.dev) l.port).toNat<n.ports.length:=a1;have b1:(Da n (Cf n l.dev) l.vlan).toNat<n.domains.length:=b1;simp only[zG,yJ]at a2 b2;have a2:(nth n.ports (M7 n (Cf n l.dev) l.port)).dev=Cf n l.dev:=a2.1;have b2:(nth n.domains (Da n (Cf n l.dev) l.vlan)).dev=Cf n l.dev/\(nth n.domains (Da n (Cf n l.dev) l.vlan)).vlan=l.vlan:=b2;refine Afv hr _ (staticB_iff.2 ⟨place_iff.2 ⟨?_,?_⟩,place_iff.2 ⟨?_,?_⟩,?_,?_⟩) z_
  .show 0<=Da n (Cf n l.dev) l.vlan;omega
  .show Da n (Cf n l.dev) l.vlan<_;omega
  .show 0<=M7 n (Cf n l.dev) l.port;omega
  .show M7 n (Cf n l.dev) l.port<_;omega
  .exact a2.trans b2.1.symm
  .show Cz _ (nth n.domains (Da n (Cf n l.dev) l.vlan)).vlan=true;rw[b2.2];simpa using h3.2
 rw[zD k4]at h|-;by_cases k5:l.kind=5
 .rw[zE k5]at h|-;rw[putVtep]at h|-;dsimp only at h|-;by_cases h1:(begT n l 5).2≠0
  .rw[zE h1]at h;exact zX h h1
  rw[zD h1]at h|-;split at h
  .simp at h
  rename_i h2;rw[zD h2];obtain ⟨_,hu,hr,d0,d1,d2⟩:=S2 h1;simp only[Bn,zD k1,zD k2,zD k3,zD k4,zE k5,zJ]at hu;rw[d2];have:=Al7 hr (Cf n l.dev).toNat l.addr hu;rw[yR d0]at this;exact this
 rw[zD k5]at h|-;by_cases k6:l.kind=6
 .rw[zE k6]at h|-;rw[putVni]at h|-;dsimp only at h|-;by_cases h1:(begT n l 6).2≠0
  .rw[zE h1]at h;exact zX h h1
  rw[zD h1]at h|-;obtain ⟨_,hu,hr,d0,d1,d2⟩:=S2 h1;rw[d2]at h|-
  repeat' split at h
  all_goals (try (simp at h;done))
  rename_i h2 h3 h4;rw[zD h2,zD h3,zD h4];simp only[Bn,zD k1,zD k2,zD k3,zD k4,zD k5,zE k6,zG]at hu;have hv:=within_iff.1 hu.2;have b1:(Da n (Cf n l.dev) l.vlan).toNat<n.domains.length:=(H5 (p:=λd:Domain=>d.dev==Cf n l.dev&&d.vlan==l.vlan) (l:=n.domains) (by show 0<=Da n (Cf n l.dev) l.vlan;omega)).1;simp only[vW,Decidable.not_not]at h4;generalize Da n (Cf n l.dev) l.vlan=j at *;obtain ⟨j,rfl⟩:∃k:Nat,j=k:=⟨j.toNat,by omega⟩
  rw[yE]at b1|-;exact Arz hr j b1 h4.1 l.num l.row ⟨by omega,hv.2⟩
 rw[zD k6]at h|-;by_cases k7:l.kind=7
 .rw[zE k7]at h|-;rw[putFlood]at h|-;dsimp only at h|-;by_cases h1:(begT n l 7).2≠0
  .rw[zE h1]at h;exact zX h h1
  rw[zD h1]at h|-;obtain ⟨_,hu,hr,d0,d1,d2⟩:=S2 h1;rw[d2]at h|-
  repeat' split at h
  all_goals (try (simp at h;done))
  rename_i h2 h3 h4 h5;rw[zD h2,zD h3,zD h4,zD h5];have hf:=few_iff.1 hr.few;simp only[Bn,zD k1,zD k2,zD k3,zD k4,zD k5,zD k6,zE k7,zG,K6,zJ]at hu;exact Akw hr _ (floodB_iff.2 ⟨place_iff.2 ⟨d0,by show Cf n l.dev<_;omega⟩,hu.2.2.2⟩) z_
 rw[zD k7]at h|-;by_cases k8:l.kind=8
 .rw[zE k8]at h|-;rw[putVrf]at h|-;dsimp only at h|-;by_cases h1:(begT n l 8).2≠0
  .rw[zE h1]at h;exact zX h h1
  rw[zD h1]at h|-;obtain ⟨_,hu,hr,d0,d1,d2⟩:=S2 h1;rw[d2]at h|-
  repeat' split at h
  all_goals (try (simp at h;done))
  rename_i h2 h3;rw[zD h2,zD h3];have hf:=few_iff.1 hr.few;simp only[Bn,zD k1,zD k2,zD k3,zD k4,zD k5,zD k6,zD k7,zE k8,zG]at hu;exact Ary hr _ (vrfB_iff.2 ⟨place_iff.2 ⟨d0,by show Cf n l.dev<_;omega⟩,hu.2.1,hu.2.2⟩) z_
 rw[zD k8]at h|-;by_cases k9:l.kind=9
 .rw[zE k9]at h|-;rw[putIrb]at h|-;dsimp only at h|-;by_cases h1:(begT n l 9).2≠0
  .rw[zE h1]at h;exact zX h h1
  rw[zD h1]at h|-;obtain ⟨_,hu,hr,d0,d1,d2⟩:=S2 h1;rw[d2]at h|-
  repeat' split at h
  all_goals (try (simp at h;done))
  rename_i h2 h3 h4;rw[zD h2,zD h3,zD h4];simp only[Bn,zD k1,zD k2,zD k3,zD k4,zD k5,zD k6,zD k7,zD k8,zE k9,zG]at hu;have hb:=Ux hu.2.2;have p1:=H5 (p:=λv:Vrf=>v.dev==Cf n l.dev&&v.name==l.name) (l:=n.vrfs) (by show 0<=fS n (Cf n l.dev) l.name;omega);have p2:=H5 (p:=λd:Domain=>d.dev==Cf n l.dev&&d.vlan==l.vlan) (l:=n.domains) (by show 0<=Da n (Cf n l.dev) l.vlan;omega);have a1:(fS n (Cf n l.dev) l.name).toNat<n.vrfs.length:=p1.1;have a2:(nth n.vrfs (fS n (Cf n l.dev) l.name)).dev=Cf n l.dev:=by
   have:=p1.2;simp only[zG,yJ]at this;exact this.1
  have b1:(Da n (Cf n l.dev) l.vlan).toNat<n.domains.length:=p2.1;have b2:(nth n.domains (Da n (Cf n l.dev) l.vlan)).dev=Cf n l.dev:=by
   have:=p2.2;simp only[zG,yJ]at this;exact this.1
  simp only[vW]at h4;generalize Da n (Cf n l.dev) l.vlan=j at *;obtain ⟨j,rfl⟩:∃k:Nat,j=k:=⟨j.toNat,by omega⟩
  rw[yE]at b1|-;exact Aug hr j b1 z_ ⟨l.row,j,fS n (Cf n l.dev) l.name,l.addr,l.bits⟩ E (place_iff.2 ⟨by dsimp only;omega,by dsimp only;omega⟩) (b2.trans a2.symm) hb
 .rw[zD k9]at h;simp at h
def Ak3:NetR emptyN:=netR_iff.1 (by decide +kernel)
def Alf(l:List LineM)(k:Int):Nat:=(l.filter λx=>x.kind==k).length
structure Many(n:Net)(c:Int->Nat):Prop where
 c1:n.devices.length=c 1
 c2:n.ports.length=c 2
 c3:n.links.length=c 3
 c4:n.statics.length=c 4
 c7:n.floods.length=c 7
 c8:n.vrfs.length=c 8
 c9:n.irbs.length=c 9
def Atz{n:Net}{c:Int->Nat}(h:Many n c):Many (By n) c:=⟨h.c1,h.c2,h.c3,h.c4,h.c7,h.c8,h.c9⟩
def Km(l:List Port)(i k:Int):(Ho l i k).length=l.length:=yN
def Hs(l:List Device)(i k:Int):(Yn l i k).length=l.length:=yN
def Ajv{n:Net}{x:LineM}(h:(putDevice n x).2=0):(putDevice n x).1.devices.length=n.devices.length+1/\(putDevice n x).1.ports.length=n.ports.length/\(putDevice n x).1.links.length=n.links.length/\(putDevice n x).1.statics.length=n.statics.length/\(putDevice n x).1.floods.length=n.floods.length/\(putDevice n x).1.vrfs.length=n.vrfs.length/\(putDevice n x).1.irbs.length=n.irbs.length:=by
 unfold putDevice at h|-;by_cases h0:fitsB n x 1=false
 .rw[zE h0]at h;cases h
 rw[zD h0]at h|-;try dsimp only at h|-
 split at h
 .cases h
 rename_i h1;rw[zD h1];split at h
 .cases h
 rename_i h2;rw[zD h2];simp[Km,Hs]
def Aty{n:Net}{x:LineM}(h:(putPort n x).2=0):(putPort n x).1.devices.length=n.devices.length/\(putPort n x).1.ports.length=n.ports.length+1/\(putPort n x).1.links.length=n.links.length/\(putPort n x).1.statics.length=n.statics.length/\(putPort n x).1.floods.length=n.floods.length/\(putPort n x).1.vrfs.length=n.vrfs.length/\(putPort n x).1.irbs.length=n.irbs.length:=by
 unfold putPort at h|-;by_cases h0:fitsB n x 2=false
 .rw[zE h0]at h;cases h
 rw[zD h0]at h|-;try dsimp only at h|-
 split at h
 .cases h
 rename_i h1;rw[zD h1];split at h
 .cases h
 rename_i h2;rw[zD h2];split at h
 .cases h
 rename_i h3;rw[zD h3];split at h
 .cases h
 rename_i h4;rw[zD h4];simp[Km,Hs]
def At0{n:Net}{x:LineM}(h:(putLink n x).2=0):(putLink n x).1.devices.length=n.devices.length/\(putLink n x).1.ports.length=n.ports.length/\(putLink n x).1.links.length=n.links.length+1/\(putLink n x).1.statics.length=n.statics.length/\(putLink n x).1.floods.length=n.floods.length/\(putLink n x).1.vrfs.length=n.vrfs.length/\(putLink n x).1.irbs.length=n.irbs.length:=by
 unfold putLink at h|-;by_cases h0:fitsB n x 3=false
 .rw[zE h0]at h;cases h
 rw[zD h0]at h|-;try dsimp only at h|-
 split at h
 .cases h
 rename_i h1;rw[zD h1];split at h
 .cases h
 rename_i h2;rw[zD h2];split at h
 .cases h
 rename_i h3;rw[zD h3];simp[Km,Hs]
def Aju{n:Net}{x:LineM}(h:(putStatic n x).2=0):(putStatic n x).1.devices.length=n.devices.length/\(putStatic n x).1.ports.length=n.ports.length/\(putStatic n x).1.links.length=n.links.length/\(putStatic n x).1.statics.length=n.statics.length+1/\(putStatic n x).1.floods.length=n.floods.length/\(putStatic n x).1.vrfs.length=n.vrfs.length/\(putStatic n x).1.irbs.length=n.irbs.length:=by
 unfold putStatic at h|-;by_cases h0:fitsB n x 4=false
 .rw[zE h0]at h;cases h
 rw[zD h0]at h|-;try dsimp only at h|-
 split at h
 .cases h
 rename_i h1;rw[zD h1];split at h
 .cases h
 rename_i h2;rw[zD h2];split at h
 .cases h
 rename_i h3;rw[zD h3];split at h
 .cases h
 rename_i h4;rw[zD h4];simp[Km,Hs]
def Atx{n:Net}{x:LineM}(h:(putVtep n x).2=0):(putVtep n x).1.devices.length=n.devices.length/\(putVtep n x).1.ports.length=n.ports.length/\(putVtep n x).1.links.length=n.links.length/\(putVtep n x).1.statics.length=n.statics.length/\(putVtep n x).1.floods.length=n.floods.length/\(putVtep n x).1.vrfs.length=n.vrfs.length/\(putVtep n x).1.irbs.length=n.irbs.length:=by
 unfold putVtep at h|-;by_cases h0:(begT n x 5).2≠0
 .rw[zE h0]at h;exact zX h h0
 rw[zD h0]at h|-;try dsimp only at h|-
 split at h
 .cases h
 rename_i h1;rw[zD h1];simp[Km,Hs]
def Ayh{n:Net}{x:LineM}(h:(putVni n x).2=0):(putVni n x).1.devices.length=n.devices.length/\(putVni n x).1.ports.length=n.ports.length/\(putVni n x).1.links.length=n.links.length/\(putVni n x).1.statics.length=n.statics.length/\(putVni n x).1.floods.length=n.floods.length/\(putVni n x).1.vrfs.length=n.vrfs.length/\(putVni n x).1.irbs.length=n.irbs.length:=by
 unfold putVni at h|-;by_cases h0:(begT n x 6).2≠0
 .rw[zE h0]at h;exact zX h h0
 rw[zD h0]at h|-;try dsimp only at h|-
 split at h
 .cases h
 rename_i h1;rw[zD h1];split at h
 .cases h
 rename_i h2;rw[zD h2];split at h
 .cases h
 rename_i h3;rw[zD h3];simp[Km,Hs]
def Aoh{n:Net}{x:LineM}(h:(putFlood n x).2=0):(putFlood n x).1.devices.length=n.devices.length/\(putFlood n x).1.ports.length=n.ports.length/\(putFlood n x).1.links.length=n.links.length/\(putFlood n x).1.statics.length=n.statics.length/\(putFlood n x).1.floods.length=n.floods.length+1/\(putFlood n x).1.vrfs.length=n.vrfs.length/\(putFlood n x).1.irbs.length=n.irbs.length:=by
 unfold putFlood at h|-;by_cases h0:(begT n x 7).2≠0
 .rw[zE h0]at h;exact zX h h0
 rw[zD h0]at h|-;try dsimp only at h|-
 split at h
 .cases h
 rename_i h1;rw[zD h1];split at h
 .cases h
 rename_i h2;rw[zD h2];split at h
 .cases h
 rename_i h3;rw[zD h3];split at h
 .cases h
 rename_i h4;rw[zD h4];simp[Km,Hs]
def Ayg{n:Net}{x:LineM}(h:(putVrf n x).2=0):(putVrf n x).1.devices.length=n.devices.length/\(putVrf n x).1.ports.length=n.ports.length/\(putVrf n x).1.links.length=n.links.length/\(putVrf n x).1.statics.length=n.statics.length/\(putVrf n x).1.floods.length=n.floods.length/\(putVrf n x).1.vrfs.length=n.vrfs.length+1/\(putVrf n x).1.irbs.length=n.irbs.length:=by
 unfold putVrf at h|-;by_cases h0:(begT n x 8).2≠0
 .rw[zE h0]at h;exact zX h h0
 rw[zD h0]at h|-;try dsimp only at h|-
 split at h
 .cases h
 rename_i h1;rw[zD h1];split at h
 .cases h
 rename_i h2;rw[zD h2];simp[Km,Hs]
def Ayi{n:Net}{x:LineM}(h:(putIrb n x).2=0):(putIrb n x).1.devices.length=n.devices.length/\(putIrb n x).1.ports.length=n.ports.length/\(putIrb n x).1.links.length=n.links.length/\(putIrb n x).1.statics.length=n.statics.length/\(putIrb n x).1.floods.length=n.floods.length/\(putIrb n x).1.vrfs.length=n.vrfs.length/\(putIrb n x).1.irbs.length=n.irbs.length+1:=by
 unfold putIrb at h|-;by_cases h0:(begT n x 9).2≠0
 .rw[zE h0]at h;exact zX h h0
 rw[zD h0]at h|-;try dsimp only at h|-
 split at h
 .cases h
 rename_i h1;rw[zD h1];split at h
 .cases h
 rename_i h2;rw[zD h2];split at h
 .cases h
 rename_i h3;rw[zD h3];simp[Km,Hs]
def Aw5{n:Net}{c:Int->Nat}{x:LineM}(hm:Many n c)(h:(putT n x).2=0):Many (putT n x).1 (λk=>c k+if x.kind=k then 1 else 0):=by
 obtain ⟨c1,c2,c3,c4,c7,c8,c9⟩:=hm;unfold putT at h|-;by_cases k1:x.kind=1
 .rw[zE k1]at h|-;obtain ⟨e1,e2,e3,e4,e7,e8,e9⟩:=Ajv h;constructor<;>simp[*]
 rw[zD k1]at h|-;by_cases k2:x.kind=2
 .rw[zE k2]at h|-;obtain ⟨e1,e2,e3,e4,e7,e8,e9⟩:=Aty h;constructor<;>simp[*]
 rw[zD k2]at h|-;by_cases k3:x.kind=3
 .rw[zE k3]at h|-;obtain ⟨e1,e2,e3,e4,e7,e8,e9⟩:=At0 h;constructor<;>simp[*]
 rw[zD k3]at h|-;by_cases k4:x.kind=4
 .rw[zE k4]at h|-;obtain ⟨e1,e2,e3,e4,e7,e8,e9⟩:=Aju h;constructor<;>simp[*]
 rw[zD k4]at h|-;by_cases k5:x.kind=5
 .rw[zE k5]at h|-;obtain ⟨e1,e2,e3,e4,e7,e8,e9⟩:=Atx h;constructor<;>simp[*]
 rw[zD k5]at h|-;by_cases k6:x.kind=6
 .rw[zE k6]at h|-;obtain ⟨e1,e2,e3,e4,e7,e8,e9⟩:=Ayh h;constructor<;>simp[*]
 rw[zD k6]at h|-;by_cases k7:x.kind=7
 .rw[zE k7]at h|-;obtain ⟨e1,e2,e3,e4,e7,e8,e9⟩:=Aoh h;constructor<;>simp[*]
 rw[zD k7]at h|-;by_cases k8:x.kind=8
 .rw[zE k8]at h|-;obtain ⟨e1,e2,e3,e4,e7,e8,e9⟩:=Ayg h;constructor<;>simp[*]
 rw[zD k8]at h|-;by_cases k9:x.kind=9
 .rw[zE k9]at h|-;obtain ⟨e1,e2,e3,e4,e7,e8,e9⟩:=Ayi h;constructor<;>simp[*]
 rw[zD k9]at h|-;cases h
def Apj:Many emptyN (λ_=>0):=⟨rfl,rfl,rfl,rfl,rfl,rfl,rfl⟩
def Ay6{k:Type}(p:k->Bool)(f:k->k)(l:List k)(h:∀x,p (f x)=p x):Bs p (l.map f)=Bs p l:=by
 have e:(l.map f).findIdx? p=l.findIdx? p:=by
  rw[List.findIdx?_map];congr 1;funext x;exact h x
 rw[Bs,Bs,e]
def bZ(n:Net)(a b:Int):Ql (By n) a b=Ql n a b:=Ay6 _ _ _ λ_=>rfl
def Anx(n:Net)(d:Domain)(p:List Int):peersT (By n) {d with peers:=p}=peersT n d:=by
 rw[peersT,peersT];have e1:∀a b,Jd (By n) a b=Jd n a b:=λ_ _=>rfl
 have e2:∀a,D0 (By n) a=D0 n a:=λ_=>rfl
 simp only[bZ,e1,e2];rfl
def Atr(n:Net):By (By n)=By n:=by
 have:(By n).domains.map (λd=>{d with peers:=peersT (By n) d})=(By n).domains:=by
  show (n.domains.map λd=>{d with peers:=peersT n d}).map (λd=>{d with peers:=peersT (By n) d})=n.domains.map λd=>{d with peers:=peersT n d}
  rw[List.map_map];refine tB λd _=>?_
  show ({d with peers:=peersT (By n) {d with peers:=peersT n d} }:Domain)={d with peers:=peersT n d};rw[Anx]
 rw[By,this]
def Ap7(n:Net)(f:Flood):agreesB (By n) f=agreesB n f:=by
 have e1:∀a b,Jd (By n) a b=Jd n a b:=λ_ _=>rfl
 have e2:∀a,D0 (By n) a=D0 n a:=λ_=>rfl
 have e3:∀a,agreeA (By n) f a=agreeA n f a:=λa=>by
  rw[agreeA,agreeA];simp only[bZ,e1,e2];rfl
 have e4:agreeA (By n) f=agreeA n f:=funext e3;rw[agreesB,agreesB,bZ,e4]
def O9{n:Net}(h:(meshNT n).2.2=0):(meshNT n).1=By n/\(meshNT n).2.1=0/\Ac (By n)=true/\n.floods.find? (λf=>!(agreesB n f))=none:=by
 rw[meshNT]at h|-;split at h
 .simp at h
 rename_i h1;rw[zD h1];cases hf:n.floods.find? (λf=>!(agreesB n f)) with
 |some f=>rw[hf]at h;simp at h
 |none=>
  rw[hf]at h;dsimp only at h|-;split at h
  .simp at h
  rename_i h2;rw[zD h2];exact⟨E,E,kS h2,E⟩
def Aog{n:Net}(h:(meshNT n).2.2=0):meshNT (By n)=(By n,0,0):=by
 obtain ⟨_,_,h3,h4⟩:=O9 h;have e:(By n).floods.find? (λf=>!(agreesB (By n) f))=none:=by
  show n.floods.find? (λf=>!(agreesB (By n) f))=none;simp only[Ap7];exact h4
 rw[meshNT,zD (by rw[h3];simp),e];dsimp only;rw[Atr,zD (by rw[h3];simp)]
def Vm(n:Net):∀(l:List Domain) (f:List Int) (i:Nat),(Ts n f i l).2=false->(Ts n f i l).1=0
 |[],f,i,_=>rfl
 |d::l,f,i,h=>by
  rw[Ts]at h|-;split
  .rename_i h1;rw[zE h1]at h;exact Vm n l f _ h
  .rename_i h1;rw[zD h1]at h;dsimp only at h|-;split
   .rename_i h2;rw[zE h2]at h;cases h
   .rename_i h2;rw[zD h2]at h;exact Vm n l _ _ h
def Aoj{n:Net}(h:(loopT n).2=false):loopT n=(0,false):=by
 have h1:(loopT n).1=0:=by
  rw[loopT]at h|-;split
  .rfl
  .rename_i hb;rw[zD hb]at h;exact Vm n _ _ _ h
 rw[<-h,<-h1]
def fF:∀(l:List LineM) (n0:Net) (c:Int->Nat),NetR n0->Many n0 c->(Bu n0 l).2.2=0 ->
  (Bu n0 l).2.1=0/\Ac (Bu n0 l).1=true/\meshNT (Bu n0 l).1=((Bu n0 l).1,0,0)/\loopT (Bu n0 l).1=(0,false)/\Many (Bu n0 l).1 (λk=>c k+Alf l k)
 |[],n0,c,hr,hm,h=>by
  rw[Bu,finishT]at h|-;split at h
  .rename_i h1;exact zX h h1
  rename_i h1;rw[zD h1];split at h
  .simp at h
  rename_i h2;rw[zD h2];have h0:(meshNT n0).2.2=0:=by omega
  obtain ⟨e1,e2,e3,e4⟩:=O9 h0;dsimp only;rw[e1]at h2|-;refine⟨E,e3,Aog h0,Aoj (kS h2),?_⟩;have:=Atz hm;exact⟨this.c1,this.c2,this.c3,this.c4,this.c7,this.c8,this.c9⟩
 |x::l,n0,c,hr,hm,h=>by
  rw[Bu]at h|-;split at h
  .rename_i h1;exact zX h h1
  rename_i h1;rw[zD h1];have h0:(putT n0 x).2=0:=by omega
  obtain ⟨a,b,d,e,f⟩:=fF l _ _ (As6 h0) (Aw5 hm h0) h;refine⟨a,b,d,e,?_⟩;have hc:∀k,Alf (x::l) k=(if x.kind=k then 1 else 0)+Alf l k:=λk=>by
   rw[Alf,Alf,List.filter_cons];by_cases hk:x.kind=k
   .simp[hk];omega
   .simp[hk]
  refine⟨f.c1.trans ?_,f.c2.trans ?_,f.c3.trans ?_,f.c4.trans ?_,f.c7.trans ?_,f.c8.trans ?_,f.c9.trans ?_⟩<;>(rw[hc];omega)
def fG:∀(l:List LineM) (n0:Net),(Bu n0 l).2.2≠0->(Bu n0 l).1=emptyN
 |[],n0,h=>by
  rw[Bu,finishT]at h|-;split
  .rename_i h1;rw[meshNT]at h1|-;split
   .rfl
   rename_i h2;rw[zD h2]at h1;split
   .rfl
   .rename_i hf;rw[hf]at h1;dsimp only at h1;split
    .rfl
    .rename_i h3;rw[zD h3]at h1;exact zX E h1
  .rename_i h1;rw[zD h1]at h;split
   .rfl
   .rename_i h2;rw[zD h2]at h;exact zX E h
 |x::l,n0,h=>by
  rw[Bu]at h|-;split
  .rfl
  .rename_i h1;rw[zD h1]at h;exact fG l _ h
attribute [local irreducible]G DR
set_option maxRecDepth 100000
theorem iF{A0:Type}(v0:A0->SV)(z0:Nat){f0 m0:Nat}{g0:Func}(F0:fT f0 g0)(n0:g0.ntmps=m0)(h:let A0:Type:=A0;let v0:A0->SV:=v0;let z0:=z0;fT f0 g0->g0.ntmps=m0->∀ (l:List A0) (hl:l.length<2147483648),Sq f0 [.sl z0 v0 l] [] (.osl 0) [(0,.row z0 v0 l)]:=by
 intro A0 v0 z0 F0 n0 l hl
 refine cT F0 n0 λF hF=>?_
 refine fW ?_;refine E7 E (.inl E) E E E .sl E E ?_;intro b hb;cases b
 .refine fU ?_;refine Ai (Ah Γ.toTy 7 E E E E E (.lit (e:=v0) (l:=[]) E E) .sl qq kO kO) E E (fU ?_);exact done E Ap [(0,7)] [(0,.row z0 v0 l)] (λ_ h=>h) E E kU
 .have h0:l=[]:=yB (hb rfl);subst h0;refine fU ?_;refine B6 2 1000 z0 v0 E E ?_;exact done E Ap [(0,1000)] [(0,.row z0 v0 [])] (λ _ h=>h) E E kU):∀ (l:List A0) (hl:l.length<2147483648),Sq f0 [.sl z0 v0 l] [] (.osl 0) [(0,.row z0 v0 l)]:=h F0 n0
def Ac8:=iF A4 5 F162 ntmps162
def Alh:=iF Co 3 F164 ntmps164
def Ac7:=iF Bb 4 F166 ntmps166
def Apx:=iF Cr 5 F169 ntmps169
def Qz(n:Net)(hn:n.Fin):Sq 102 [Am n] [] (.agg [.osl 0,.osl 1,.osl 2,.osl 3,.osl 4,.osl 5,.osl 6,.osl 7]) [(0,.row 5 A4 n.devices),(1,.row 7 Bd n.ports),(2,.row 3 Co n.links),(3,.row 6 At n.domains),(4,.row 4 Bb n.statics),(5,.row 4 Bm n.floods),(6,.row 5 Cu n.vrfs),(7,.row 5 Cr n.irbs)]:=cT F102 ntmps102 λF hF=>by
 have h1:n.devices.length<2147483648/\n.ports.length<2147483648/\n.links.length<2147483648/\n.domains.length<2147483648/\n.statics.length<2147483648/\n.floods.length<2147483648/\n.vrfs.length<2147483648/\n.irbs.length<2147483648:=⟨hn.devices,hn.ports,hn.links,hn.domains,hn.statics,hn.floods,hn.vrfs,hn.irbs⟩
 have h2:(∀p∈n.ports,p.tagged.length<2147483648)/\(∀p∈n.domains,p.peers.length<2147483648)/\(∀p∈n.floods,p.addrs.length<2147483648)/\(∀p∈n.vrfs,p.imports.length<2147483648/\p.exports.length<2147483648):=⟨hn.tagged,hn.peers,hn.addrs,λv hv=>⟨hn.imports v hv,hn.exports v hv⟩⟩
 refine fW ?_;refine Cc (Ad [(0,11)] E F162 (Ac8 n.devices h1.1) E q_ E ⟨.inr E,q_⟩) j_ E (fU ?_);refine Cc (Ad [(0,14)] E F163 (Apw n.ports h1.2.1) E q_ E ⟨.inr E,q_⟩) j_ E (fU ?_);refine Cc (Ad [(0,17)] E F164 (Alh n.links h1.2.2.1) E q_ E ⟨.inr E,q_⟩) j_ E (fU ?_);refine Cc (Ad [(0,20)] E F165 (Ahi n.domains h1.2.2.2.1) E q_ E ⟨.inr E,q_⟩) j_ E (fU ?_);refine Cc (Ad [(0,23)] E F166 (Ac7 n.statics h1.2.2.2.2.1) E q_ E ⟨.inr E,q_⟩) j_ E (fU ?_);refine Cc (Ad [(0,26)] E F167 (Ali n.floods h1.2.2.2.2.2.1) E q_ E ⟨.inr E,q_⟩) j_ E (fU ?_);refine Cc (Ad [(0,29)] E F168 (Au2 n.vrfs h1.2.2.2.2.2.2.1) E q_ E ⟨.inr E,q_⟩) j_ E (fU ?_);refine Cc (Ad [(0,32)] E F169 (Apx n.irbs h1.2.2.2.2.2.2.2) E q_ E ⟨.inr E,q_⟩) j_ E (fU ?_);refine⟨j_,?_⟩;refine fW ?_;refine A8 n.ports.length (λj=>[(2,.ptr 2 0),(3,.ptr 3 0),(36,Aa n.ports.length),(37,Aa j)]) (λ_=>[(2,.box [svN,svN,svN,svN,svN,svN,svN,svN]),(3,.box [.osl 11,.osl 14,.osl 17,.osl 20,.osl 23,.osl 26,.osl 29,.osl 32]),(11,.row 5 A4 n.devices),(14,.row 7 Bd n.ports),(17,.row 3 Co n.links),(20,.row 6 At n.domains),(23,.row 4 Bb n.statics),(26,.row 4 Bm n.floods),(29,.row 5 Cu n.vrfs),(32,.row 5 Cr n.irbs)]) []
  kU ?_
 intro j hj;refine gK ?_ ?_<;>intro h
 .have ab:j<n.ports.length:=by simpa using h
  obtain ⟨p,hp⟩:=kE (n.ports[(j:Int).toNat]'z_);have ag:n.ports≠[]:=λe=>by rw[e]at ab;cases ab
  have bj:n.ports.set (j:Int).toNat p=n.ports:=by rw[<-hp];exact uR _
  have bd:=h2.1 p (by rw[<-hp];exact zI _);refine fU ?_;refine⟨by omega,by show _<n.ports.length;omega,?_⟩;refine fW ?_;refine⟨ag,?_⟩;refine fW ?_;refine⟨E,by omega,?_⟩;rw[hp];refine fW ?_;refine cD (Kk p.tagged bd) F170 (fU ?_);refine⟨by omega,by show _<n.ports.length;omega,?_⟩;refine fW ?_;refine⟨ag,?_⟩;refine fW ?_;refine⟨E,by omega,p,(by rw[hp];rfl),(by rw[hp];rfl),?_⟩;refine fW ?_;refine⟨j_,?_⟩;refine gO ?_;exact Ax [] ab ⟨kA,⟨.inl E,E,.inl E,E,.inl E,E,.inl (zH (Ob.row 7 Bd) bj.symm),E,.inl E,E,.inl E,E,.inl E,E,.inl E,E,.inl E,E,.inl E,E,q_⟩,E,E⟩
 .refine fU ?_;refine A8 n.domains.length (λj=>[(2,.ptr 2 0),(3,.ptr 3 0),(55,Aa n.domains.length),(56,Aa j)]) (λ_=>[(2,.box [svN,svN,svN,svN,svN,svN,svN,svN]),(3,.box [.osl 11,.osl 14,.osl 17,.osl 20,.osl 23,.osl 26,.osl 29,.osl 32]),(11,.row 5 A4 n.devices),(14,.row 7 Bd n.ports),(17,.row 3 Co n.links),(20,.row 6 At n.domains),(23,.row 4 Bb n.statics),(26,.row 4 Bm n.floods),(29,.row 5 Cu n.vrfs),(32,.row 5 Cr n.irbs)]) []
   kU ?_
  intro j hj;refine gK ?_ ?_<;>intro h
  .have ab:j<n.domains.length:=by simpa using h
   obtain ⟨p,hp⟩:=kE (n.domains[(j:Int).toNat]'z_);have ag:n.domains≠[]:=λe=>by rw[e]at ab;cases ab
   have bj:n.domains.set (j:Int).toNat p=n.domains:=by rw[<-hp];exact uR _
   have bd:=h2.2.1 p (by rw[<-hp];exact zI _);refine fU ?_;refine⟨by omega,by show _<n.domains.length;omega,?_⟩;refine fW ?_;refine⟨ag,?_⟩;refine fW ?_;refine⟨E,by omega,?_⟩;rw[hp];refine fW ?_;refine cD (Kk p.peers bd) F170 (fU ?_);refine⟨by omega,by show _<n.domains.length;omega,?_⟩;refine fW ?_;refine⟨ag,?_⟩;refine fW ?_;refine⟨E,by omega,p,(by rw[hp];rfl),(by rw[hp];rfl),?_⟩;refine fW ?_;refine⟨j_,?_⟩;refine gO ?_;exact Ax [] ab ⟨kA,⟨.inl E,E,.inl E,E,.inl E,E,.inl E,E,.inl E,E,.inl (zH (Ob.row 6 At) bj.symm),E,.inl E,E,.inl E,E,.inl E,E,.inl E,E,q_⟩,E,E⟩
  .refine fU ?_;refine A8 n.floods.length (λj=>[(2,.ptr 2 0),(3,.ptr 3 0),(74,Aa n.floods.length),(75,Aa j)]) (λ_=>[(2,.box [svN,svN,svN,svN,svN,svN,svN,svN]),(3,.box [.osl 11,.osl 14,.osl 17,.osl 20,.osl 23,.osl 26,.osl 29,.osl 32]),(11,.row 5 A4 n.devices),(14,.row 7 Bd n.ports),(17,.row 3 Co n.links),(20,.row 6 At n.domains),(23,.row 4 Bb n.statics),(26,.row 4 Bm n.floods),(29,.row 5 Cu n.vrfs),(32,.row 5 Cr n.irbs)]) []
    kU ?_
   intro j hj;refine gK ?_ ?_<;>intro h
   .have ab:j<n.floods.length:=by simpa using h
    obtain ⟨p,hp⟩:=kE (n.floods[(j:Int).toNat]'z_);have ag:n.floods≠[]:=λe=>by rw[e]at ab;cases ab
    have bj:n.floods.set (j:Int).toNat p=n.floods:=by rw[<-hp];exact uR _
    have bd:=h2.2.2.1 p (by rw[<-hp];exact zI _);refine fU ?_;refine⟨by omega,by show _<n.floods.length;omega,?_⟩;refine fW ?_;refine⟨ag,?_⟩;refine fW ?_;refine⟨E,by omega,?_⟩;rw[hp];refine fW ?_;refine cD (Ae7 p.addrs bd) F171 (fU ?_);refine⟨by omega,by show _<n.floods.length;omega,?_⟩;refine fW ?_;refine⟨ag,?_⟩;refine fW ?_;refine⟨E,by omega,p,(by rw[hp];rfl),(by rw[hp];rfl),?_⟩;refine fW ?_;refine⟨j_,?_⟩;refine gO ?_;exact Ax [] ab ⟨kA,⟨.inl E,E,.inl E,E,.inl E,E,.inl E,E,.inl E,E,.inl E,E,.inl E,E,.inl (zH (Ob.row 4 Bm) bj.symm),E,.inl E,E,.inl E,E,q_⟩,E,E⟩
   .refine fU ?_;refine A8 n.vrfs.length (λj=>[(2,.ptr 2 0),(3,.ptr 3 0),(93,Aa n.vrfs.length),(94,Aa j)]) (λ_=>[(2,.box [svN,svN,svN,svN,svN,svN,svN,svN]),(3,.box [.osl 11,.osl 14,.osl 17,.osl 20,.osl 23,.osl 26,.osl 29,.osl 32]),(11,.row 5 A4 n.devices),(14,.row 7 Bd n.ports),(17,.row 3 Co n.links),(20,.row 6 At n.domains),(23,.row 4 Bb n.statics),(26,.row 4 Bm n.floods),(29,.row 5 Cu n.vrfs),(32,.row 5 Cr n.irbs)]) []
     kU ?_
    intro j hj;refine gK ?_ ?_<;>intro h
    .have ab:j<n.vrfs.length:=by simpa using h
     obtain ⟨p,hp⟩:=kE (n.vrfs[(j:Int).toNat]'z_);have ag:n.vrfs≠[]:=λe=>by rw[e]at ab;cases ab
     have bj:n.vrfs.set (j:Int).toNat p=n.vrfs:=by rw[<-hp];exact uR _
     have bd:=h2.2.2.2 p (by rw[<-hp];exact zI _);refine fU ?_;have s7:n.vrfs.set (j:Int).toNat p≠[]:=by rw[bj];exact ag
     have ff:(n.vrfs.set (j:Int).toNat p)[(j:Int).toNat]'(by rw[bj];omega)=p:=by simp
     have ye:(n.vrfs.set (j:Int).toNat p).set (j:Int).toNat p=n.vrfs:=by rw[bj,bj]
     refine⟨by omega,by show _<n.vrfs.length;omega,?_⟩;refine fW ?_;refine Cc (E2 E (.inr (.inr (.inr ⟨29,5,_,0,E,λk w h=>Wo ag h,E⟩)))) j_ E (fU ?_);refine⟨ag,?_⟩;refine fW ?_;refine⟨E,by omega,?_⟩;rw[hp];refine fW ?_;refine cD (Kk p.imports bd.1) F170 (fU ?_);refine Cc (E2 E (.inr (.inr (.inr ⟨29,5,_,0,E,λk w h=>Wo ag h,E⟩)))) j_ E (fU ?_);refine⟨ag,?_⟩;refine fW ?_;refine⟨E,by omega,?_⟩;rw[hp];refine fW ?_;refine cD (Kk p.exports bd.2) F170 (fU ?_);refine Cc (E2 E (.inr (.inr (.inr ⟨29,5,_,0,E,λk w h=>Wo ag h,E⟩)))) j_ E (fU ?_);refine⟨ag,?_⟩;refine fW ?_;refine⟨E,by omega,p,(by rw[hp];rfl),(by rw[hp];rfl),?_⟩;refine fW ?_;refine Cc (E2 E (.inr (.inr (.inr ⟨29,5,_,0,E,λk w h=>Wo s7 h,E⟩)))) j_ E (fU ?_);refine⟨s7,?_⟩;refine fW ?_;refine⟨E,by rw[bj];omega,p,(by rw[ff];rfl),(by rw[ff];rfl),?_⟩;refine fW ?_;refine⟨j_,?_⟩;refine gO ?_;exact Ax [] ab ⟨kA,⟨.inl E,E,.inl E,E,.inl E,E,.inl E,E,.inl E,E,.inl E,E,.inl E,E,.inl E,E,.inl (zH (Ob.row 5 Cu) ye.symm),E,.inl E,E,q_⟩,E,E⟩
    .refine fU ?_;exact done E (.cons (.cell E E E E) .nil) [(0,11),(1,14),(2,17),(3,20),(4,23),(5,26),(6,29),(7,32)] [(0,.row 5 A4 n.devices),(1,.row 7 Bd n.ports),(2,.row 3 Co n.links),(3,.row 6 At n.domains),(4,.row 4 Bb n.statics),(5,.row 4 Bm n.floods),(6,.row 5 Cu n.vrfs),(7,.row 5 Cr n.irbs)] (λ_ h=>h) E E kU
end Go.Sy.Zaa
