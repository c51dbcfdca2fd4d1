/-
  WS1 I20 I21 I22 I23 I24 I62 I25 NB0 NB1: parts of a proof, joined by program.
-/
import Derived.Test.YtljngfegfclkpaaGreatYA9
import Derived.Test.YtljngfegfclkpaaGreatYA7
import Derived.Test.YtljngfegfclkpaaGreatYA5
import Derived.Test.YtljngfegfclkpaaGreatYA4
import Derived.Test.YtljngfegfclkpaaGreatYA6
set_option linter.all false
set_option linter.unusedVariables false
set_option linter.unusedSimpArgs false
set_option linter.deprecated false
namespace Go.Sy.YtljngfegfclkpaaGreat
open Go.Proofs
theorem Yd:∀ (l:List UInt8) (a:Nat),l.foldl (λ n c=>n * 256+c.toNat) a=a * 256 ^ l.length+E2 l
 | [],a=>by simp[E2]
 | c::l,a=>by
  have e:E2 (c::l)=l.foldl (λ n c=>n * 256+c.toNat) (0 * 256+c.toNat):=rfl
  rw[wT,Yd l,e,Yd l,yJ,Nat.pow_succ,yS,Nat.zero_mul,xQ,Nat.mul_assoc,vH 256,vE]
theorem Ar8 (c:UInt8) (l:List UInt8):E2 (c::l)=c.toNat * 256 ^ l.length+E2 l:=by
 rw[E2,wT,Yd]
 simp
theorem Agw (m:Nat):∀ k,E2 (be k m)=m % 256 ^ k
 | 0=>by simp[be,E2,Nat.mod_one]
 | k+1=>by
  rw[be,Ar8,C1,Agw m k,Eb,Nat.pow_succ,Nat.mod_mul,vH (m / 256 ^ k % 256)]
  omega
theorem Alp (d s t:Nat) (b:List UInt8):(frame d s t b).take 6=be 6 d∧((frame d s t b).drop 6).take 6=be 6 s∧((frame d s t b).drop 12).take 2=[UInt8.ofNat (t / 256),UInt8.ofNat t]∧(frame d s t b).drop 14=b:=by
 have e:frame d s t b=be 6 d++(be 6 s++([UInt8.ofNat (t / 256),UInt8.ofNat t]++b)):=by simp[frame,yU]
 have e6:(frame d s t b).drop 6=be 6 s++([UInt8.ofNat (t / 256),UInt8.ofNat t]++b):=by rw[e];exact List.drop_left' (C1 d 6)
 have e12:(frame d s t b).drop 12=[UInt8.ofNat (t / 256),UInt8.ofNat t]++b:=by
  rw[show (12:Nat)=6+6 from rfl,← List.drop_drop,e6]
  exact List.drop_left' (C1 s 6)
 refine⟨by rw[e];exact List.take_left' (C1 d 6),by rw[e6];exact List.take_left' (C1 s 6),by rw[e12];rfl,?_⟩
 rw[show (14:Nat)=12+2 from rfl,← List.drop_drop,e12]
 rfl
theorem Ye {t:Nat} (h:t≤65535):E2 [UInt8.ofNat (t / 256),UInt8.ofNat t]=t:=by
 rw[Ae6,Eb,Eb]
 omega
theorem J7 {f:FrameM} (h:FrameOK f):takeF (Jw f)=(f,0):=by
 obtain ⟨e1,e2,e3,e4⟩:=Alp f.dst f.src f.typ f.body
 have hl:=Dm f
 have hb:=h.body
 have h1:=h.dst
 have h2:=h.src
 rw[takeF,zA q_,zA q_]
 simp only[Jw]at *
 rw[e1,e2,e3,e4,Agw,Agw,Ye h.typ,yW (by simpa using h1),yW (by simpa using h2)]
theorem Abf {f:FrameM} {v:Int} (h:f.typ≠33024) (hb:f.body.length≤1500):(tagT f v).2=0∧(tagT f v).1=⟨f.dst,f.src,33024,[UInt8.ofNat (v.toNat / 256),UInt8.ofNat v.toNat,UInt8.ofNat (f.typ / 256),UInt8.ofNat f.typ]++f.body⟩:=by
 rw[tagT,zA h,zA q_]
 exact⟨E,E⟩
theorem Afb {f:FrameM} {v:Int} (hf:FrameOK f) (h:f.typ≠33024) (hb:f.body.length≤1500) (hv:0≤v∧v≤4094):FrameOK (tagT f v).1∧(tagT f v).1.typ=33024∧stripT (tagT f v).1=(f,v,0,0):=by
 obtain ⟨_,e⟩:=Abf (v:=v) h hb
 have ht:=hf.typ
 have e1:E2 [UInt8.ofNat (v.toNat / 256),UInt8.ofNat v.toNat]=v.toNat:=Ye q_
 have e2:E2 [UInt8.ofNat (f.typ / 256),UInt8.ofNat f.typ]=f.typ:=Ye ht
 rw[e]
 refine⟨⟨hf.dst,hf.src,by show 33024≤65535;decide,by simp;omega⟩,E,?_⟩
 rw[stripT,zA y_,zA y_]
 have a1:([UInt8.ofNat (v.toNat / 256),UInt8.ofNat v.toNat,UInt8.ofNat (f.typ / 256),UInt8.ofNat f.typ]++f.body).take 2=[UInt8.ofNat (v.toNat / 256),UInt8.ofNat v.toNat]:=rfl
 have a2:(([UInt8.ofNat (v.toNat / 256),UInt8.ofNat v.toNat,UInt8.ofNat (f.typ / 256),UInt8.ofNat f.typ]++f.body).drop 2).take 2=[UInt8.ofNat (f.typ / 256),UInt8.ofNat f.typ]:=rfl
 have a3:([UInt8.ofNat (v.toNat / 256),UInt8.ofNat v.toNat,UInt8.ofNat (f.typ / 256),UInt8.ofNat f.typ]++f.body).drop 4=f.body:=rfl
 rw[a1,a2,a3,e1,e2,zA q_,show ((v.toNat % 4096:Nat):Int)=v by omega,show ((v.toNat / 4096:Nat):Int)=0 by omega]
theorem C0:∀ (l:List Nat) (r:List UInt8) (i:Nat) (h:i<l.length),numAt (C4 l++r) (2 * i) 2=l[i] % 65536
 | a::l,r,0,_=>by
  show E2 [UInt8.ofNat (a / 256),UInt8.ofNat a]=a % 65536
  rw[Ae6,Eb,Eb]
  omega
 | a::l,r,i+1,h=>C0 l r i (by simpa using h)
theorem Avp {s d:Nat} {b:List UInt8} (hs:s≤65535) (hd:d≤65535) (hb:b.length≤60000):udpTakeT (Aan s d b)=((s:Int),(d:Int),b,0):=by
 have hl:=Q3 s d b
 have n0:=C0 [s,d,8+b.length,0] b 0 (by show 0<4;decide)
 have n2:=C0 [s,d,8+b.length,0] b 1 (by show 1<4;decide)
 have n4:=C0 [s,d,8+b.length,0] b 2 (by show 2<4;decide)
 have n6:=C0 [s,d,8+b.length,0] b 3 (by show 3<4;decide)
 change numAt (Aan s d b) 0 2=s % 65536 at n0
 change numAt (Aan s d b) 2 2=d % 65536 at n2
 change numAt (Aan s d b) 4 2=(8+b.length) % 65536 at n4
 change numAt (Aan s d b) 6 2=0 % 65536 at n6
 rw[udpTakeT,zA q_,zA q_,zA q_,zA q_,n0,n2,n4,yW q_,yW q_,yW q_,yX q_]
 rfl
theorem Are {p:PacketM} (hp:PacketOK p) (hb:p.body.length≤1480):ipTakeT (E7 p)=(p,0):=by
 have hl:=Hs p
 have hs:Hr p≤65535:=by rw[Hr,Afa];omega
 have hw:=Zj hp hb (Hr p) hs
 have hw0:=Zj hp hb 0 j_
 have n0:=C0 [17664+p.tos,20+p.body.length,p.id,0,p.ttl * 256+p.proto,Hr p,p.src / 65536,p.src,p.dst / 65536,p.dst] p.body 0 (by show 0<10;decide)
 have n2:=C0 [17664+p.tos,20+p.body.length,p.id,0,p.ttl * 256+p.proto,Hr p,p.src / 65536,p.src,p.dst / 65536,p.dst] p.body 1 (by show 1<10;decide)
 have n4:=C0 [17664+p.tos,20+p.body.length,p.id,0,p.ttl * 256+p.proto,Hr p,p.src / 65536,p.src,p.dst / 65536,p.dst] p.body 2 (by show 2<10;decide)
 have n6:=C0 [17664+p.tos,20+p.body.length,p.id,0,p.ttl * 256+p.proto,Hr p,p.src / 65536,p.src,p.dst / 65536,p.dst] p.body 3 (by show 3<10;decide)
 have n12:=C0 [17664+p.tos,20+p.body.length,p.id,0,p.ttl * 256+p.proto,Hr p,p.src / 65536,p.src,p.dst / 65536,p.dst] p.body 6 (by show 6<10;decide)
 have n14:=C0 [17664+p.tos,20+p.body.length,p.id,0,p.ttl * 256+p.proto,Hr p,p.src / 65536,p.src,p.dst / 65536,p.dst] p.body 7 (by show 7<10;decide)
 have n16:=C0 [17664+p.tos,20+p.body.length,p.id,0,p.ttl * 256+p.proto,Hr p,p.src / 65536,p.src,p.dst / 65536,p.dst] p.body 8 (by show 8<10;decide)
 have n18:=C0 [17664+p.tos,20+p.body.length,p.id,0,p.ttl * 256+p.proto,Hr p,p.src / 65536,p.src,p.dst / 65536,p.dst] p.body 9 (by show 9<10;decide)
 change numAt (E7 p) 2 2=(20+p.body.length) % 65536 at n2
 change numAt (E7 p) 4 2=p.id % 65536 at n4
 change numAt (E7 p) 6 2=0 % 65536 at n6
 change numAt (E7 p) 12 2=p.src / 65536 % 65536 at n12
 change numAt (E7 p) 14 2=p.src % 65536 at n14
 change numAt (E7 p) 16 2=p.dst / 65536 % 65536 at n16
 change numAt (E7 p) 18 2=p.dst % 65536 at n18
 have h1:=hp.tos
 have h2:=hp.id
 have h3:=hp.ttl
 have h4:=hp.proto
 have h5:=hp.src
 have h6:=hp.dst
 have b0:bAt (E7 p) 0=UInt8.ofNat ((17664+p.tos) / 256):=rfl
 have b1:bAt (E7 p) 1=UInt8.ofNat (17664+p.tos):=rfl
 have b8:bAt (E7 p) 8=UInt8.ofNat ((p.ttl * 256+p.proto) / 256):=rfl
 have b9:bAt (E7 p) 9=UInt8.ofNat (p.ttl * 256+p.proto):=rfl
 have c0:bAt (E7 p) 0=69:=by rw[b0,show (17664+p.tos) / 256=69 by omega];rfl
 have ht:(E7 p).take 20=Er p (Hr p):=by rw[E7];exact List.take_left' (Ic _ _)
 have hd:(E7 p).drop 20=p.body:=by rw[E7];exact List.drop_left' (Ic _ _)
 have hsum:E8 (L8 ((E7 p).take 20) 10)=65535:=by
  have e0:Hr p=65535-E8 (L8 (Er p 0) 10):=by rw[Hr,Afa,Ic]
  have hle:=Alr (L8 (Er p 0) 10)
  have w1:L8 (Er p (Hr p)) 10=L8 (Er p 0) 10+Hr p:=by
   rw[Er,Er,U4 _ 10 (by show 10≤10;decide) hw,U4 _ 10 (by show 10≤10;decide) hw0]
   simp only[tF,List.take_zero,xR,vR,List.sum_cons,List.sum_nil]
   rw[yW (show Hr p<65536 by omega)]
   omega
  rw[ht,w1,Aun _ _ hs]
  split<;>omega
 rw[ipTakeT,zA q_,zA (by rw[c0,n2];intro hh;rcases hh with hh | hh;exact hh rfl;omega),zA q_,zA q_,zA q_]
 rw[b1,b8,b9,Eb,Eb,Eb,n4,n2,Aoj q_,Aoj q_,n12,n14,n16,n18,yW (show 20+p.body.length<65536 by omega),yX q_,hd]
 obtain ⟨tos,id,ttl,proto,src,dst,body⟩:=p
 dsimp only at *
 simp only[Prod.mk.injEq,PacketM.mk.injEq,and_true]
 refine⟨?_,?_,?_,?_,?_,?_⟩<;>omega
theorem Avk {v:Nat} {b:List UInt8} (h:1≤v∧v≤16777215):vniT (Jj v++b)=((v:Int),b,0):=by
 have e3:numAt (Jj v++b) 4 3=v:=by
  show E2 [UInt8.ofNat (v / 65536),UInt8.ofNat (v / 256),UInt8.ofNat v]=v
  simp[E2]
  omega
 have ht:(Jj v++b).take 8=Jj v:=rfl
 rw[vniT,zA (by simp[E1]),e3,ht,zA (by intro h2;rcases h2 with h2 | h2;omega;exact h2 rfl)]
 rfl
theorem Ajd {a b:Nat} {v:Int} {f:FrameM} (ha:a<4294967296) (hb:b<4294967296) (hf:FrameOK f) (ht:f.typ≠33024) (hl:f.body.length≤1450) (hv:1≤v∧v≤16777215) :
  (wrapT a b v f).2=0∧B8 (wrapT a b v f).1=(a,b,v,f,0):=by
 have hvb:Q0 v=false:=by rw[Q0,zJ q_,zJ q_];rfl
 have hul:(Aan (udpPort f.dst f.src) 4789 (Jj v.toNat++Jw f)).length=8+(8+(14+f.body.length)):=by rw[Q3,zI,E1,Dm]
 have hpo:PacketOK (Jp a b v.toNat f):=⟨xP _,xP _,by show 64≤255;decide,by show 17≤255;decide,ha,hb⟩
 have hbo:(Jp a b v.toNat f).body.length≤1480:=by show (Aan _ _ _).length≤1480;rw[hul];omega
 have hbl:=Hs (Jp a b v.toNat f)
 have hfo:FrameOK ⟨hostN b,hostN a,2048,E7 (Jp a b v.toNat f)⟩:=⟨Sx b hb,Sx a ha,by show 2048≤65535;decide,by dsimp only;omega⟩
 rw[wrapT,zA ht,zA (by rw[hvb];exact Bool.noConfusion),zA q_]
 refine⟨E,?_⟩
 have hout:outerT (frame (hostN b) (hostN a) 2048 (E7 (Jp a b v.toNat f)))=(Jp a b v.toNat f,0):=by
  have h1:=J7 hfo
  rw[Jw]at h1
  dsimp only at h1
  rw[outerT,h1]
  dsimp only
  rw[zA (λ hh=>hh rfl),zA (λ hh=>hh rfl),Are hpo hbo,zA (λ hh=>hh rfl)]
  rfl
 have hport:udpPort f.dst f.src≤65535:=by rw[udpPort];omega
 have hin:Kq (Jp a b v.toNat f).body=(v,f,0):=by
  have h1:udpTakeT (Jp a b v.toNat f).body=(((udpPort f.dst f.src:Nat):Int),((4789:Nat):Int),Jj v.toNat++Jw f,0):=Avp hport j_ (by rw[zI,E1,Dm];omega)
  have h2:vniT (Jj v.toNat++Jw f)=((v.toNat:Int),Jw f,0):=Avk q_
  rw[Kq,h1]
  dsimp only
  rw[zA (λ hh=>hh rfl),zA (λ hh=>hh rfl),h2]
  dsimp only
  rw[zA (λ hh=>hh rfl),J7 hf]
  dsimp only
  rw[zA (λ hh=>hh rfl),zA ht,show ((v.toNat:Nat):Int)=v by omega]
 rw[B8,hout]
 dsimp only
 rw[zA (λ hh=>hh rfl),hin]
 dsimp only
 rw[zA (λ hh=>hh rfl)]
 rfl
def emptyN:Net:=⟨[],[],[],[],[],[],[],[]⟩
def fitsB (n:Net) (l:LineM) (k:Int):Bool:=l.kind == k && (C6 l && Ab n)
def Ca (n:Net) (s:ByteArray):Int:=Bg (λ d:Device=>d.name == s) n.devices
def Sb (n:Net) (dev:Int) (s:ByteArray):Int:=Bg (λ p:Port=>p.dev == dev && p.name == s) n.ports
def Agt (n:Net) (dev:Int) (s:ByteArray):Int:=Bg (λ v:Vrf=>v.dev == dev && v.name == s) n.vrfs
def putDevice (n:Net) (l:LineM):Net × Int :=
 if fitsB n l 1=false then (emptyN,2) else if n.devices.any (λ d=>d.name == l.dev || d.mac == l.mac)=true then (emptyN,30) else if n.devices.length=8 then (emptyN,3)
 else ({ n with devices:=n.devices++[⟨l.row,l.num,l.dev,l.mac,0⟩] },0)
def Ck (dev:Int) (ds:List Domain) (v:Int):List Domain:=if 0<v∧ds.any (λ d=>d.dev == dev && d.vlan == v)=false then ds++[⟨dev,v,0,-1,0,[]⟩] else ds
def A7 (dev:Int) (ds:List Domain) (l:List Int):List Domain:=l.foldl (Ck dev) ds
def putPort (n:Net) (l:LineM):Net × Int :=
 if fitsB n l 2=false then (emptyN,2) else if Ca n l.dev<0 then (emptyN,31) else if 0≤Sb n (Ca n l.dev) l.port then (emptyN,30) else if n.ports.length=40 then (emptyN,3)
 else if 48<(A7 (Ca n l.dev) n.domains (l.vlan::l.tagged)).length then (emptyN,3)
 else ({ n with ports:=n.ports++[⟨l.row,Ca n l.dev,l.vlan,l.cost,-1,l.port,l.tagged⟩],domains:=A7 (Ca n l.dev) n.domains (l.vlan::l.tagged) },0)
def endI (n:Net) (dev port:ByteArray):Int:=if Ca n dev<0 then -1 else Sb n (Ca n dev) port
def Ex (l:List Port) (i k:Int):List Port:=l.set i.toNat { nth l i with link:=k }
def putLink (n:Net) (l:LineM):Net × Int :=
 if fitsB n l 3=false then (emptyN,2) else
 let a:=endI n l.dev l.port
 let b:=endI n l.peer l.far
 if a<0∨b<0 then (emptyN,31) else if (nth n.ports a).dev=(nth n.ports b).dev∨0≤(nth n.ports a).link∨0≤(nth n.ports b).link then (emptyN,33) else if n.links.length=20 then (emptyN,3)
 else ({ n with ports:=Ex (Ex n.ports a n.links.length) b n.links.length,links:=n.links++[⟨l.row,a,b⟩] },0)
def Aif (n:Net) (d mac:Int):Int:=Bg (λ s:Static=>s.domain == d && s.mac == mac) n.statics
def putStatic (n:Net) (l:LineM):Net × Int :=
 if fitsB n l 4=false then (emptyN,2) else
 let dev:=Ca n l.dev
 let port:=Sb n dev l.port
 let dom:=Cq n dev l.vlan
 if dev<0∨port<0 then (emptyN,31) else if dom<0∨Ce (nth n.ports port) l.vlan=false then (emptyN,32) else if 0≤Aif n dom l.mac then (emptyN,30) else if n.statics.length=64 then (emptyN,3)
 else ({ n with statics:=n.statics++[⟨l.row,dom,port,l.mac⟩] },0)
def Cp (n:Net) (a:Int):Int:=Bg (λ d:Device=>d.vtep == a) n.devices
def H6 (n:Net) (dev vni:Int):Int:=Bg (λ d:Domain=>d.dev == dev && (d.vni == vni && vni != 0)) n.domains
def Dt (n:Net) (dev vni:Int):Int:=Bg (λ f:Flood=>f.dev == dev && f.vni == vni) n.floods
def begT (n:Net) (l:LineM) (k:Int):Int × Int:=if fitsB n l k=false then (0,2) else if Ca n l.dev<0 then (0,31) else (Ca n l.dev,0)
def Vd (l:List Device) (i a:Int):List Device:=l.set i.toNat { nth l i with vtep:=a }
def putVtep (n:Net) (l:LineM):Net × Int :=
 if (begT n l 5).2≠0 then (emptyN,(begT n l 5).2) else
 let dev:=(begT n l 5).1
 if (nth n.devices dev).vtep≠0∨0≤Cp n l.addr then (emptyN,30) else ({ n with devices:=Vd n.devices dev l.addr },0)
def putVni (n:Net) (l:LineM):Net × Int :=
 if (begT n l 6).2≠0 then (emptyN,(begT n l 6).2) else
 let dev:=(begT n l 6).1
 let at_:=Cq n dev l.vlan
 if (nth n.devices dev).vtep=0 then (emptyN,35) else if at_<0 then (emptyN,32) else if (nth n.domains at_).vni≠0∨0≤H6 n dev l.num then (emptyN,30)
 else ({ n with domains:=n.domains.set at_.toNat { nth n.domains at_ with vni:=l.num,row:=l.row } },0)
def putFlood (n:Net) (l:LineM):Net × Int :=
 if (begT n l 7).2≠0 then (emptyN,(begT n l 7).2) else
 let dev:=(begT n l 7).1
 if H6 n dev l.num<0 then (emptyN,31) else if 0≤Dt n dev l.num then (emptyN,30) else if inB l.addrs (nth n.devices dev).vtep=true then (emptyN,36) else if n.floods.length=48 then (emptyN,3)
 else ({ n with floods:=n.floods++[⟨l.row,dev,l.num,l.addrs⟩] },0)
def putVrf (n:Net) (l:LineM):Net × Int :=
 if (begT n l 8).2≠0 then (emptyN,(begT n l 8).2) else
 let dev:=(begT n l 8).1
 if 0≤Agt n dev l.name then (emptyN,30) else if n.vrfs.length=16 then (emptyN,3)
 else ({ n with vrfs:=n.vrfs++[⟨l.row,dev,l.name,l.imports,l.exports⟩] },0)
def Yq (a bits x:Int):Bool:=decide (0≤bits) && (decide (bits≤32) && Hv a bits == Hv x bits)
def clashB (n:Net) (dev a bits:Int) (x:Irb):Bool:=x.addr == a || ((nth n.vrfs x.vrf).dev != dev && (Yq x.addr x.bits a || Yq a bits x.addr))
def putIrb (n:Net) (l:LineM):Net × Int :=
 if (begT n l 9).2≠0 then (emptyN,(begT n l 9).2) else
 let dev:=(begT n l 9).1
 let vrf:=Agt n dev l.name
 let at_:=Cq n dev l.vlan
 if vrf<0 then (emptyN,31) else if at_<0 then (emptyN,32) else if 0≤(nth n.domains at_).irb∨n.irbs.any (clashB n dev l.addr l.bits)=true then (emptyN,37)
 else ({ n with domains:=n.domains.set at_.toNat { nth n.domains at_ with irb:=n.irbs.length },irbs:=n.irbs++[⟨l.row,at_,vrf,l.addr,l.bits⟩] },0)
def putT (n:Net) (l:LineM):Net × Int :=
 if l.kind=1 then putDevice n l else if l.kind=2 then putPort n l else if l.kind=3 then putLink n l else if l.kind=4 then putStatic n l else if l.kind=5 then putVtep n l
 else if l.kind=6 then putVni n l else if l.kind=7 then putFlood n l else if l.kind=8 then putVrf n l else if l.kind=9 then putIrb n l else (emptyN,2)
def agreeA (n:Net) (f:Flood) (a:Int):Bool :=
 let dev:=Cp n a
 decide (0≤dev) && (a != 0 && (decide (0≤H6 n dev f.vni) && (decide (0≤Dt n dev f.vni) &&
  (inB (nth n.floods (Dt n dev f.vni)).addrs (nth n.devices f.dev).vtep && f.addrs.all λ b=>b == a || inB (nth n.floods (Dt n dev f.vni)).addrs b))))
def agreesB (n:Net) (f:Flood):Bool:=decide (0≤H6 n f.dev f.vni) && f.addrs.all (agreeA n f)
def peersT (n:Net) (d:Domain):List Int:=if d.vni≠0∧0≤Dt n d.dev d.vni then (nth n.floods (Dt n d.dev d.vni)).addrs.map (λ a=>H6 n (Cp n a) d.vni) else []
def Bk (n:Net):Net:={ n with domains:=n.domains.map λ d=>{ d with peers:=peersT n d } }
def meshNT (n:Net):Net × Int × Int :=
 if Ab n=false then (emptyN,0,2) else match n.floods.find? (λ f=>!(agreesB n f)) with
 | some f=>(emptyN,f.row,36)
 | none=>if Ab (Bk n)=false then (emptyN,0,36) else (Bk n,0,0)
def Di (f:List Int):Prop:=∀ i (h:i<f.length),0≤f[i]∧f[i]≤i
def Ajg:Nat→List Int→Int→List Int × Int
 | 0,f,i=>(f,i)
 | k+1,f,i=>if nth f i=i then (f,i) else Ajg k (f.set i.toNat (nth f (nth f i))) (nth f (nth f i))
def Kl (f:List Int) (i:Int):List Int × Int:=Ajg (i.toNat+1) f i
def Uu (f:List Int) (a b:Int):List Int × Bool :=
 let x:=Kl f a
 let y:=Kl x.1 b
 (y.1.set (max x.2 y.2).toNat (min x.2 y.2),x.2 != y.2)
def L6 (k:Nat):List Int:=(List.range k).map λ i:Nat=>(i:Int)
def Do (n:Net) (f:List Int) (i:Int) (v:Int):List Int:=if (linkDomT n i v).2=true then (Uu f (Cq n (nth n.ports i).dev v) (linkDomT n i v).1).1 else f
def Ia (n:Net) (f:List Int) (i:Nat):List Int:=((nth n.ports i).tagged++[(nth n.ports i).native]).foldl (λ f v=>Do n f i v) f
def Tt (n:Net) (f:List Int):List Int:=(List.range n.ports.length).foldl (Ia n) f
def Aei:Int→List Int→Int
 | m,[]=>m
 | m,x::l=>Aei (min m x) l
def Akn (l:List Int):Int:=Aei (nth l 0) (l.drop 1)
def O3 (n:Net):List Int→Nat→List Domain→Int × Bool
 | _,_,[]=>(0,false)
 | f,i,d::r=>if d.peers=[] then O3 n f (i+1) r else
  let x:=Uu f i ((n.domains.length:Int)+min (i:Int) (Akn d.peers))
  if x.2=false then (d.row,true) else O3 n x.1 (i+1) r
def loopT (n:Net):Int × Bool:=if Ab n=false then (0,false) else O3 n (Tt n (L6 (2 * n.domains.length))) 0 n.domains
def finishT (n:Net):Net × Int × Int:=if (meshNT n).2.2≠0 then meshNT n else if (loopT (meshNT n).1).2=true then (emptyN,(loopT (meshNT n).1).1,38) else ((meshNT n).1,0,0)
def B3:Net→List LineM→Net × Int × Int
 | n,[]=>finishT n
 | n,l::r=>if (putT n l).2≠0 then (emptyN,l.row,(putT n l).2) else B3 (putT n l).1 r
def C3 (l:List LineM):Net × Int × Int:=B3 emptyN l
theorem Ii {α:Type} [Inhabited α] (l:List α) (x:α) {i:Int} (h:i.toNat<l.length):nth (l++[x]) i=nth l i:=by
 rw[nth,nth,xG h]
theorem Hd {α:Type} [Inhabited α] (l:List α) (x:α):nth (l++[x]) (l.length:Int)=x:=by
 rw[nth,zR,xW (zZ _),uU];rfl
theorem place_iff {i:Int} {k:Nat}:Af i k=true↔0≤i∧i<k:=by simp[Af]
theorem Ho {α:Type} [Inhabited α] (l:List α) (x:α) {i:Int} {j:Nat} (h:i.toNat≠j):nth (l.set j x) i=nth l i:=by
 rw[nth,nth,tA (λ e=>h e.symm)]
theorem Acb {α:Type} [Inhabited α] (l:List α) (x:α) {j:Nat} (h:j<l.length):nth (l.set j x) (j:Int)=x:=by
 rw[nth,zR,wV h];rfl
theorem Lr {α:Type} [Inhabited α] (l:List α) {i:Int} {j:Nat} (h:i.toNat=j):nth l i=nth l (j:Int):=by
 rw[nth,nth,h,zR]
theorem Mh {α:Type} [Inhabited α] (l:List α) (i:Nat) (h:i<l.length):l[i]=nth l (i:Int):=(Ae (i:=(i:Int)) h).symm
structure NetR (n:Net):Prop where
 few:Aew n=true
 bare:∀ i:Nat,i<n.domains.length→L4 n i (nth n.domains i)=true
 peers:∀ i:Nat,i<n.domains.length→Lp n i (nth n.domains i)=true
 port:∀ i:Nat,i<n.ports.length→Iw n i (nth n.ports i)=true
 link:∀ i:Nat,i<n.links.length→Kx n i (nth n.links i)=true
 static:∀ i:Nat,i<n.statics.length→J1 n (nth n.statics i)=true
 flood:∀ i:Nat,i<n.floods.length→L0 n (nth n.floods i)=true
 vrf:∀ i:Nat,i<n.vrfs.length→Ai5 n (nth n.vrfs i)=true
 irb:∀ i:Nat,i<n.irbs.length→Aen n i (nth n.irbs i)=true
theorem Ad1 {α:Type} [Inhabited α] {p:Nat→α→Bool} {l:List α}:Ha p l=true↔∀ i:Nat,i<l.length→p i (nth l i)=true:=by
 rw[allB_iff]
 constructor
 ·intro h i hi
  rw[← Mh l i hi];exact h i hi
 ·intro h i hi
  rw[Mh l i hi];exact h i hi
theorem netR_iff {n:Net}:Ab n=true↔NetR n:=by
 simp only[Ab,zB,Ad1]
 constructor
 ·rintro ⟨⟨⟨⟨⟨⟨⟨⟨a,b⟩,c⟩,d⟩,e⟩,f⟩,g⟩,h⟩,i⟩
  exact⟨a,b,c,d,e,f,g,h,i⟩
 ·rintro ⟨a,b,c,d,e,f,g,h,i⟩
  exact⟨⟨⟨⟨⟨⟨⟨⟨a,b⟩,c⟩,d⟩,e⟩,f⟩,g⟩,h⟩,i⟩
theorem peerB_iff {n:Net} {i:Nat} {d:Domain} {k:Int}:M7 n i d k=true↔Af k n.domains.length=true∧k≠i∧Af (nth n.domains k).dev n.devices.length=true∧(nth n.domains k).dev≠d.dev∧(nth n.domains k).vni=d.vni∧d.vni≠0∧Kv n (nth n.domains k)=true∧Kv n d=true∧inB (nth n.domains k).peers i=true:=by
 simp only[M7,zB,yV,yA,ne_eq]
 constructor
 ·rintro ⟨⟨⟨⟨⟨⟨⟨⟨a,b⟩,c⟩,d⟩,e⟩,f⟩,g⟩,h⟩,i⟩
  exact⟨a,b,c,d,e,f,g,h,i⟩
 ·rintro ⟨a,b,c,d,e,f,g,h,i⟩
  exact⟨⟨⟨⟨⟨⟨⟨⟨a,b⟩,c⟩,d⟩,e⟩,f⟩,g⟩,h⟩,i⟩
theorem J9 {n m:Net} {i:Nat} {d e:Domain} (hd:e.peers=d.peers) (h:Lp n i d=true) (hp:∀ k,M7 n i d k=true→M7 m i e k=true):Lp m i e=true:=by
 rw[Lp,hd]
 rw[Lp]at h
 rw[Ad1]at h ⊢
 intro j hj
 have:=h j hj
 rw[zB]at this ⊢
 exact⟨hp _ this.1,this.2⟩
theorem bareB_iff {n:Net} {i:Nat} {d:Domain}:L4 n i d=true↔Af d.dev n.devices.length=true∧(1≤d.vlan∧d.vlan≤4094)∧(0≤d.vni∧d.vni≤16777215)∧(d.irb=-1∨Af d.irb n.irbs.length=true∧(nth n.irbs d.irb).domain=i)∧Cq n d.dev d.vlan=i:=by
 simp only[L4,zB,yD,zG,yA]
 constructor
 ·rintro ⟨⟨⟨⟨⟨⟨a,b⟩,c⟩,d⟩,e⟩,f⟩,g⟩
  exact⟨a,⟨b,c⟩,⟨d,e⟩,f,g⟩
 ·rintro ⟨a,⟨b,c⟩,⟨d,e⟩,f,g⟩
  exact⟨⟨⟨⟨⟨⟨a,b⟩,c⟩,d⟩,e⟩,f⟩,g⟩
theorem portB_iff {n:Net} {i:Nat} {p:Port}:Iw n i p=true↔Af p.dev n.devices.length=true∧(0≤p.native∧p.native≤4094)∧Uh p.tagged 4094=true∧inB p.tagged p.native=false∧¬ (p.native=0∧p.tagged=[])∧(∀ v∈p.tagged,0≤Cq n p.dev v) ∧
  (0<p.native→0≤Cq n p.dev p.native)∧(p.link=-1∨Af p.link n.links.length=true∧((nth n.links p.link).a=i∨(nth n.links p.link).b=i)):=by
 have e:Ha (λ _ v=>decide (0≤Cq n p.dev v)) p.tagged=true↔∀ v∈p.tagged,0≤Cq n p.dev v:=by
  rw[allB_iff]
  simp only[zG]
  constructor
  ·intro h v hv
   obtain ⟨j,hj,rfl⟩:=yR.1 hv
   exact h j hj
  ·intro h j hj
   exact h _ (zE hj)
 simp only[Iw,D1]
 simp only[zB,yD,e,uW,tJ,Bool.and_eq_false_imp,zG,zV,yA,Uh,vU]
 constructor
 ·rintro ⟨⟨⟨⟨⟨⟨⟨⟨a,b⟩,c⟩,d⟩,e⟩,f⟩,g⟩,h⟩,i⟩
  refine⟨a,⟨b,c⟩,d,e,λ x=>f x.1 x.2,g,λ x=>?_,i⟩
  simpa using h x
 ·rintro ⟨a,⟨b,c⟩,d,e,f,g,h,i⟩
  refine⟨⟨⟨⟨⟨⟨⟨⟨a,b⟩,c⟩,d⟩,e⟩,λ x y=>f ⟨x,y⟩⟩,g⟩,λ x=>?_⟩,i⟩
  simpa using h x
theorem linkB_iff {n:Net} {i:Nat} {l:Link}:Kx n i l=true↔Af l.a n.ports.length=true∧Af l.b n.ports.length=true∧(nth n.ports l.a).dev≠(nth n.ports l.b).dev∧(nth n.ports l.a).link=i∧(nth n.ports l.b).link=i:=by
 simp only[Kx,zB,yV,yA,ne_eq,and_assoc]
theorem staticB_iff {n:Net} {s:Static}:J1 n s=true↔Af s.domain n.domains.length=true∧Af s.port n.ports.length=true∧(nth n.ports s.port).dev=(nth n.domains s.domain).dev∧Ce (nth n.ports s.port) (nth n.domains s.domain).vlan=true:=by
 simp only[J1,zB,yA,and_assoc]
theorem irbB_iff {n:Net} {i:Nat} {x:Irb}:Aen n i x=true↔Af x.domain n.domains.length=true∧Af x.vrf n.vrfs.length=true∧(nth n.domains x.domain).dev=(nth n.vrfs x.vrf).dev∧(nth n.domains x.domain).irb=i∧1≤x.bits∧x.bits≤30:=by
 simp only[Aen,zB,yA,zG,and_assoc]
theorem floodB_iff {n:Net} {f:Flood}:L0 n f=true↔Af f.dev n.devices.length=true∧f.addrs.length≤16:=by simp[L0]
theorem vrfB_iff {n:Net} {v:Vrf}:Ai5 n v=true↔Af v.dev n.devices.length=true∧Uh v.imports 65535=true∧Uh v.exports 65535=true:=by simp[Ai5,and_assoc]
theorem few_iff {n:Net}:Aew n=true↔n.devices.length≤8∧n.ports.length≤40∧n.links.length≤20∧n.domains.length≤48∧n.statics.length≤64∧n.floods.length≤48∧n.vrfs.length≤16∧n.irbs.length≤48:=by
 simp[Aew,and_assoc]
theorem Hc {i:Int} {k m:Nat} (h:Af i k=true) (hkm:k≤m):Af i m=true:=by
 rw[place_iff]at h ⊢;omega
theorem Aim {n:Net} (h:NetR n) (x:Device) (hx:n.devices.length<8):NetR { n with devices:=n.devices++[x] }:=by
 have hp:∀ {i:Int},Af i n.devices.length=true→Af i (n.devices++[x]).length=true:=λ h=>Hc h y_
 have hv:∀ d:Domain,Af d.dev n.devices.length=true→Kv { n with devices:=n.devices++[x] } d=Kv n d:=λ d hd=>by
  have:=place_iff.1 hd
  simp only[Kv]
  rw[Ii _ _ q_]
 refine⟨?_,λ i hi=>?_,λ i hi=>?_,λ i hi=>?_,h.link,h.static,λ i hi=>?_,λ i hi=>?_,h.irb⟩
 ·have:=few_iff.1 h.few
  exact few_iff.2 (by simp only[zI,zM];omega)
 ·have:=bareB_iff.1 (h.bare i hi)
  exact bareB_iff.2 ⟨hp this.1,this.2⟩
 ·have hb:=(bareB_iff.1 (h.bare i hi)).1
  refine J9 E (h.peers i hi) λ k hk=>?_
  obtain ⟨a,b,c,d,e,f,g,q,r⟩:=peerB_iff.1 hk
  exact peerB_iff.2 ⟨a,b,hp c,d,e,f,(hv _ c).trans g,(hv _ hb).trans q,r⟩
 ·have:=portB_iff.1 (h.port i hi)
  exact portB_iff.2 ⟨hp this.1,this.2⟩
 ·have:=floodB_iff.1 (h.flood i hi)
  exact floodB_iff.2 ⟨hp this.1,this.2⟩
 ·have:=vrfB_iff.1 (h.vrf i hi)
  exact vrfB_iff.2 ⟨hp this.1,this.2⟩
theorem Ag0 {n:Net} (h:NetR n) (x:Static) (hx:J1 n x=true) (hl:n.statics.length<64):NetR { n with statics:=n.statics++[x] }:=by
 refine⟨?_,h.bare,h.peers,h.port,h.link,λ i hi=>?_,h.flood,h.vrf,h.irb⟩
 ·have:=few_iff.1 h.few
  exact few_iff.2 (by simp only[zI,zM];omega)
 ·simp only[zI,zM]at hi
  by_cases e:i<n.statics.length
  ·rw[show nth (n.statics++[x]) (i:Int)=nth n.statics (i:Int) from Ii _ _ e]
   exact h.static i e
  ·rw[show i=n.statics.length by omega,Hd]
   exact hx
theorem Als {n:Net} (h:NetR n) (x:Flood) (hx:L0 n x=true) (hl:n.floods.length<48):NetR { n with floods:=n.floods++[x] }:=by
 refine⟨?_,h.bare,h.peers,h.port,h.link,h.static,λ i hi=>?_,h.vrf,h.irb⟩
 ·have:=few_iff.1 h.few
  exact few_iff.2 (by simp only[zI,zM];omega)
 ·simp only[zI,zM]at hi
  by_cases e:i<n.floods.length
  ·rw[show nth (n.floods++[x]) (i:Int)=nth n.floods (i:Int) from Ii _ _ e]
   exact h.flood i e
  ·rw[show i=n.floods.length by omega,Hd]
   exact hx
theorem Ar4 {n:Net} (h:NetR n) (x:Vrf) (hx:Ai5 n x=true) (hl:n.vrfs.length<16):NetR { n with vrfs:=n.vrfs++[x] }:=by
 refine⟨?_,h.bare,h.peers,h.port,h.link,h.static,h.flood,λ i hi=>?_,λ i hi=>?_⟩
 ·have:=few_iff.1 h.few
  exact few_iff.2 (by simp only[zI,zM];omega)
 ·simp only[zI,zM]at hi
  by_cases e:i<n.vrfs.length
  ·rw[show nth (n.vrfs++[x]) (i:Int)=nth n.vrfs (i:Int) from Ii _ _ e]
   exact h.vrf i e
  ·rw[show i=n.vrfs.length by omega,Hd]
   exact hx
 ·obtain ⟨a,b,c,d,e⟩:=irbB_iff.1 (h.irb i hi)
  have hb:=place_iff.1 b
  exact irbB_iff.2 ⟨a,Hc b y_,by rw[show nth (n.vrfs++[x]) (nth n.irbs (i:Int)).vrf=nth n.vrfs (nth n.irbs (i:Int)).vrf from Ii _ _ q_];exact c,d,e⟩
theorem Am0 {n:Net} (h:NetR n) (j:Nat) (a:Int) (ha:a≠0):NetR { n with devices:=n.devices.set j { nth n.devices j with vtep:=a } }:=by
 have hp:(n.devices.set j { nth n.devices j with vtep:=a }).length=n.devices.length:=yE
 have hv:∀ d:Domain,Kv n d=true→Kv { n with devices:=n.devices.set j { nth n.devices j with vtep:=a } } d=true:=λ d hd=>by
  simp only[Kv,yV,ne_eq]at hd ⊢
  by_cases e:d.dev.toNat=j
  ·by_cases hl:j<n.devices.length
   ·have:nth (n.devices.set j { nth n.devices j with vtep:=a }) d.dev={ nth n.devices j with vtep:=a }:=by
     rw[nth,e,wV hl];rfl
    rw[this];exact ha
   ·rw[uG q_];exact hd
  ·rw[Ho _ _ e];exact hd
 refine⟨?_,λ i hi=>?_,λ i hi=>?_,λ i hi=>?_,h.link,h.static,λ i hi=>?_,λ i hi=>?_,h.irb⟩
 ·have:=few_iff.1 h.few
  exact few_iff.2 (by rw[hp];exact this)
 ·have:=bareB_iff.1 (h.bare i hi)
  exact bareB_iff.2 ⟨by rw[hp];exact this.1,this.2⟩
 ·refine J9 E (h.peers i hi) λ k hk=>?_
  obtain ⟨a,b,c,d,e,f,g,q,r⟩:=peerB_iff.1 hk
  exact peerB_iff.2 ⟨a,b,by rw[hp];exact c,d,e,f,hv _ g,hv _ q,r⟩
 ·have:=portB_iff.1 (h.port i hi)
  exact portB_iff.2 ⟨by rw[hp];exact this.1,this.2⟩
 ·have:=floodB_iff.1 (h.flood i hi)
  exact floodB_iff.2 ⟨by rw[hp];exact this.1,this.2⟩
 ·have:=vrfB_iff.1 (h.vrf i hi)
  exact vrfB_iff.2 ⟨by rw[hp];exact this.1,this.2⟩
theorem Axy {α:Type} (p:α→Bool) (l:List α) (j:Nat) (x:α) (h:∀ y,l[j]? = some y→p x=p y):Bg p (l.set j x)=Bg p l:=by
 have e:(l.set j x).findIdx? p=l.findIdx? p:=by
  induction l generalizing j with
  | nil=>rfl
  | cons z l ih =>
   cases j with
   | zero =>
    rw[vZ,tP,tP,h z rfl]
   | succ j =>
    rw[tO,tP,tP,ih j (λ y hy=>h y (by simpa using hy))]
 rw[Bg,Bg,e]
theorem Al4 {n:Net} {j:Nat} (hj:j<n.domains.length) (x:Domain) (h1:x.dev=(nth n.domains j).dev) (h2:x.vlan=(nth n.domains j).vlan) (m:Net) (hm:m.domains=n.domains.set j x) (dev vlan:Int):Cq m dev vlan=Cq n dev vlan:=by
 rw[Cq,hm,Axy _ _ _ _ (λ y hy=>?_)]
 ·rfl
 ·rw[zH hj]at hy
  simp only[Option.some.injEq]at hy
  rw[Mh _ _ hj]at hy
  rw[← hy,h1,h2]
theorem Ix {α:Type} [Inhabited α] (l:List α) (x:α) (j:Nat) (i:Int) (f:α→Int) (hf:f x=f (nth l j)) (hj:j<l.length):f (nth (l.set j x) i)=f (nth l i):=by
 by_cases e:i.toNat=j
 ·have:nth (l.set j x) i=x:=by rw[nth,e,wV hj];rfl
  have h2:nth l i=nth l (j:Int):=Lr _ e
  rw[this,h2,hf]
 ·rw[Ho _ _ e]
theorem Ar5 {n:Net} (h:NetR n) (j:Nat) (hj:j<n.domains.length) (h0:(nth n.domains j).vni=0) (v r:Int) (hv:0≤v∧v≤16777215):NetR { n with domains:=n.domains.set j { nth n.domains j with vni:=v,row:=r } }:=by
 have hl:(n.domains.set j { nth n.domains j with vni:=v,row:=r }).length=n.domains.length:=yE
 have hdom:=Al4 (n:=n) hj { nth n.domains j with vni:=v,row:=r } rfl rfl { n with domains:=n.domains.set j { nth n.domains j with vni:=v,row:=r } } rfl
 have hdev:=λ i=>Ix n.domains { nth n.domains j with vni:=v,row:=r } j i Domain.dev rfl hj
 have hvl:=λ i=>Ix n.domains { nth n.domains j with vni:=v,row:=r } j i Domain.vlan rfl hj
 have hir:=λ i=>Ix n.domains { nth n.domains j with vni:=v,row:=r } j i Domain.irb rfl hj
 have hne:∀ i:Nat,i≠j→nth (n.domains.set j { nth n.domains j with vni:=v,row:=r }) (i:Int)=nth n.domains (i:Int):=λ i hi=>Ho _ _ (by rw[zR];exact hi)
 refine⟨?_,λ i hi=>?_,λ i hi=>?_,λ i hi=>?_,h.link,λ i hi=>?_,h.flood,h.vrf,λ i hi=>?_⟩
 ·have:=few_iff.1 h.few
  exact few_iff.2 (by rw[hl];exact this)
 ·rw[hl]at hi
  obtain ⟨a,b,c,d,e⟩:=bareB_iff.1 (h.bare i hi)
  refine bareB_iff.2 ⟨by rw[hdev];exact a,by rw[hvl];exact b,?_,by rw[hir];exact d,by rw[hdom,hdev,hvl];exact e⟩
  by_cases ij:i=j
  ·subst ij
   show 0≤(nth (n.domains.set i { nth n.domains i with vni:=v,row:=r }) (i:Int)).vni∧(nth (n.domains.set i { nth n.domains i with vni:=v,row:=r }) (i:Int)).vni≤_
   rw[Acb _ _ hj];exact hv
  ·rw[hne i ij];exact c
 ·rw[hl]at hi
  have hpi:=h.peers i hi
  by_cases ij:i=j
  ·subst ij
   rw[Acb _ _ hj]
   have:(nth n.domains (i:Int)).peers=[]:=by
    cases hp:(nth n.domains (i:Int)).peers with
    | nil=>rfl
    | cons k r =>
     rw[Lp,hp,Ad1]at hpi
     have:=hpi 0 y_
     rw[zB]at this
     exact zW h0 (peerB_iff.1 this.1).2.2.2.2.2.1
   rw[Lp]
   dsimp only
   rw[this]
   rfl
  ·rw[hne i ij]
   refine J9 E hpi λ k hk=>?_
   obtain ⟨a,b,c,d,e,f,g,q,rr⟩:=peerB_iff.1 hk
   have hk:=place_iff.1 a
   have kj:k.toNat≠j:=λ kj=>by
    have:nth n.domains k=nth n.domains (j:Int):=Lr _ kj
    rw[this,h0]at e
    exact f e.symm
   have hkn:nth (n.domains.set j { nth n.domains j with vni:=v,row:=r }) k=nth n.domains k:=Ho _ _ kj
   exact peerB_iff.2 ⟨by rw[hl];exact a,b,by rw[hkn];exact c,by rw[hkn];exact d,by rw[hkn];exact e,f,by rw[hkn];exact g,q,by rw[hkn];exact rr⟩
 ·obtain ⟨a,b,c,d,e,f,g,q⟩:=portB_iff.1 (h.port i hi)
  exact portB_iff.2 ⟨a,b,c,d,e,λ v hv=>by rw[hdom];exact f v hv,λ hv=>by rw[hdom];exact g hv,q⟩
 ·obtain ⟨a,b,c,d⟩:=staticB_iff.1 (h.static i hi)
  exact staticB_iff.2 ⟨by rw[hl];exact a,b,by rw[hdev];exact c,by rw[hvl];exact d⟩
 ·obtain ⟨a,b,c,d,e⟩:=irbB_iff.1 (h.irb i hi)
  exact irbB_iff.2 ⟨by rw[hl];exact a,b,by rw[hdev];exact c,by rw[hir];exact d,e⟩
theorem Auc {n:Net} (h:NetR n) (j:Nat) (hj:j<n.domains.length) (h0:(nth n.domains j).irb<0) (x:Irb) (hx:x.domain=j) (hv:Af x.vrf n.vrfs.length=true) (hd:(nth n.domains j).dev=(nth n.vrfs x.vrf).dev) (hb:1≤x.bits∧x.bits≤30) :
  NetR { n with domains:=n.domains.set j { nth n.domains j with irb:=n.irbs.length },irbs:=n.irbs++[x] }:=by
 have hl:(n.domains.set j { nth n.domains j with irb:=n.irbs.length }).length=n.domains.length:=yE
 have hdom:=Al4 (n:=n) hj { nth n.domains j with irb:=n.irbs.length } rfl rfl { n with domains:=n.domains.set j { nth n.domains j with irb:=n.irbs.length },irbs:=n.irbs++[x] } rfl
 have hdev:=λ i=>Ix n.domains { nth n.domains j with irb:=n.irbs.length } j i Domain.dev rfl hj
 have hvl:=λ i=>Ix n.domains { nth n.domains j with irb:=n.irbs.length } j i Domain.vlan rfl hj
 have hvn:=λ i=>Ix n.domains { nth n.domains j with irb:=n.irbs.length } j i Domain.vni rfl hj
 have hpe:∀ i,(nth (n.domains.set j { nth n.domains j with irb:=n.irbs.length }) i).peers=(nth n.domains i).peers:=λ i=>by
  by_cases e:i.toNat=j
  ·have:nth (n.domains.set j { nth n.domains j with irb:=n.irbs.length }) i={ nth n.domains j with irb:=n.irbs.length }:=by rw[nth,e,wV hj];rfl
   have h2:nth n.domains i=nth n.domains (j:Int):=Lr _ e
   rw[this,h2]
  ·rw[Ho _ _ e]
 have hne:∀ i:Nat,i≠j→nth (n.domains.set j { nth n.domains j with irb:=n.irbs.length }) (i:Int)=nth n.domains (i:Int):=λ i hi=>Ho _ _ (by rw[zR];exact hi)
 have hself:nth (n.domains.set j { nth n.domains j with irb:=n.irbs.length }) (j:Int)={ nth n.domains j with irb:=n.irbs.length }:=Acb _ _ hj
 have hfew:n.irbs.length<48:=by
  have hf:=few_iff.1 h.few
  refine yO ?_ hf.2.2.2.1
  have inj:∀ a b:Nat,a<n.irbs.length→b<n.irbs.length→(nth n.irbs (a:Int)).domain=(nth n.irbs (b:Int)).domain→a=b:=λ a b ha hb e=>by
   have h1:=(irbB_iff.1 (h.irb a ha)).2.2.2.1
   have h2:=(irbB_iff.1 (h.irb b hb)).2.2.2.1
   rw[e,h2]at h1
   omega
  have hsub:((List.range n.irbs.length).map λ a:Nat=>(nth n.irbs (a:Int)).domain.toNat).length≤((List.range n.domains.length).erase j).length:=by
   refine List.Nodup.length_le_of_subset ?_ ?_
   ·rw[wS,List.pairwise_map]
    refine List.Pairwise.imp_of_mem ?_ List.pairwise_lt_range
    intro a b ha hb hab e
    have ha:=xC.1 ha
    have hb:=xC.1 hb
    have p1:=place_iff.1 (irbB_iff.1 (h.irb a ha)).1
    have p2:=place_iff.1 (irbB_iff.1 (h.irb b hb)).1
    have:=inj a b ha hb q_
    omega
   ·intro y hy
    obtain ⟨a,ha,rfl⟩:=yH.1 hy
    have ha:=xC.1 ha
    have p1:=place_iff.1 (irbB_iff.1 (h.irb a ha)).1
    have p2:=(irbB_iff.1 (h.irb a ha)).2.2.2.1
    rw[List.mem_erase_of_ne]
    ·exact xC.2 q_
    ·intro e
     have:nth n.domains (nth n.irbs (a:Int)).domain=nth n.domains (j:Int):=Lr _ e
     rw[this]at p2
     omega
  rw[yP,List.length_range,List.length_erase_of_mem (xC.2 hj),List.length_range]at hsub
  omega
 refine⟨?_,λ i hi=>?_,λ i hi=>?_,λ i hi=>?_,h.link,λ i hi=>?_,h.flood,h.vrf,λ i hi=>?_⟩
 ·have:=few_iff.1 h.few
  exact few_iff.2 (by rw[hl];simp only[zI,zM];omega)
 ·rw[hl]at hi
  obtain ⟨a,b,c,d,e⟩:=bareB_iff.1 (h.bare i hi)
  refine bareB_iff.2 ⟨by rw[hdev];exact a,by rw[hvl];exact b,by rw[hvn];exact c,?_,by rw[hdom,hdev,hvl];exact e⟩
  by_cases ij:i=j
  ·subst ij
   rw[hself]
   refine .inr ⟨place_iff.2 (by simp;omega),?_⟩
   show (nth (n.irbs++[x]) (n.irbs.length:Int)).domain=_
   rw[Hd,hx]
  ·rw[hne i ij]
   rcases d with d | ⟨d1,d2⟩
   ·exact .inl d
   ·have:=place_iff.1 d1
    exact .inr ⟨Hc d1 y_,by rw[show nth (n.irbs++[x]) (nth n.domains (i:Int)).irb=nth n.irbs (nth n.domains (i:Int)).irb from Ii _ _ q_];exact d2⟩
 ·rw[hl]at hi
  refine J9 (hpe _) (h.peers i hi) λ k hk=>?_
  obtain ⟨a,b,c,d,e,f,g,q,r⟩:=peerB_iff.1 hk
  have hvt:∀ k,Kv { n with domains:=n.domains.set j { nth n.domains j with irb:=n.irbs.length },irbs:=n.irbs++[x] } (nth (n.domains.set j { nth n.domains j with irb:=n.irbs.length }) k)=Kv n (nth n.domains k):=λ k=>by
   simp only[Kv];rw[hdev]
  exact peerB_iff.2 ⟨by rw[hl];exact a,b,by rw[hdev];exact c,by rw[hdev,hdev];exact d,by rw[hvn,hvn];exact e,by rw[hvn];exact f,(hvt k).trans g,(hvt i).trans q,by rw[hpe];exact r⟩
 ·obtain ⟨a,b,c,d,e,f,g,q⟩:=portB_iff.1 (h.port i hi)
  exact portB_iff.2 ⟨a,b,c,d,e,λ v hv=>by rw[hdom];exact f v hv,λ hv=>by rw[hdom];exact g hv,q⟩
 ·obtain ⟨a,b,c,d⟩:=staticB_iff.1 (h.static i hi)
  exact staticB_iff.2 ⟨by rw[hl];exact a,b,by rw[hdev];exact c,by rw[hvl];exact d⟩
 ·simp only[zI,zM]at hi
  by_cases e:i<n.irbs.length
  ·rw[show nth (n.irbs++[x]) (i:Int)=nth n.irbs (i:Int) from Ii _ _ e]
   obtain ⟨a,b,c,d,e⟩:=irbB_iff.1 (h.irb i e)
   have pa:=place_iff.1 a
   have hdj:(nth n.irbs (i:Int)).domain.toNat≠j:=λ e=>by
    have:nth n.domains (nth n.irbs (i:Int)).domain=nth n.domains (j:Int):=Lr _ e
    rw[this]at d
    omega
   have hk:nth (n.domains.set j { nth n.domains j with irb:=n.irbs.length }) (nth n.irbs (i:Int)).domain=nth n.domains (nth n.irbs (i:Int)).domain:=Ho _ _ hdj
   exact irbB_iff.2 ⟨by rw[hl];exact a,b,by rw[hk];exact c,by rw[hk];exact d,e⟩
  ·rw[show i=n.irbs.length by omega,Hd]
   refine irbB_iff.2 ⟨by rw[hl];exact place_iff.2 q_,hv,?_,?_,hb⟩
   ·rw[hx,hself];exact hd
   ·rw[hx,hself]
theorem idxI_nonneg {α:Type} {p:α→Bool} {l:List α}:0≤Bg p l↔l.any p=true:=by
 rw[wF]
 constructor
 ·intro h
  cases hf:l.findIdx? p with
  | none=>simp only[Bg,hf]at h;omega
  | some i =>
   rw[xK]at hf
   obtain ⟨h1,h2,_⟩:=hf
   exact⟨l[i],zE h1,h2⟩
 ·rintro ⟨x,hx,hp⟩
  cases hf:l.findIdx? p with
  | none =>
   rw[tD]at hf
   rw[hf x hx]at hp;cases hp
  | some i=>simp only[Bg,hf];omega
theorem Ed {α:Type} [Inhabited α] {p:α→Bool} {l:List α} (h:0≤Bg p l):(Bg p l).toNat<l.length∧p (nth l (Bg p l))=true:=by
 cases hf:l.findIdx? p with
 | none=>simp only[Bg,hf]at h;omega
 | some i =>
  have e:Bg p l=i:=by simp only[Bg,hf]
  rw[xK]at hf
  obtain ⟨h1,h2,_⟩:=hf
  rw[e,zR]
  refine⟨h1,?_⟩
  rw[← Mh l i h1];exact h2
theorem Alg {α:Type} (p:α→Bool) (l e:List α) (h:0≤Bg p l):Bg p (l++e)=Bg p l:=by
 cases hf:l.findIdx? p with
 | none=>simp only[Bg,hf]at h;omega
 | some i =>
  have:(l++e).findIdx? p=some i:=by rw[List.findIdx?_append,hf];rfl
  simp only[Bg,hf,this]
theorem Af0 {α:Type} (p:α→Bool) (l:List α) (x:α) (h:l.any p=false) (hx:p x=true):Bg p (l++[x])=l.length:=by
 refine Cj (j:=l.length) y_ (λ i hi hij=>?_) ?_
 ·rw[yL hij]
  rw[wQ]at h
  have:=h l[i] (zE hij)
  simpa using this
 ·rw[yY (zZ _)]
  simpa using hx
theorem Aih {n:Net} (h:NetR n) (dev v:Int) (hd:Af dev n.devices.length=true) (hv:1≤v∧v≤4094) (ha:n.domains.any (λ d=>d.dev == dev && d.vlan == v)=false) (m:Net) (hm:m={ n with domains:=n.domains++[⟨dev,v,0,-1,0,[]⟩] }) (hl:n.domains.length<48):NetR m:=by
 subst hm
 have hn:∀ {i:Int},i.toNat<n.domains.length→nth (n.domains++[(⟨dev,v,0,-1,0,[]⟩:Domain)]) i=nth n.domains i:=λ h=>Ii _ _ h
 have hnn:∀ {i:Nat},i<n.domains.length→nth (n.domains++[(⟨dev,v,0,-1,0,[]⟩:Domain)]) (i:Int)=nth n.domains (i:Int):=λ h=>Ii _ _ h
 have hdm:∀ a b,0≤Cq n a b→Cq { n with domains:=n.domains++[⟨dev,v,0,-1,0,[]⟩] } a b=Cq n a b:=λ a b h=>Alg _ _ _ h
 refine⟨?_,λ i hi=>?_,λ i hi=>?_,λ i hi=>?_,h.link,λ i hi=>?_,h.flood,h.vrf,λ i hi=>?_⟩
 ·have:=few_iff.1 h.few
  exact few_iff.2 (by simp only[zI,zM];omega)
 ·simp only[zI,zM]at hi
  by_cases e:i<n.domains.length
  ·rw[hnn e]
   obtain ⟨a,b,c,d,f⟩:=bareB_iff.1 (h.bare i e)
   exact bareB_iff.2 ⟨a,b,c,d,by rw[hdm _ _ q_];exact f⟩
  ·rw[show i=n.domains.length by omega,Hd]
   refine bareB_iff.2 ⟨hd,hv,⟨wG _,by show (0:Int)≤_;decide⟩,.inl E,?_⟩
   exact Af0 _ _ _ ha y_
 ·simp only[zI,zM]at hi
  by_cases e:i<n.domains.length
  ·rw[hnn e]
   refine J9 E (h.peers i e) λ k hk=>?_
   obtain ⟨a,b,c,d,f,g,o,q,r⟩:=peerB_iff.1 hk
   have ha:=place_iff.1 a
   exact peerB_iff.2 ⟨Hc a y_,b,by rw[hn q_];exact c,by rw[hn q_];exact d,by rw[hn q_];exact f,g,by rw[hn q_];exact o,q,by rw[hn q_];exact r⟩
  ·rw[show i=n.domains.length by omega,Hd]
   rfl
 ·obtain ⟨a,b,c,d,e,f,g,q⟩:=portB_iff.1 (h.port i hi)
  exact portB_iff.2 ⟨a,b,c,d,e,λ v hv=>by rw[hdm _ _ (f v hv)];exact f v hv,λ hv=>by rw[hdm _ _ (g hv)];exact g hv,q⟩
 ·obtain ⟨a,b,c,d⟩:=staticB_iff.1 (h.static i hi)
  have pa:=place_iff.1 a
  have e1:=hn (i:=(nth n.statics (i:Int)).domain) q_
  exact staticB_iff.2 ⟨Hc a y_,b,c.trans (zD Domain.dev e1).symm,by have:=d;rw[← zD Domain.vlan e1]at this;exact this⟩
 ·obtain ⟨a,b,c,d,e⟩:=irbB_iff.1 (h.irb i hi)
  have pa:=place_iff.1 a
  have e1:=hn (i:=(nth n.irbs (i:Int)).domain) q_
  exact irbB_iff.2 ⟨Hc a y_,b,(zD Domain.dev e1).trans c,(zD Domain.irb e1).trans d,e⟩
theorem Aal (dev:Int):∀ (l:List Int) (ds:List Domain),ds.length≤(A7 dev ds l).length
 | [],ds=>zZ _
 | v::l,ds=>by
  refine wH ?_ (Aal dev l (Ck dev ds v))
  rw[Ck]
  split<;>simp
theorem U2 {dev:Int}:∀ (l:List Int) (n:Net),NetR n→Af dev n.devices.length=true→(∀ v∈l,v≤4094)→(A7 dev n.domains l).length≤48→NetR { n with domains:=A7 dev n.domains l }∧∀ v∈l,0<v→0≤Cq { n with domains:=A7 dev n.domains l } dev v
 | [],n,h,_,_,_=>⟨h,λ v hv=>by cases hv⟩
 | v::l,n,h,hd,hv,hl=>by
  have hlen:=Aal dev l (Ck dev n.domains v)
  have e:A7 dev n.domains (v::l)=A7 dev (Ck dev n.domains v) l:=rfl
  rw[e]at hl ⊢
  have h1:NetR { n with domains:=Ck dev n.domains v }∧(0<v→0≤Cq { n with domains:=Ck dev n.domains v } dev v):=by
   rw[Ck]at hlen ⊢
   split
   ·rename_i hc
    rw[zC hc]at hlen
    refine⟨Aih h dev v hd ⟨by omega,hv v y_⟩ hc.2 _ E ?_,λ _=>?_⟩
    ·have hl':=hl
     rw[Ck,zC hc]at hl'
     simp only[zI,zM]at hlen
     omega
    ·rw[Cq,Af0 _ _ _ hc.2 y_];omega
   ·rename_i hc
    refine⟨h,λ h0=>?_⟩
    have:n.domains.any (λ d=>d.dev == dev && d.vlan == v)=true:=by
     cases ha:n.domains.any (λ d=>d.dev == dev && d.vlan == v)
     ·exact zW ⟨h0,ha⟩ hc
     ·rfl
    exact idxI_nonneg.2 this
  obtain ⟨r1,r2⟩:=U2 l { n with domains:=Ck dev n.domains v } h1.1 hd (λ x hx=>hv x (by simp[hx])) hl
  refine⟨r1,λ x hx h0=>?_⟩
  rcases yB.1 hx with rfl | hx
  ·have h2:=h1.2 h0
   have:∀ (l:List Int) (ds:List Domain),0≤Bg (λ d:Domain=>d.dev == dev && d.vlan == x) ds→0≤Bg (λ d:Domain=>d.dev == dev && d.vlan == x) (A7 dev ds l):=by
    intro l
    induction l with
    | nil=>exact λ ds h=>h
    | cons y l ih =>
     intro ds h
     refine ih (Ck dev ds y) ?_
     rw[Ck]
     split
     ·rw[Alg _ _ _ h];exact h
     ·exact h
   exact this l _ h2
  ·exact r2 x hx h0
theorem Aoa {n:Net} (h:NetR n) (p:Port) (hp:Iw n n.ports.length p=true) (hl:n.ports.length<40):NetR { n with ports:=n.ports++[p] }:=by
 have hn:∀ {i:Int},i.toNat<n.ports.length→nth (n.ports++[p]) i=nth n.ports i:=λ h=>Ii _ _ h
 refine⟨?_,h.bare,h.peers,λ i hi=>?_,λ i hi=>?_,λ i hi=>?_,h.flood,h.vrf,h.irb⟩
 ·have:=few_iff.1 h.few
  exact few_iff.2 (by simp only[zI,zM];omega)
 ·simp only[zI,zM]at hi
  by_cases e:i<n.ports.length
  ·have e1:nth (n.ports++[p]) (i:Int)=nth n.ports (i:Int):=hn (i:=(i:Int)) e
   rw[e1];exact h.port i e
  ·rw[show i=n.ports.length by omega,Hd];exact hp
 ·obtain ⟨a,b,c,d,e⟩:=linkB_iff.1 (h.link i hi)
  have pa:=place_iff.1 a
  have pb:=place_iff.1 b
  have e1:=hn (i:=(nth n.links (i:Int)).a) q_
  have e2:=hn (i:=(nth n.links (i:Int)).b) q_
  exact linkB_iff.2 ⟨Hc a y_,Hc b y_,λ x=>c ((zD Port.dev e1).symm.trans (x.trans (zD Port.dev e2))),(zD Port.link e1).trans d,(zD Port.link e2).trans e⟩
 ·obtain ⟨a,b,c,d⟩:=staticB_iff.1 (h.static i hi)
  have pb:=place_iff.1 b
  have e1:=hn (i:=(nth n.statics (i:Int)).port) q_
  exact staticB_iff.2 ⟨a,Hc b y_,(zD Port.dev e1).trans c,by have:=d;rw[← e1]at this;exact this⟩
theorem Aor {n:Net} (h:NetR n) (a b:Nat) (ha:a<n.ports.length) (hb:b<n.ports.length) (hd:(nth n.ports a).dev≠(nth n.ports b).dev) (h1:(nth n.ports a).link<0) (h2:(nth n.ports b).link<0) (row:Int) (hl:n.links.length<20) :
  NetR { n with ports:=Ex (Ex n.ports a n.links.length) b n.links.length,links:=n.links++[⟨row,a,b⟩] }:=by
 have hab:a≠b:=λ e=>hd (by rw[e])
 have hlen:(Ex (Ex n.ports a n.links.length) b n.links.length).length=n.ports.length:=by simp[Ex]
 have hi1:∀ i:Int,i.toNat≠a→i.toNat≠b→nth (Ex (Ex n.ports a n.links.length) b n.links.length) i=nth n.ports i:=λ i x y=>by
  rw[Ex,zR,Ho _ _ y,Ex,zR,Ho _ _ x]
 have hia:∀ i:Int,i.toNat=a→nth (Ex (Ex n.ports a n.links.length) b n.links.length) i={ nth n.ports a with link:=n.links.length }:=λ i x=>by
  rw[Ex,zR,Ho _ _ q_,Ex,zR,nth,x,wV ha]
  rfl
 have hib:∀ i:Int,i.toNat=b→nth (Ex (Ex n.ports a n.links.length) b n.links.length) i={ nth n.ports b with link:=n.links.length }:=λ i x=>by
  have e:nth (Ex n.ports a n.links.length) (b:Int)=nth n.ports b:=by rw[Ex,zR,Ho _ _ (by rw[zR];omega)]
  rw[Ex,zR,e,nth,x,wV (by rw[Ex,yE];exact hb)]
  rfl
 have same:∀ {β:Type} (f:Port→β),(∀ p k,f { p with link:=k }=f p)→∀ i:Int,f (nth (Ex (Ex n.ports a n.links.length) b n.links.length) i)=f (nth n.ports i):=λ f hf i=>by
  by_cases x:i.toNat=a
  ·rw[hia i x,hf,nth,nth,x,zR]
  ·by_cases y:i.toNat=b
   ·rw[hib i y,hf,nth,nth,y,zR]
   ·rw[hi1 i x y]
 have sd:=same Port.dev (λ _ _=>rfl)
 have sn:=same Port.native (λ _ _=>rfl)
 have st:=same Port.tagged (λ _ _=>rfl)
 have sm:=same (λ p v=>Ce p v) (λ _ _=>rfl)
 refine⟨?_,h.bare,h.peers,λ i hi=>?_,λ i hi=>?_,λ i hi=>?_,h.flood,h.vrf,h.irb⟩
 ·have:=few_iff.1 h.few
  exact few_iff.2 (by rw[hlen];simp only[zI,zM];omega)
 ·rw[hlen]at hi
  obtain ⟨c1,c2,c3,c4,c5,c6,c7,c8⟩:=portB_iff.1 (h.port i hi)
  refine portB_iff.2 ⟨by rw[sd];exact c1,by rw[sn];exact c2,by rw[st];exact c3,by rw[st,sn];exact c4,by rw[sn,st];exact c5,by rw[st,sd];exact c6,by rw[sn,sd];exact c7,?_⟩
  have nl:nth (n.links++[(⟨row,a,b⟩:Link)]) (n.links.length:Int)=⟨row,a,b⟩:=Hd _ _
  by_cases x:i=a
  ·rw[hia i (by rw[zR];exact x)]
   refine .inr ⟨place_iff.2 (by simp;omega),.inl ?_⟩
   show (nth (n.links++[(⟨row,a,b⟩:Link)]) (n.links.length:Int)).a=_
   rw[nl,x]
  ·by_cases y:i=b
   ·rw[hib i (by rw[zR];exact y)]
    refine .inr ⟨place_iff.2 (by simp;omega),.inr ?_⟩
    show (nth (n.links++[(⟨row,a,b⟩:Link)]) (n.links.length:Int)).b=_
    rw[nl,y]
   ·rw[hi1 i (by rw[zR];exact x) (by rw[zR];exact y)]
    rcases c8 with c8 | ⟨d1,d2⟩
    ·exact .inl c8
    ·have pd:=place_iff.1 d1
     exact .inr ⟨Hc d1 y_,by rw[show nth (n.links++[(⟨row,a,b⟩:Link)]) (nth n.ports (i:Int)).link=nth n.links (nth n.ports (i:Int)).link from Ii _ _ q_];exact d2⟩
 ·simp only[zI,zM]at hi
  by_cases e:i<n.links.length
  ·rw[show nth (n.links++[(⟨row,a,b⟩:Link)]) (i:Int)=nth n.links (i:Int) from Ii _ _ e]
   obtain ⟨c1,c2,c3,c4,c5⟩:=linkB_iff.1 (h.link i e)
   have off:∀ k:Int,(nth n.ports k).link=(i:Int)→nth (Ex (Ex n.ports a n.links.length) b n.links.length) k=nth n.ports k:=λ k hk=>by
    refine hi1 k (λ x=>?_) (λ x=>?_)
    ·have:nth n.ports k=nth n.ports (a:Int):=Lr _ x
     rw[this]at hk;omega
    ·have:nth n.ports k=nth n.ports (b:Int):=Lr _ x
     rw[this]at hk;omega
   exact linkB_iff.2 ⟨by rw[hlen];exact c1,by rw[hlen];exact c2,by rw[sd,sd];exact c3,by rw[off _ c4];exact c4,by rw[off _ c5];exact c5⟩
  ·rw[show i=n.links.length by omega,Hd]
   refine linkB_iff.2 ⟨by rw[hlen];exact place_iff.2 ⟨by show (0:Int)≤(a:Int);omega,by show (a:Int)<_;omega⟩,by rw[hlen];exact place_iff.2 ⟨by show (0:Int)≤(b:Int);omega,by show (b:Int)<_;omega⟩,by rw[sd,sd];exact hd,?_,?_⟩
   ·rw[hia (a:Int) (zR a)]
   ·rw[hib (b:Int) (zR b)]
 ·obtain ⟨c1,c2,c3,c4⟩:=staticB_iff.1 (h.static i hi)
  refine staticB_iff.2 ⟨c1,by rw[hlen];exact c2,by rw[sd];exact c3,?_⟩
  have:=sm (nth n.statics (i:Int)).port
  exact(congrFun this _).trans c4
theorem S5 {n:Net} {l:LineM} {k:Int} (h:¬ fitsB n l k=false):l.kind=k∧(Bh l).2=true∧NetR n:=by
 have h:fitsB n l k=true:=by simpa using h
 simp only[fitsB,C6,zB,yA]at h
 exact⟨h.1,h.2.1.1,netR_iff.1 h.2.2⟩
theorem Om {n:Net} {l:LineM} {k:Int} (h:¬ (begT n l k).2≠0):l.kind=k∧(Bh l).2=true∧NetR n∧0≤Ca n l.dev∧(Ca n l.dev).toNat<n.devices.length∧(begT n l k).1=Ca n l.dev:=by
 rw[begT]at h ⊢
 split at h
 ·simp at h
 ·rename_i h1
  rw[zA h1]
  split at h
  ·simp at h
  ·rename_i h2
   rw[zA h2]
   obtain ⟨a,b,c⟩:=S5 h1
   exact⟨a,b,c,by omega,(Ed (p:=λ d:Device=>d.name == l.dev) (by show 0≤Ca n l.dev;omega)).1,E⟩
theorem Att {l:List Int} {v:Int}:inB l v=l.contains v:=by
 induction l with
 | nil=>rfl
 | cons x l ih =>
  rw[inB,List.any_cons,List.contains_cons]
  rw[inB]at ih
  rw[ih]
  congr 1
  exact Bool.beq_comm
theorem As9 {n:Net} {l:LineM} (h:(putT n l).2=0):NetR (putT n l).1:=by
 rw[putT]at h ⊢
 by_cases k1:l.kind=1
 ·rw[zC k1]at h ⊢
  rw[putDevice]at h ⊢
  repeat' split at h
  all_goals (try (simp at h;done))
  rename_i h1 h2 h3
  rw[zA h1,zA h2,zA h3]
  obtain ⟨_,_,hr⟩:=S5 h1
  have:=few_iff.1 hr.few
  exact Aim hr _ q_
 rw[zA k1]at h ⊢
 by_cases k2:l.kind=2
 ·rw[zC k2]at h ⊢
  rw[putPort]at h ⊢
  repeat' split at h
  all_goals (try (simp at h;done))
  rename_i h1 h2 h3 h4 h5
  rw[zA h1,zA h2,zA h3,zA h4,zA h5]
  obtain ⟨_,hu,hr⟩:=S5 h1
  have hf:=few_iff.1 hr.few
  simp only[Bh,zA k1,zC k2,zB]at hu
  obtain ⟨u1,u2,u3,u4,u5⟩:=hu
  have hv:=within_iff.1 u3
  have hp:=(Ed (p:=λ d:Device=>d.name == l.dev) (l:=n.devices) (by show 0≤Ca n l.dev;omega)).1
  have hpl:Af (Ca n l.dev) n.devices.length=true:=place_iff.2 ⟨by omega,by have:(Ca n l.dev).toNat<n.devices.length:=hp;omega⟩
  have htag:∀ v∈l.tagged,1≤v∧v≤4094:=λ v hv=>by
   rcases listOK_iff.1 u4 with e | e
   ·rw[e]at hv;cases hv
   ·exact(rising_iff.1 e).2.1 v hv
  obtain ⟨r1,r2⟩:=U2 (l.vlan::l.tagged) n hr hpl (λ v hv=>by
   rcases yB.1 hv with rfl | hv
   ·omega
   ·exact(htag v hv).2) q_
  refine Aoa r1 _ (portB_iff.2 ⟨hpl,hv,u4,?_,?_,λ v hv=>r2 v (by simp[hv]) (by have:=htag v hv;omega),λ h0=>r2 _ y_ h0,.inl E⟩) (by show n.ports.length<40;omega)
  ·simp only[membersB,zB,uW,tJ]at u5
   rw[Att];exact u5.2
  ·rintro ⟨e1,e2⟩
   dsimp only at e1 e2
   simp[membersB,e1,e2]at u5
 rw[zA k2]at h ⊢
 by_cases k3:l.kind=3
 ·rw[zC k3]at h ⊢
  rw[putLink]at h ⊢
  dsimp only at h ⊢
  repeat' split at h
  all_goals (try (simp at h;done))
  rename_i h1 h2 h3 h4
  rw[zA h1,zA h2,zA h3,zA h4]
  obtain ⟨_,hu,hr⟩:=S5 h1
  have hf:=few_iff.1 hr.few
  have hend:∀ d p,0≤endI n d p→(endI n d p).toNat<n.ports.length:=λ d p h=>by
   rw[endI]at h ⊢
   split at h
   ·omega
   ·rename_i hx
    rw[zA hx]
    exact(Ed h).1
  have ha:=hend l.dev l.port q_
  have hb:=hend l.peer l.far q_
  generalize endI n l.dev l.port=a at *
  generalize endI n l.peer l.far=b at *
  obtain ⟨a,rfl⟩:∃ k:Nat,a=k:=⟨a.toNat,by omega⟩
  obtain ⟨b,rfl⟩:∃ k:Nat,b=k:=⟨b.toNat,by omega⟩
  rw[zR]at ha hb
  simp only[uK]at h3
  exact Aor hr a b ha hb h3.1 q_ q_ l.row q_
 rw[zA k3]at h ⊢
 by_cases k4:l.kind=4
 ·rw[zC k4]at h ⊢
  rw[putStatic]at h ⊢
  dsimp only at h ⊢
  repeat' split at h
  all_goals (try (simp at h;done))
  rename_i h1 h2 h3 h4 h5
  rw[zA h1,zA h2,zA h3,zA h4,zA h5]
  obtain ⟨_,hu,hr⟩:=S5 h1
  have hf:=few_iff.1 hr.few
  simp only[uK]at h2 h3
  have p1:=Ed (p:=λ p:Port=>p.dev == Ca n l.dev && p.name == l.port) (l:=n.ports) (by show 0≤Sb n (Ca n l.dev) l.port;omega)
  have p2:=Ed (p:=λ d:Domain=>d.dev == Ca n l.dev && d.vlan == l.vlan) (l:=n.domains) (by show 0≤Cq n (Ca n l.dev) l.vlan;omega)
  obtain ⟨a1,a2⟩:=p1
  obtain ⟨b1,b2⟩:=p2
  have a1:(Sb n (Ca n l.dev) l.port).toNat<n.ports.length:=a1
  have b1:(Cq n (Ca n l.dev) l.vlan).toNat<n.domains.length:=b1
  simp only[zB,yA]at a2 b2
  have a2:(nth n.ports (Sb n (Ca n l.dev) l.port)).dev=Ca n l.dev:=a2.1
  have b2:(nth n.domains (Cq n (Ca n l.dev) l.vlan)).dev=Ca n l.dev∧(nth n.domains (Cq n (Ca n l.dev) l.vlan)).vlan=l.vlan:=b2
  refine Ag0 hr _ (staticB_iff.2 ⟨place_iff.2 ⟨?_,?_⟩,place_iff.2 ⟨?_,?_⟩,?_,?_⟩) q_
  ·show 0≤Cq n (Ca n l.dev) l.vlan;omega
  ·show Cq n (Ca n l.dev) l.vlan<_;omega
  ·show 0≤Sb n (Ca n l.dev) l.port;omega
  ·show Sb n (Ca n l.dev) l.port<_;omega
  ·exact a2.trans b2.1.symm
  ·show Ce _ (nth n.domains (Cq n (Ca n l.dev) l.vlan)).vlan=true
   rw[b2.2]
   simpa using h3.2
 rw[zA k4]at h ⊢
 by_cases k5:l.kind=5
 ·rw[zC k5]at h ⊢
  rw[putVtep]at h ⊢
  dsimp only at h ⊢
  by_cases h1:(begT n l 5).2≠0
  ·rw[zC h1]at h;exact zW h h1
  rw[zA h1]at h ⊢
  split at h
  ·simp at h
  rename_i h2
  rw[zA h2]
  obtain ⟨_,hu,hr,d0,d1,d2⟩:=Om h1
  simp only[Bh,zA k1,zA k2,zA k3,zA k4,zC k5,zG]at hu
  rw[d2]
  have:=Am0 hr (Ca n l.dev).toNat l.addr hu
  rw[yQ d0]at this
  exact this
 rw[zA k5]at h ⊢
 by_cases k6:l.kind=6
 ·rw[zC k6]at h ⊢
  rw[putVni]at h ⊢
  dsimp only at h ⊢
  by_cases h1:(begT n l 6).2≠0
  ·rw[zC h1]at h;exact zW h h1
  rw[zA h1]at h ⊢
  obtain ⟨_,hu,hr,d0,d1,d2⟩:=Om h1
  rw[d2]at h ⊢
  repeat' split at h
  all_goals (try (simp at h;done))
  rename_i h2 h3 h4
  rw[zA h2,zA h3,zA h4]
  simp only[Bh,zA k1,zA k2,zA k3,zA k4,zA k5,zC k6,zB]at hu
  have hv:=within_iff.1 hu.2
  have b1:(Cq n (Ca n l.dev) l.vlan).toNat<n.domains.length:=(Ed (p:=λ d:Domain=>d.dev == Ca n l.dev && d.vlan == l.vlan) (l:=n.domains) (by show 0≤Cq n (Ca n l.dev) l.vlan;omega)).1
  simp only[uK,Decidable.not_not]at h4
  generalize Cq n (Ca n l.dev) l.vlan=j at *
  obtain ⟨j,rfl⟩:∃ k:Nat,j=k:=⟨j.toNat,by omega⟩
  rw[zR]at b1 ⊢
  exact Ar5 hr j b1 h4.1 l.num l.row ⟨by omega,hv.2⟩
 rw[zA k6]at h ⊢
 by_cases k7:l.kind=7
 ·rw[zC k7]at h ⊢
  rw[putFlood]at h ⊢
  dsimp only at h ⊢
  by_cases h1:(begT n l 7).2≠0
  ·rw[zC h1]at h;exact zW h h1
  rw[zA h1]at h ⊢
  obtain ⟨_,hu,hr,d0,d1,d2⟩:=Om h1
  rw[d2]at h ⊢
  repeat' split at h
  all_goals (try (simp at h;done))
  rename_i h2 h3 h4 h5
  rw[zA h2,zA h3,zA h4,zA h5]
  have hf:=few_iff.1 hr.few
  simp only[Bh,zA k1,zA k2,zA k3,zA k4,zA k5,zA k6,zC k7,zB,Mj,zG]at hu
  exact Als hr _ (floodB_iff.2 ⟨place_iff.2 ⟨d0,by show Ca n l.dev<_;omega⟩,hu.2.2.2⟩) q_
 rw[zA k7]at h ⊢
 by_cases k8:l.kind=8
 ·rw[zC k8]at h ⊢
  rw[putVrf]at h ⊢
  dsimp only at h ⊢
  by_cases h1:(begT n l 8).2≠0
  ·rw[zC h1]at h;exact zW h h1
  rw[zA h1]at h ⊢
  obtain ⟨_,hu,hr,d0,d1,d2⟩:=Om h1
  rw[d2]at h ⊢
  repeat' split at h
  all_goals (try (simp at h;done))
  rename_i h2 h3
  rw[zA h2,zA h3]
  have hf:=few_iff.1 hr.few
  simp only[Bh,zA k1,zA k2,zA k3,zA k4,zA k5,zA k6,zA k7,zC k8,zB]at hu
  exact Ar4 hr _ (vrfB_iff.2 ⟨place_iff.2 ⟨d0,by show Ca n l.dev<_;omega⟩,hu.2.1,hu.2.2⟩) q_
 rw[zA k8]at h ⊢
 by_cases k9:l.kind=9
 ·rw[zC k9]at h ⊢
  rw[putIrb]at h ⊢
  dsimp only at h ⊢
  by_cases h1:(begT n l 9).2≠0
  ·rw[zC h1]at h;exact zW h h1
  rw[zA h1]at h ⊢
  obtain ⟨_,hu,hr,d0,d1,d2⟩:=Om h1
  rw[d2]at h ⊢
  repeat' split at h
  all_goals (try (simp at h;done))
  rename_i h2 h3 h4
  rw[zA h2,zA h3,zA h4]
  simp only[Bh,zA k1,zA k2,zA k3,zA k4,zA k5,zA k6,zA k7,zA k8,zC k9,zB]at hu
  have hb:=Ze hu.2.2
  have p1:=Ed (p:=λ v:Vrf=>v.dev == Ca n l.dev && v.name == l.name) (l:=n.vrfs) (by show 0≤Agt n (Ca n l.dev) l.name;omega)
  have p2:=Ed (p:=λ d:Domain=>d.dev == Ca n l.dev && d.vlan == l.vlan) (l:=n.domains) (by show 0≤Cq n (Ca n l.dev) l.vlan;omega)
  have a1:(Agt n (Ca n l.dev) l.name).toNat<n.vrfs.length:=p1.1
  have a2:(nth n.vrfs (Agt n (Ca n l.dev) l.name)).dev=Ca n l.dev:=by
   have:=p1.2
   simp only[zB,yA]at this
   exact this.1
  have b1:(Cq n (Ca n l.dev) l.vlan).toNat<n.domains.length:=p2.1
  have b2:(nth n.domains (Cq n (Ca n l.dev) l.vlan)).dev=Ca n l.dev:=by
   have:=p2.2
   simp only[zB,yA]at this
   exact this.1
  simp only[uK]at h4
  generalize Cq n (Ca n l.dev) l.vlan=j at *
  obtain ⟨j,rfl⟩:∃ k:Nat,j=k:=⟨j.toNat,by omega⟩
  rw[zR]at b1 ⊢
  exact Auc hr j b1 q_ ⟨l.row,j,Agt n (Ca n l.dev) l.name,l.addr,l.bits⟩ E (place_iff.2 ⟨by dsimp only;omega,by dsimp only;omega⟩) (b2.trans a2.symm) hb
 ·rw[zA k9]at h
  simp at h
theorem Al0:NetR emptyN:=netR_iff.1 (by decide +kernel)
end Go.Sy.YtljngfegfclkpaaGreat
namespace Go.Sy.YtljngfegfclkpaaGreat
open Go.Proofs
set_option maxHeartbeats 4000000
def Amb (l:List LineM) (k:Int):Nat:=(l.filter λ x=>x.kind == k).length
structure Many (n:Net) (c:Int→Nat):Prop where
 c1:n.devices.length=c 1
 c2:n.ports.length=c 2
 c3:n.links.length=c 3
 c4:n.statics.length=c 4
 c7:n.floods.length=c 7
 c8:n.vrfs.length=c 8
 c9:n.irbs.length=c 9
theorem Atw {n:Net} {c:Int→Nat} (h:Many n c):Many (Bk n) c:=⟨h.c1,h.c2,h.c3,h.c4,h.c7,h.c8,h.c9⟩
theorem I5 (l:List Port) (i k:Int):(Ex l i k).length=l.length:=yE
theorem E0 (l:List Device) (i k:Int):(Vd l i k).length=l.length:=yE
theorem Akq {n:Net} {x:LineM} (h:(putDevice n x).2=0):(putDevice n x).1.devices.length=n.devices.length+1∧(putDevice n x).1.ports.length=n.ports.length∧(putDevice n x).1.links.length=n.links.length∧(putDevice n x).1.statics.length=n.statics.length∧(putDevice n x).1.floods.length=n.floods.length∧(putDevice n x).1.vrfs.length=n.vrfs.length∧(putDevice n x).1.irbs.length=n.irbs.length:=by
 unfold putDevice at h ⊢
 by_cases h0:fitsB n x 1=false
 ·rw[zC h0]at h;cases h
 rw[zA h0]at h ⊢
 try dsimp only at h ⊢
 split at h
 ·cases h
 rename_i h1
 rw[zA h1]
 split at h
 ·cases h
 rename_i h2
 rw[zA h2]
 simp[I5,E0]
theorem Atv {n:Net} {x:LineM} (h:(putPort n x).2=0):(putPort n x).1.devices.length=n.devices.length∧(putPort n x).1.ports.length=n.ports.length+1∧(putPort n x).1.links.length=n.links.length∧(putPort n x).1.statics.length=n.statics.length∧(putPort n x).1.floods.length=n.floods.length∧(putPort n x).1.vrfs.length=n.vrfs.length∧(putPort n x).1.irbs.length=n.irbs.length:=by
 unfold putPort at h ⊢
 by_cases h0:fitsB n x 2=false
 ·rw[zC h0]at h;cases h
 rw[zA h0]at h ⊢
 try dsimp only at h ⊢
 split at h
 ·cases h
 rename_i h1
 rw[zA h1]
 split at h
 ·cases h
 rename_i h2
 rw[zA h2]
 split at h
 ·cases h
 rename_i h3
 rw[zA h3]
 split at h
 ·cases h
 rename_i h4
 rw[zA h4]
 simp[I5,E0]
theorem Atx {n:Net} {x:LineM} (h:(putLink n x).2=0):(putLink n x).1.devices.length=n.devices.length∧(putLink n x).1.ports.length=n.ports.length∧(putLink n x).1.links.length=n.links.length+1∧(putLink n x).1.statics.length=n.statics.length∧(putLink n x).1.floods.length=n.floods.length∧(putLink n x).1.vrfs.length=n.vrfs.length∧(putLink n x).1.irbs.length=n.irbs.length:=by
 unfold putLink at h ⊢
 by_cases h0:fitsB n x 3=false
 ·rw[zC h0]at h;cases h
 rw[zA h0]at h ⊢
 try dsimp only at h ⊢
 split at h
 ·cases h
 rename_i h1
 rw[zA h1]
 split at h
 ·cases h
 rename_i h2
 rw[zA h2]
 split at h
 ·cases h
 rename_i h3
 rw[zA h3]
 simp[I5,E0]
theorem Akp {n:Net} {x:LineM} (h:(putStatic n x).2=0):(putStatic n x).1.devices.length=n.devices.length∧(putStatic n x).1.ports.length=n.ports.length∧(putStatic n x).1.links.length=n.links.length∧(putStatic n x).1.statics.length=n.statics.length+1∧(putStatic n x).1.floods.length=n.floods.length∧(putStatic n x).1.vrfs.length=n.vrfs.length∧(putStatic n x).1.irbs.length=n.irbs.length:=by
 unfold putStatic at h ⊢
 by_cases h0:fitsB n x 4=false
 ·rw[zC h0]at h;cases h
 rw[zA h0]at h ⊢
 try dsimp only at h ⊢
 split at h
 ·cases h
 rename_i h1
 rw[zA h1]
 split at h
 ·cases h
 rename_i h2
 rw[zA h2]
 split at h
 ·cases h
 rename_i h3
 rw[zA h3]
 split at h
 ·cases h
 rename_i h4
 rw[zA h4]
 simp[I5,E0]
theorem Atu {n:Net} {x:LineM} (h:(putVtep n x).2=0):(putVtep n x).1.devices.length=n.devices.length∧(putVtep n x).1.ports.length=n.ports.length∧(putVtep n x).1.links.length=n.links.length∧(putVtep n x).1.statics.length=n.statics.length∧(putVtep n x).1.floods.length=n.floods.length∧(putVtep n x).1.vrfs.length=n.vrfs.length∧(putVtep n x).1.irbs.length=n.irbs.length:=by
 unfold putVtep at h ⊢
 by_cases h0:(begT n x 5).2≠0
 ·rw[zC h0]at h;exact zW h h0
 rw[zA h0]at h ⊢
 try dsimp only at h ⊢
 split at h
 ·cases h
 rename_i h1
 rw[zA h1]
 simp[I5,E0]
theorem Axj {n:Net} {x:LineM} (h:(putVni n x).2=0):(putVni n x).1.devices.length=n.devices.length∧(putVni n x).1.ports.length=n.ports.length∧(putVni n x).1.links.length=n.links.length∧(putVni n x).1.statics.length=n.statics.length∧(putVni n x).1.floods.length=n.floods.length∧(putVni n x).1.vrfs.length=n.vrfs.length∧(putVni n x).1.irbs.length=n.irbs.length:=by
 unfold putVni at h ⊢
 by_cases h0:(begT n x 6).2≠0
 ·rw[zC h0]at h;exact zW h h0
 rw[zA h0]at h ⊢
 try dsimp only at h ⊢
 split at h
 ·cases h
 rename_i h1
 rw[zA h1]
 split at h
 ·cases h
 rename_i h2
 rw[zA h2]
 split at h
 ·cases h
 rename_i h3
 rw[zA h3]
 simp[I5,E0]
theorem Aoo {n:Net} {x:LineM} (h:(putFlood n x).2=0):(putFlood n x).1.devices.length=n.devices.length∧(putFlood n x).1.ports.length=n.ports.length∧(putFlood n x).1.links.length=n.links.length∧(putFlood n x).1.statics.length=n.statics.length∧(putFlood n x).1.floods.length=n.floods.length+1∧(putFlood n x).1.vrfs.length=n.vrfs.length∧(putFlood n x).1.irbs.length=n.irbs.length:=by
 unfold putFlood at h ⊢
 by_cases h0:(begT n x 7).2≠0
 ·rw[zC h0]at h;exact zW h h0
 rw[zA h0]at h ⊢
 try dsimp only at h ⊢
 split at h
 ·cases h
 rename_i h1
 rw[zA h1]
 split at h
 ·cases h
 rename_i h2
 rw[zA h2]
 split at h
 ·cases h
 rename_i h3
 rw[zA h3]
 split at h
 ·cases h
 rename_i h4
 rw[zA h4]
 simp[I5,E0]
theorem Axi {n:Net} {x:LineM} (h:(putVrf n x).2=0):(putVrf n x).1.devices.length=n.devices.length∧(putVrf n x).1.ports.length=n.ports.length∧(putVrf n x).1.links.length=n.links.length∧(putVrf n x).1.statics.length=n.statics.length∧(putVrf n x).1.floods.length=n.floods.length∧(putVrf n x).1.vrfs.length=n.vrfs.length+1∧(putVrf n x).1.irbs.length=n.irbs.length:=by
 unfold putVrf at h ⊢
 by_cases h0:(begT n x 8).2≠0
 ·rw[zC h0]at h;exact zW h h0
 rw[zA h0]at h ⊢
 try dsimp only at h ⊢
 split at h
 ·cases h
 rename_i h1
 rw[zA h1]
 split at h
 ·cases h
 rename_i h2
 rw[zA h2]
 simp[I5,E0]
theorem Axk {n:Net} {x:LineM} (h:(putIrb n x).2=0):(putIrb n x).1.devices.length=n.devices.length∧(putIrb n x).1.ports.length=n.ports.length∧(putIrb n x).1.links.length=n.links.length∧(putIrb n x).1.statics.length=n.statics.length∧(putIrb n x).1.floods.length=n.floods.length∧(putIrb n x).1.vrfs.length=n.vrfs.length∧(putIrb n x).1.irbs.length=n.irbs.length+1:=by
 unfold putIrb at h ⊢
 by_cases h0:(begT n x 9).2≠0
 ·rw[zC h0]at h;exact zW h h0
 rw[zA h0]at h ⊢
 try dsimp only at h ⊢
 split at h
 ·cases h
 rename_i h1
 rw[zA h1]
 split at h
 ·cases h
 rename_i h2
 rw[zA h2]
 split at h
 ·cases h
 rename_i h3
 rw[zA h3]
 simp[I5,E0]
theorem Awm {n:Net} {c:Int→Nat} {x:LineM} (hm:Many n c) (h:(putT n x).2=0):Many (putT n x).1 (λ k=>c k+if x.kind=k then 1 else 0):=by
 obtain ⟨c1,c2,c3,c4,c7,c8,c9⟩:=hm
 unfold putT at h ⊢
 by_cases k1:x.kind=1
 ·rw[zC k1]at h ⊢
  obtain ⟨e1,e2,e3,e4,e7,e8,e9⟩:=Akq h
  constructor<;>simp[*]
 rw[zA k1]at h ⊢
 by_cases k2:x.kind=2
 ·rw[zC k2]at h ⊢
  obtain ⟨e1,e2,e3,e4,e7,e8,e9⟩:=Atv h
  constructor<;>simp[*]
 rw[zA k2]at h ⊢
 by_cases k3:x.kind=3
 ·rw[zC k3]at h ⊢
  obtain ⟨e1,e2,e3,e4,e7,e8,e9⟩:=Atx h
  constructor<;>simp[*]
 rw[zA k3]at h ⊢
 by_cases k4:x.kind=4
 ·rw[zC k4]at h ⊢
  obtain ⟨e1,e2,e3,e4,e7,e8,e9⟩:=Akp h
  constructor<;>simp[*]
 rw[zA k4]at h ⊢
 by_cases k5:x.kind=5
 ·rw[zC k5]at h ⊢
  obtain ⟨e1,e2,e3,e4,e7,e8,e9⟩:=Atu h
  constructor<;>simp[*]
 rw[zA k5]at h ⊢
 by_cases k6:x.kind=6
 ·rw[zC k6]at h ⊢
  obtain ⟨e1,e2,e3,e4,e7,e8,e9⟩:=Axj h
  constructor<;>simp[*]
 rw[zA k6]at h ⊢
 by_cases k7:x.kind=7
 ·rw[zC k7]at h ⊢
  obtain ⟨e1,e2,e3,e4,e7,e8,e9⟩:=Aoo h
  constructor<;>simp[*]
 rw[zA k7]at h ⊢
 by_cases k8:x.kind=8
 ·rw[zC k8]at h ⊢
  obtain ⟨e1,e2,e3,e4,e7,e8,e9⟩:=Axi h
  constructor<;>simp[*]
 rw[zA k8]at h ⊢
 by_cases k9:x.kind=9
 ·rw[zC k9]at h ⊢
  obtain ⟨e1,e2,e3,e4,e7,e8,e9⟩:=Axk h
  constructor<;>simp[*]
 rw[zA k9]at h ⊢
 cases h
theorem Apm:Many emptyN (λ _=>0):=⟨rfl,rfl,rfl,rfl,rfl,rfl,rfl⟩
end Go.Sy.YtljngfegfclkpaaGreat
namespace Go.Sy.YtljngfegfclkpaaGreat
open Go.Proofs
theorem Axz {α:Type} (p:α→Bool) (f:α→α) (l:List α) (h:∀ x,p (f x)=p x):Bg p (l.map f)=Bg p l:=by
 have e:(l.map f).findIdx? p=l.findIdx? p:=by
  rw[List.findIdx?_map]
  congr 1
  funext x
  exact h x
 rw[Bg,Bg,e]
theorem Yb (n:Net) (a b:Int):H6 (Bk n) a b=H6 n a b:=Axz _ _ _ λ _=>rfl
theorem Aod (n:Net) (d:Domain) (p:List Int):peersT (Bk n) { d with peers:=p }=peersT n d:=by
 rw[peersT,peersT]
 have e1:∀ a b,Dt (Bk n) a b=Dt n a b:=λ _ _=>rfl
 have e2:∀ a,Cp (Bk n) a=Cp n a:=λ _=>rfl
 simp only[Yb,e1,e2]
 rfl
theorem Atr (n:Net):Bk (Bk n)=Bk n:=by
 have:(Bk n).domains.map (λ d=>{ d with peers:=peersT (Bk n) d })=(Bk n).domains:=by
  show (n.domains.map λ d=>{ d with peers:=peersT n d }).map (λ d=>{ d with peers:=peersT (Bk n) d })=n.domains.map λ d=>{ d with peers:=peersT n d }
  rw[List.map_map]
  refine tG λ d _=>?_
  show ({ d with peers:=peersT (Bk n) { d with peers:=peersT n d } }:Domain)={ d with peers:=peersT n d }
  rw[Aod]
 rw[Bk,this]
theorem Aqa (n:Net) (f:Flood):agreesB (Bk n) f=agreesB n f:=by
 have e1:∀ a b,Dt (Bk n) a b=Dt n a b:=λ _ _=>rfl
 have e2:∀ a,Cp (Bk n) a=Cp n a:=λ _=>rfl
 have e3:∀ a,agreeA (Bk n) f a=agreeA n f a:=λ a=>by
  rw[agreeA,agreeA]
  simp only[Yb,e1,e2]
  rfl
 have e4:agreeA (Bk n) f=agreeA n f:=funext e3
 rw[agreesB,agreesB,Yb,e4]
theorem Md {n:Net} (h:(meshNT n).2.2=0):(meshNT n).1=Bk n∧(meshNT n).2.1=0∧Ab (Bk n)=true∧n.floods.find? (λ f=>!(agreesB n f))=none:=by
 rw[meshNT]at h ⊢
 split at h
 ·simp at h
 rename_i h1
 rw[zA h1]
 cases hf:n.floods.find? (λ f=>!(agreesB n f)) with
 | some f=>rw[hf]at h;simp at h
 | none =>
  rw[hf]at h
  dsimp only at h ⊢
  split at h
  ·simp at h
  rename_i h2
  rw[zA h2]
  exact⟨E,E,by simpa using h2,E⟩
theorem Aon {n:Net} (h:(meshNT n).2.2=0):meshNT (Bk n)=(Bk n,0,0):=by
 obtain ⟨_,_,h3,h4⟩:=Md h
 have e:(Bk n).floods.find? (λ f=>!(agreesB (Bk n) f))=none:=by
  show n.floods.find? (λ f=>!(agreesB (Bk n) f))=none
  simp only[Aqa]
  exact h4
 rw[meshNT,zA (by rw[h3];simp),e]
 dsimp only
 rw[Atr,zA (by rw[h3];simp)]
theorem Sm (n:Net):∀ (l:List Domain) (f:List Int) (i:Nat),(O3 n f i l).2=false→(O3 n f i l).1=0
 | [],f,i,_=>rfl
 | d::l,f,i,h=>by
  rw[O3]at h ⊢
  split
  ·rename_i h1
   rw[zC h1]at h
   exact Sm n l f _ h
  ·rename_i h1
   rw[zA h1]at h
   dsimp only at h ⊢
   split
   ·rename_i h2
    rw[zC h2]at h;cases h
   ·rename_i h2
    rw[zA h2]at h
    exact Sm n l _ _ h
theorem Aop {n:Net} (h:(loopT n).2=false):loopT n=(0,false):=by
 have h1:(loopT n).1=0:=by
  rw[loopT]at h ⊢
  split
  ·rfl
  ·rename_i hb
   rw[zA hb]at h
   exact Sm n _ _ _ h
 rw[← h,← h1]
theorem Aab:∀ (l:List LineM) (n0:Net) (c:Int→Nat),NetR n0→Many n0 c→(B3 n0 l).2.2=0 →
  (B3 n0 l).2.1=0∧Ab (B3 n0 l).1=true∧meshNT (B3 n0 l).1=((B3 n0 l).1,0,0)∧loopT (B3 n0 l).1=(0,false)∧Many (B3 n0 l).1 (λ k=>c k+Amb l k)
 | [],n0,c,hr,hm,h=>by
  rw[B3,finishT]at h ⊢
  split at h
  ·rename_i h1;exact zW h h1
  rename_i h1
  rw[zA h1]
  split at h
  ·simp at h
  rename_i h2
  rw[zA h2]
  have h0:(meshNT n0).2.2=0:=by omega
  obtain ⟨e1,e2,e3,e4⟩:=Md h0
  dsimp only
  rw[e1]at h2 ⊢
  refine⟨E,e3,Aon h0,Aop (by simpa using h2),?_⟩
  have:=Atw hm
  exact⟨this.c1,this.c2,this.c3,this.c4,this.c7,this.c8,this.c9⟩
 | x::l,n0,c,hr,hm,h=>by
  rw[B3]at h ⊢
  split at h
  ·rename_i h1;exact zW h h1
  rename_i h1
  rw[zA h1]
  have h0:(putT n0 x).2=0:=by omega
  obtain ⟨a,b,d,e,f⟩:=Aab l _ _ (As9 h0) (Awm hm h0) h
  refine⟨a,b,d,e,?_⟩
  have hc:∀ k,Amb (x::l) k=(if x.kind=k then 1 else 0)+Amb l k:=λ k=>by
   rw[Amb,Amb,List.filter_cons]
   by_cases hk:x.kind=k
   ·simp[hk];omega
   ·simp[hk]
  refine⟨f.c1.trans ?_,f.c2.trans ?_,f.c3.trans ?_,f.c4.trans ?_,f.c7.trans ?_,f.c8.trans ?_,f.c9.trans ?_⟩<;>(rw[hc];omega)
end Go.Sy.YtljngfegfclkpaaGreat
namespace Go.Sy.YtljngfegfclkpaaGreat
open Go.Proofs
attribute [local irreducible] Go.Sy.G Go.Sy.DR
set_option maxRecDepth 100000
set_option maxHeartbeats 4000000
theorem Aez (l:List Device) (hl:l.length<2147483648):Sq 82 [.sl 5 Aq l] [] (.osl 0) [(0,.row 5 Aq l)]:=cT F82 Tryz.ntmps82 λ F hF=>by
 refine fW ?_
 refine Du E (.inl E) E E E .sl E E ?_
 intro b hb
 cases b
 ·refine fU ?_
  refine Ag (Ah Γ.toTy 7 E E E E E (.lit (e:=Aq) (l:=[]) E E) .sl y_ (by simp;omega) (by simp;omega)) E E ?_
  refine fU ?_
  exact done E (.cons .tmp .nil) [(0,7)] [(0,.row 5 Aq l)] (λ _ h=>h) E E ⟨Y,⟨.inl E,E,Y⟩,E,E⟩
 ·have h0:l=[]:=zQ (hb rfl)
  subst h0
  refine fU ?_
  refine Co 2 1000 5 Aq E E ?_
  exact done E (.cons .tmp .nil) [(0,1000)] [(0,.row 5 Aq [])] (λ _ h=>h) E E ⟨Y,⟨.inl E,E,Y⟩,E,E⟩
theorem Amc (l:List Link) (hl:l.length<2147483648):Sq 84 [.sl 3 Br l] [] (.osl 0) [(0,.row 3 Br l)]:=cT F84 Tryz.ntmps84 λ F hF=>by
 refine fW ?_
 refine Du E (.inl E) E E E .sl E E ?_
 intro b hb
 cases b
 ·refine fU ?_
  refine Ag (Ah Γ.toTy 7 E E E E E (.lit (e:=Br) (l:=[]) E E) .sl y_ (by simp;omega) (by simp;omega)) E E ?_
  refine fU ?_
  exact done E (.cons .tmp .nil) [(0,7)] [(0,.row 3 Br l)] (λ _ h=>h) E E ⟨Y,⟨.inl E,E,Y⟩,E,E⟩
 ·have h0:l=[]:=zQ (hb rfl)
  subst h0
  refine fU ?_
  refine Co 2 1000 3 Br E E ?_
  exact done E (.cons .tmp .nil) [(0,1000)] [(0,.row 3 Br [])] (λ _ h=>h) E E ⟨Y,⟨.inl E,E,Y⟩,E,E⟩
theorem Aey (l:List Static) (hl:l.length<2147483648):Sq 86 [.sl 4 As l] [] (.osl 0) [(0,.row 4 As l)]:=cT F86 Tryz.ntmps86 λ F hF=>by
 refine fW ?_
 refine Du E (.inl E) E E E .sl E E ?_
 intro b hb
 cases b
 ·refine fU ?_
  refine Ag (Ah Γ.toTy 7 E E E E E (.lit (e:=As) (l:=[]) E E) .sl y_ (by simp;omega) (by simp;omega)) E E ?_
  refine fU ?_
  exact done E (.cons .tmp .nil) [(0,7)] [(0,.row 4 As l)] (λ _ h=>h) E E ⟨Y,⟨.inl E,E,Y⟩,E,E⟩
 ·have h0:l=[]:=zQ (hb rfl)
  subst h0
  refine fU ?_
  refine Co 2 1000 4 As E E ?_
  exact done E (.cons .tmp .nil) [(0,1000)] [(0,.row 4 As [])] (λ _ h=>h) E E ⟨Y,⟨.inl E,E,Y⟩,E,E⟩
theorem Apz (l:List Irb) (hl:l.length<2147483648):Sq 89 [.sl 5 By l] [] (.osl 0) [(0,.row 5 By l)]:=cT F89 Tryz.ntmps89 λ F hF=>by
 refine fW ?_
 refine Du E (.inl E) E E E .sl E E ?_
 intro b hb
 cases b
 ·refine fU ?_
  refine Ag (Ah Γ.toTy 7 E E E E E (.lit (e:=By) (l:=[]) E E) .sl y_ (by simp;omega) (by simp;omega)) E E ?_
  refine fU ?_
  exact done E (.cons .tmp .nil) [(0,7)] [(0,.row 5 By l)] (λ _ h=>h) E E ⟨Y,⟨.inl E,E,Y⟩,E,E⟩
 ·have h0:l=[]:=zQ (hb rfl)
  subst h0
  refine fU ?_
  refine Co 2 1000 5 By E E ?_
  exact done E (.cons .tmp .nil) [(0,1000)] [(0,.row 5 By [])] (λ _ h=>h) E E ⟨Y,⟨.inl E,E,Y⟩,E,E⟩
theorem Qe (n:Net) (hn:n.Fin) :
  Sq 34 [Aj n] [] (.agg [.osl 0,.osl 1,.osl 2,.osl 3,.osl 4,.osl 5,.osl 6,.osl 7]) [(0,.row 5 Aq n.devices),(1,.row 7 Aw n.ports),(2,.row 3 Br n.links),(3,.row 6 An n.domains),(4,.row 4 As n.statics),(5,.row 4 A3 n.floods),(6,.row 5 B5 n.vrfs),(7,.row 5 By n.irbs)]:=cT F34 Tryz.ntmps34 λ F hF=>by
 have h1:n.devices.length<2147483648∧n.ports.length<2147483648∧n.links.length<2147483648∧n.domains.length<2147483648∧n.statics.length<2147483648∧n.floods.length<2147483648∧n.vrfs.length<2147483648∧n.irbs.length<2147483648:=⟨hn.devices,hn.ports,hn.links,hn.domains,hn.statics,hn.floods,hn.vrfs,hn.irbs⟩
 have h2:(∀ p∈n.ports,p.tagged.length<2147483648)∧(∀ p∈n.domains,p.peers.length<2147483648)∧(∀ p∈n.floods,p.addrs.length<2147483648)∧(∀ p∈n.vrfs,p.imports.length<2147483648∧p.exports.length<2147483648):=⟨hn.tagged,hn.peers,hn.addrs,λ v hv=>⟨hn.imports v hv,hn.exports v hv⟩⟩
 refine fW ?_
 refine Bs (Ad [(0,11)] E F82 (Aez n.devices h1.1) E Y E ⟨.inr E,Y⟩) z_ E ?_
 refine fU ?_
 refine Bs (Ad [(0,14)] E F83 (Adq n.ports h1.2.1) E Y E ⟨.inr E,Y⟩) z_ E ?_
 refine fU ?_
 refine Bs (Ad [(0,17)] E F84 (Amc n.links h1.2.2.1) E Y E ⟨.inr E,Y⟩) z_ E ?_
 refine fU ?_
 refine Bs (Ad [(0,20)] E F85 (Xt n.domains h1.2.2.2.1) E Y E ⟨.inr E,Y⟩) z_ E ?_
 refine fU ?_
 refine Bs (Ad [(0,23)] E F86 (Aey n.statics h1.2.2.2.2.1) E Y E ⟨.inr E,Y⟩) z_ E ?_
 refine fU ?_
 refine Bs (Ad [(0,26)] E F87 (Aaa n.floods h1.2.2.2.2.2.1) E Y E ⟨.inr E,Y⟩) z_ E ?_
 refine fU ?_
 refine Bs (Ad [(0,29)] E F88 (Agm n.vrfs h1.2.2.2.2.2.2.1) E Y E ⟨.inr E,Y⟩) z_ E ?_
 refine fU ?_
 refine Bs (Ad [(0,32)] E F89 (Apz n.irbs h1.2.2.2.2.2.2.2) E Y E ⟨.inr E,Y⟩) z_ E ?_
 refine fU ?_
 refine⟨z_,?_⟩
 refine fW ?_
 refine A5 n.ports.length (λ j=>[(2,.ptr 2 0),(3,.ptr 3 0),(36,Aa n.ports.length),(37,Aa j)]) (λ _=>[(2,.box [.val (.slice none 0 0),.val (.slice none 0 0),.val (.slice none 0 0),.val (.slice none 0 0),.val (.slice none 0 0),.val (.slice none 0 0),.val (.slice none 0 0),.val (.slice none 0 0)]),(3,.box [.osl 11,.osl 14,.osl 17,.osl 20,.osl 23,.osl 26,.osl 29,.osl 32]),(11,.row 5 Aq n.devices),(14,.row 7 Aw n.ports),(17,.row 3 Br n.links),(20,.row 6 An n.domains),(23,.row 4 As n.statics),(26,.row 4 A3 n.floods),(29,.row 5 B5 n.vrfs),(32,.row 5 By n.irbs)]) []
  ⟨⟨rfl,rfl,rfl,rfl,rfl,rfl,rfl,rfl,trivial⟩,⟨.inl rfl,rfl,.inl rfl,rfl,.inl rfl,rfl,.inl rfl,rfl,.inl rfl,rfl,.inl rfl,rfl,.inl rfl,rfl,.inl rfl,rfl,.inl rfl,rfl,.inl rfl,rfl,trivial⟩,rfl,rfl⟩ ?_
 intro j hj
 refine fU ?_
 constructor<;>intro h
 ·have hlt:j<n.ports.length:=by simpa using h
  obtain ⟨p,hp⟩:∃ p,n.ports[(j:Int).toNat]'q_=p:=⟨_,rfl⟩
  have hne:n.ports≠[]:=λ e=>by rw[e]at hlt;cases hlt
  have hset:n.ports.set (j:Int).toNat p=n.ports:=by rw[← hp];exact xZ _
  have hpl:=h2.1 p (by rw[← hp];exact zE _)
  refine fU ?_
  refine⟨by omega,by show _<n.ports.length;omega,?_⟩
  refine fW ?_
  refine⟨hne,?_⟩
  refine fW ?_
  refine⟨E,by omega,?_⟩
  rw[hp]
  refine fW ?_
  refine cD (D7 p.tagged hpl) F90 ?_
  refine fU ?_
  refine⟨by omega,by show _<n.ports.length;omega,?_⟩
  refine fW ?_
  refine⟨hne,?_⟩
  refine fW ?_
  refine⟨E,by omega,p,(by rw[hp];rfl),(by rw[hp];rfl),?_⟩
  refine fW ?_
  refine⟨z_,?_⟩
  refine fW ?_
  refine iL ?_
  refine fW ?_
  exact Ax [] hlt ⟨⟨E,E,E,E,E,E,E,E,Y⟩,⟨.inl E,E,.inl E,E,.inl E,E,.inl (zD (Ob.row 7 Aw) hset.symm),E,.inl E,E,.inl E,E,.inl E,E,.inl E,E,.inl E,E,.inl E,E,Y⟩,E,E⟩
 ·refine fU ?_
  refine A5 n.domains.length (λ j=>[(2,.ptr 2 0),(3,.ptr 3 0),(55,Aa n.domains.length),(56,Aa j)]) (λ _=>[(2,.box [.val (.slice none 0 0),.val (.slice none 0 0),.val (.slice none 0 0),.val (.slice none 0 0),.val (.slice none 0 0),.val (.slice none 0 0),.val (.slice none 0 0),.val (.slice none 0 0)]),(3,.box [.osl 11,.osl 14,.osl 17,.osl 20,.osl 23,.osl 26,.osl 29,.osl 32]),(11,.row 5 Aq n.devices),(14,.row 7 Aw n.ports),(17,.row 3 Br n.links),(20,.row 6 An n.domains),(23,.row 4 As n.statics),(26,.row 4 A3 n.floods),(29,.row 5 B5 n.vrfs),(32,.row 5 By n.irbs)]) []
   ⟨⟨rfl,rfl,rfl,rfl,rfl,rfl,rfl,rfl,trivial⟩,⟨.inl rfl,rfl,.inl rfl,rfl,.inl rfl,rfl,.inl rfl,rfl,.inl rfl,rfl,.inl rfl,rfl,.inl rfl,rfl,.inl rfl,rfl,.inl rfl,rfl,.inl rfl,rfl,trivial⟩,rfl,rfl⟩ ?_
  intro j hj
  refine fU ?_
  constructor<;>intro h
  ·have hlt:j<n.domains.length:=by simpa using h
   obtain ⟨p,hp⟩:∃ p,n.domains[(j:Int).toNat]'q_=p:=⟨_,rfl⟩
   have hne:n.domains≠[]:=λ e=>by rw[e]at hlt;cases hlt
   have hset:n.domains.set (j:Int).toNat p=n.domains:=by rw[← hp];exact xZ _
   have hpl:=h2.2.1 p (by rw[← hp];exact zE _)
   refine fU ?_
   refine⟨by omega,by show _<n.domains.length;omega,?_⟩
   refine fW ?_
   refine⟨hne,?_⟩
   refine fW ?_
   refine⟨E,by omega,?_⟩
   rw[hp]
   refine fW ?_
   refine cD (D7 p.peers hpl) F90 ?_
   refine fU ?_
   refine⟨by omega,by show _<n.domains.length;omega,?_⟩
   refine fW ?_
   refine⟨hne,?_⟩
   refine fW ?_
   refine⟨E,by omega,p,(by rw[hp];rfl),(by rw[hp];rfl),?_⟩
   refine fW ?_
   refine⟨z_,?_⟩
   refine fW ?_
   refine iL ?_
   refine fW ?_
   exact Ax [] hlt ⟨⟨E,E,E,E,E,E,E,E,Y⟩,⟨.inl E,E,.inl E,E,.inl E,E,.inl E,E,.inl E,E,.inl (zD (Ob.row 6 An) hset.symm),E,.inl E,E,.inl E,E,.inl E,E,.inl E,E,Y⟩,E,E⟩
  ·refine fU ?_
   refine A5 n.floods.length (λ j=>[(2,.ptr 2 0),(3,.ptr 3 0),(74,Aa n.floods.length),(75,Aa j)]) (λ _=>[(2,.box [.val (.slice none 0 0),.val (.slice none 0 0),.val (.slice none 0 0),.val (.slice none 0 0),.val (.slice none 0 0),.val (.slice none 0 0),.val (.slice none 0 0),.val (.slice none 0 0)]),(3,.box [.osl 11,.osl 14,.osl 17,.osl 20,.osl 23,.osl 26,.osl 29,.osl 32]),(11,.row 5 Aq n.devices),(14,.row 7 Aw n.ports),(17,.row 3 Br n.links),(20,.row 6 An n.domains),(23,.row 4 As n.statics),(26,.row 4 A3 n.floods),(29,.row 5 B5 n.vrfs),(32,.row 5 By n.irbs)]) []
    ⟨⟨rfl,rfl,rfl,rfl,rfl,rfl,rfl,rfl,trivial⟩,⟨.inl rfl,rfl,.inl rfl,rfl,.inl rfl,rfl,.inl rfl,rfl,.inl rfl,rfl,.inl rfl,rfl,.inl rfl,rfl,.inl rfl,rfl,.inl rfl,rfl,.inl rfl,rfl,trivial⟩,rfl,rfl⟩ ?_
   intro j hj
   refine fU ?_
   constructor<;>intro h
   ·have hlt:j<n.floods.length:=by simpa using h
    obtain ⟨p,hp⟩:∃ p,n.floods[(j:Int).toNat]'q_=p:=⟨_,rfl⟩
    have hne:n.floods≠[]:=λ e=>by rw[e]at hlt;cases hlt
    have hset:n.floods.set (j:Int).toNat p=n.floods:=by rw[← hp];exact xZ _
    have hpl:=h2.2.2.1 p (by rw[← hp];exact zE _)
    refine fU ?_
    refine⟨by omega,by show _<n.floods.length;omega,?_⟩
    refine fW ?_
    refine⟨hne,?_⟩
    refine fW ?_
    refine⟨E,by omega,?_⟩
    rw[hp]
    refine fW ?_
    refine cD (Y7 p.addrs hpl) F91 ?_
    refine fU ?_
    refine⟨by omega,by show _<n.floods.length;omega,?_⟩
    refine fW ?_
    refine⟨hne,?_⟩
    refine fW ?_
    refine⟨E,by omega,p,(by rw[hp];rfl),(by rw[hp];rfl),?_⟩
    refine fW ?_
    refine⟨z_,?_⟩
    refine fW ?_
    refine iL ?_
    refine fW ?_
    exact Ax [] hlt ⟨⟨E,E,E,E,E,E,E,E,Y⟩,⟨.inl E,E,.inl E,E,.inl E,E,.inl E,E,.inl E,E,.inl E,E,.inl E,E,.inl (zD (Ob.row 4 A3) hset.symm),E,.inl E,E,.inl E,E,Y⟩,E,E⟩
   ·refine fU ?_
    refine A5 n.vrfs.length (λ j=>[(2,.ptr 2 0),(3,.ptr 3 0),(93,Aa n.vrfs.length),(94,Aa j)]) (λ _=>[(2,.box [.val (.slice none 0 0),.val (.slice none 0 0),.val (.slice none 0 0),.val (.slice none 0 0),.val (.slice none 0 0),.val (.slice none 0 0),.val (.slice none 0 0),.val (.slice none 0 0)]),(3,.box [.osl 11,.osl 14,.osl 17,.osl 20,.osl 23,.osl 26,.osl 29,.osl 32]),(11,.row 5 Aq n.devices),(14,.row 7 Aw n.ports),(17,.row 3 Br n.links),(20,.row 6 An n.domains),(23,.row 4 As n.statics),(26,.row 4 A3 n.floods),(29,.row 5 B5 n.vrfs),(32,.row 5 By n.irbs)]) []
     ⟨⟨rfl,rfl,rfl,rfl,rfl,rfl,rfl,rfl,trivial⟩,⟨.inl rfl,rfl,.inl rfl,rfl,.inl rfl,rfl,.inl rfl,rfl,.inl rfl,rfl,.inl rfl,rfl,.inl rfl,rfl,.inl rfl,rfl,.inl rfl,rfl,.inl rfl,rfl,trivial⟩,rfl,rfl⟩ ?_
    intro j hj
    refine fU ?_
    constructor<;>intro h
    ·have hlt:j<n.vrfs.length:=by simpa using h
     obtain ⟨p,hp⟩:∃ p,n.vrfs[(j:Int).toNat]'q_=p:=⟨_,rfl⟩
     have hne:n.vrfs≠[]:=λ e=>by rw[e]at hlt;cases hlt
     have hset:n.vrfs.set (j:Int).toNat p=n.vrfs:=by rw[← hp];exact xZ _
     have hpl:=h2.2.2.2 p (by rw[← hp];exact zE _)
     refine fU ?_
     have hne2:n.vrfs.set (j:Int).toNat p≠[]:=by rw[hset];exact hne
     have hp2:(n.vrfs.set (j:Int).toNat p)[(j:Int).toNat]'(by rw[hset];omega)=p:=by simp
     have hset2:(n.vrfs.set (j:Int).toNat p).set (j:Int).toNat p=n.vrfs:=by rw[hset,hset]
     refine⟨by omega,by show _<n.vrfs.length;omega,?_⟩
     refine fW ?_
     refine Bs (Cu E (.inr (.inr (.inr ⟨29,5,_,0,E,λ κ w h=>It hne h,E⟩)))) z_ E ?_
     refine fU ?_
     refine⟨hne,?_⟩
     refine fW ?_
     refine⟨E,by omega,?_⟩
     rw[hp]
     refine fW ?_
     refine cD (D7 p.imports hpl.1) F90 ?_
     refine fU ?_
     refine Bs (Cu E (.inr (.inr (.inr ⟨29,5,_,0,E,λ κ w h=>It hne h,E⟩)))) z_ E ?_
     refine fU ?_
     refine⟨hne,?_⟩
     refine fW ?_
     refine⟨E,by omega,?_⟩
     rw[hp]
     refine fW ?_
     refine cD (D7 p.exports hpl.2) F90 ?_
     refine fU ?_
     refine Bs (Cu E (.inr (.inr (.inr ⟨29,5,_,0,E,λ κ w h=>It hne h,E⟩)))) z_ E ?_
     refine fU ?_
     refine⟨hne,?_⟩
     refine fW ?_
     refine⟨E,by omega,p,(by rw[hp];rfl),(by rw[hp];rfl),?_⟩
     refine fW ?_
     refine Bs (Cu E (.inr (.inr (.inr ⟨29,5,_,0,E,λ κ w h=>It hne2 h,E⟩)))) z_ E ?_
     refine fU ?_
     refine⟨hne2,?_⟩
     refine fW ?_
     refine⟨E,by rw[hset];omega,p,(by rw[hp2];rfl),(by rw[hp2];rfl),?_⟩
     refine fW ?_
     refine⟨z_,?_⟩
     refine fW ?_
     refine iL ?_
     refine fW ?_
     exact Ax [] hlt ⟨⟨E,E,E,E,E,E,E,E,Y⟩,⟨.inl E,E,.inl E,E,.inl E,E,.inl E,E,.inl E,E,.inl E,E,.inl E,E,.inl E,E,.inl (zD (Ob.row 5 B5) hset2.symm),E,.inl E,E,Y⟩,E,E⟩
    ·refine fU ?_
     exact done E (.cons (.cell E E E E) .nil) [(0,11),(1,14),(2,17),(3,20),(4,23),(5,26),(6,29),(7,32)] [(0,.row 5 Aq n.devices),(1,.row 7 Aw n.ports),(2,.row 3 Br n.links),(3,.row 6 An n.domains),(4,.row 4 As n.statics),(5,.row 4 A3 n.floods),(6,.row 5 B5 n.vrfs),(7,.row 5 By n.irbs)] (λ _ h=>h) E E ⟨Y,⟨.inl E,E,.inl E,E,.inl E,E,.inl E,E,.inl E,E,.inl E,E,.inl E,E,.inl E,E,Y⟩,E,E⟩
end Go.Sy.YtljngfegfclkpaaGreat
namespace Go.Sy.YtljngfegfclkpaaGreat
open Go.Proofs
attribute [local irreducible] Go.Sy.G Go.Sy.DR
set_option maxRecDepth 20000
set_option maxHeartbeats 4000000
theorem Jg (l:List Device) (p:Device→Bool) (f:FuncId) (first cap:List SV) (hc:(SV.clo (.func f) first cap).inn []=true) (hf:∀ x∈l,Hh Tryz.prog f (first++[Aq x]++cap) (Ac (p x))) (hl:Ak l) :
  Sp 203 [.sl 5 Aq l,.clo (.func f) first cap] (Aa (Bg p l)):=cT F203 Tryz.ntmps203 λ F hF=>by
 unfold Ak at hl
 have hin:∀ x:Device,B7 [] (first++[Aq x]++cap)=true:=λ x=>C2 hc rfl
 refine fW ?_
 refine Bi l.length (λ j=>Ir (λ _ x=>!(p x)) l j) (λ j=>[(0,.sl 5 Aq l),(1,.clo (.func f) first cap),(7,Aa l.length),(8,Aa j)]) (λ _=>[]) [] (Bp _ _) ⟨⟨E,E,A9 _,hc,E,E,E,E,Y⟩,Y,E,E⟩ ?_
 intro j hj hI
 refine fU ?_
 constructor<;>intro h
 ·have h:=zK h
  have hj2:j<l.length:=by omega
  refine fU ?_
  refine⟨E,by omega,by omega,?_⟩
  refine fW ?_
  refine Eg (hf l[j] (zE hj2)) E E E (by simp only[hin];rfl) E E ?_
  refine fU ?_
  constructor<;>intro h2
  ·refine fU ?_
   refine Ap E (.cons .tmp .nil) (zD Aa ?_) E
   exact Cj hj2 (λ i hi hij=>by simpa using hI i hi hij) h2
  ·refine fU ?_
   refine iL ?_
   refine fW ?_
   exact Be [] hI hj2 (Bj hI hj2 (by simp[h2])) ⟨⟨E,E,A9 _,hc,E,E,E,E,Y⟩,Y,E,E⟩
 ·have h:=zN h
  refine fU ?_
  refine Ap E (.cons .tmp .nil) (zD Aa ?_) E
  exact Dg (λ i hi=>by simpa using hI i hi q_)
theorem Yz (l:List Flood) (p:Flood→Bool) (f:FuncId) (first cap:List SV) (hc:(SV.clo (.func f) first cap).inn []=true) (hf:∀ x∈l,Hh Tryz.prog f (first++[A3 x]++cap) (Ac (p x))) (hl:Ak l) :
  Sp 200 [.sl 4 A3 l,.clo (.func f) first cap] (Aa (Bg p l)):=cT F200 Tryz.ntmps200 λ F hF=>by
 unfold Ak at hl
 have hin:∀ x:Flood,B7 [] (first++[A3 x]++cap)=true:=λ x=>C2 hc rfl
 refine fW ?_
 refine Bi l.length (λ j=>Ir (λ _ x=>!(p x)) l j) (λ j=>[(0,.sl 4 A3 l),(1,.clo (.func f) first cap),(7,Aa l.length),(8,Aa j)]) (λ _=>[]) [] (Bp _ _) ⟨⟨E,E,A9 _,hc,E,E,E,E,Y⟩,Y,E,E⟩ ?_
 intro j hj hI
 refine fU ?_
 constructor<;>intro h
 ·have h:=zK h
  have hj2:j<l.length:=by omega
  refine fU ?_
  refine⟨E,by omega,by omega,?_⟩
  refine fW ?_
  refine Eg (hf l[j] (zE hj2)) E E E (by simp only[hin];rfl) E E ?_
  refine fU ?_
  constructor<;>intro h2
  ·refine fU ?_
   refine Ap E (.cons .tmp .nil) (zD Aa ?_) E
   exact Cj hj2 (λ i hi hij=>by simpa using hI i hi hij) h2
  ·refine fU ?_
   refine iL ?_
   refine fW ?_
   exact Be [] hI hj2 (Bj hI hj2 (by simp[h2])) ⟨⟨E,E,A9 _,hc,E,E,E,E,Y⟩,Y,E,E⟩
 ·have h:=zN h
  refine fU ?_
  refine Ap E (.cons .tmp .nil) (zD Aa ?_) E
  exact Dg (λ i hi=>by simpa using hI i hi q_)
theorem Acr (l:List Vrf) (p:Vrf→Bool) (f:FuncId) (first cap:List SV) (hc:(SV.clo (.func f) first cap).inn []=true) (hf:∀ x∈l,Hh Tryz.prog f (first++[B5 x]++cap) (Ac (p x))) (hl:Ak l) :
  Sp 313 [.sl 5 B5 l,.clo (.func f) first cap] (Aa (Bg p l)):=cT F313 Tryz.ntmps313 λ F hF=>by
 unfold Ak at hl
 have hin:∀ x:Vrf,B7 [] (first++[B5 x]++cap)=true:=λ x=>C2 hc rfl
 refine fW ?_
 refine Bi l.length (λ j=>Ir (λ _ x=>!(p x)) l j) (λ j=>[(0,.sl 5 B5 l),(1,.clo (.func f) first cap),(7,Aa l.length),(8,Aa j)]) (λ _=>[]) [] (Bp _ _) ⟨⟨E,E,A9 _,hc,E,E,E,E,Y⟩,Y,E,E⟩ ?_
 intro j hj hI
 refine fU ?_
 constructor<;>intro h
 ·have h:=zK h
  have hj2:j<l.length:=by omega
  refine fU ?_
  refine⟨E,by omega,by omega,?_⟩
  refine fW ?_
  refine Eg (hf l[j] (zE hj2)) E E E (by simp only[hin];rfl) E E ?_
  refine fU ?_
  constructor<;>intro h2
  ·refine fU ?_
   refine Ap E (.cons .tmp .nil) (zD Aa ?_) E
   exact Cj hj2 (λ i hi hij=>by simpa using hI i hi hij) h2
  ·refine fU ?_
   refine iL ?_
   refine fW ?_
   exact Be [] hI hj2 (Bj hI hj2 (by simp[h2])) ⟨⟨E,E,A9 _,hc,E,E,E,E,Y⟩,Y,E,E⟩
 ·have h:=zN h
  refine fU ?_
  refine Ap E (.cons .tmp .nil) (zD Aa ?_) E
  exact Dg (λ i hi=>by simpa using hI i hi q_)
theorem Tb (l:List Device) (p:Device→Bool) (f:FuncId) (first cap:List SV) (hc:(SV.clo (.func f) first cap).inn []=true) (hf:∀ x∈l,Hh Tryz.prog f (first++[Aq x]++cap) (Ac (p x))) (hl:Ak l) :
  Sp 186 [.sl 5 Aq l,.clo (.func f) first cap] (Ac (decide (0≤Bg p l))):=cT F186 Tryz.ntmps186 λ F hF=>by
 have h0:B7 [] [.sl 5 Aq l,.clo (.func f) first cap]=true:=by simp only[B7,hc];rfl
 refine fW ?_
 refine Mi (Jg l p f first cap hc hf hl) F203 E E (by simp only[h0];rfl) E E ?_
 refine fU ?_
 exact dN
theorem Kk (l:List Domain) (p:Domain→Bool) (f:FuncId) (first cap:List SV) (hc:(SV.clo (.func f) first cap).inn []=true) (hf:∀ x∈l,Hh Tryz.prog f (first++[An x]++cap) (Ac (p x))) (hl:Ak l) :
  Sp 255 [.sl 6 An l,.clo (.func f) first cap] (Ac (decide (0≤Bg p l))):=cT F255 Tryz.ntmps255 λ F hF=>by
 have h0:B7 [] [.sl 6 An l,.clo (.func f) first cap]=true:=by simp only[B7,hc];rfl
 refine fW ?_
 refine Mi (Ec l p f first cap hc hf hl) F170 E E (by simp only[h0];rfl) E E ?_
 refine fU ?_
 exact dN
theorem Aib (n:Net) (hn:n.Fin) (l:List Device) (p:Device→Bool) (f:FuncId) (first cap:List SV) (hc:(SV.clo (.func f) first cap).inn []=true) (hf:∀ x∈l,Hh Tryz.prog f (first++[Aq x]++cap) (Ac (p x))) (hl:Ak l) :
  Sp 251 [Aj n,.sl 5 Aq l,.clo (.func f) first cap] (Aa (if Ab n=true then Bg p l else -1)):=cT F251 Tryz.ntmps251 λ F hF=>by
 have hr:=Av n hn
 have q:=Jg l p f first cap hc hf hl
 refine fW ?_
 refine c0 hr F19 ?_
 cases hb:Ab n
 ·rw[zA y_]
  refine fU ?_
  exact dN
 rw[zC rfl]
 refine fU ?_
 refine Mi q F203 E E (by simp only[B7,hc,vS];rfl) E E ?_
 refine fU ?_
 exact dN
theorem Aph (n:Net) (hn:n.Fin) (l:List Port) (p:Port→Bool) (f:FuncId) (first cap:List SV) (hc:(SV.clo (.func f) first cap).inn []=true) (hf:∀ x∈l,Hh Tryz.prog f (first++[Aw x]++cap) (Ac (p x))) (hl:Ak l) :
  Sp 253 [Aj n,.sl 7 Aw l,.clo (.func f) first cap] (Aa (if Ab n=true then Bg p l else -1)):=cT F253 Tryz.ntmps253 λ F hF=>by
 have hr:=Av n hn
 have q:=Qp l p f first cap hc hf hl
 refine fW ?_
 refine c0 hr F19 ?_
 cases hb:Ab n
 ·rw[zA y_]
  refine fU ?_
  exact dN
 rw[zC rfl]
 refine fU ?_
 refine Mi q F266 E E (by simp only[B7,hc,vS];rfl) E E ?_
 refine fU ?_
 exact dN
theorem Aup (n:Net) (hn:n.Fin) (l:List Vrf) (p:Vrf→Bool) (f:FuncId) (first cap:List SV) (hc:(SV.clo (.func f) first cap).inn []=true) (hf:∀ x∈l,Hh Tryz.prog f (first++[B5 x]++cap) (Ac (p x))) (hl:Ak l) :
  Sp 263 [Aj n,.sl 5 B5 l,.clo (.func f) first cap] (Aa (if Ab n=true then Bg p l else -1)):=cT F263 Tryz.ntmps263 λ F hF=>by
 have hr:=Av n hn
 have q:=Acr l p f first cap hc hf hl
 refine fW ?_
 refine c0 hr F19 ?_
 cases hb:Ab n
 ·rw[zA y_]
  refine fU ?_
  exact dN
 rw[zC rfl]
 refine fU ?_
 refine Mi q F313 E E (by simp only[B7,hc,vS];rfl) E E ?_
 refine fU ?_
 exact dN
theorem Ahu (s:ByteArray) (d:Device):Sp 252 [Aq d,.ref 1 (Dz s) 0] (Ac (d.name == s)):=cT F252 Tryz.ntmps252 λ F hF=>by
 refine T ?_
 exact D
theorem Aol (dev:Int) (s:ByteArray) (p:Port):Sp 254 [Aw p,.ref 1 (Aa dev) 0,.ref 1 (Dz s) 0] (Ac (p.dev == dev && p.name == s)):=cT F254 Tryz.ntmps254 λ F hF=>by
 cases h:(p.dev == dev)
 ·refine T ?_
  exact D
 ·refine T ?_
  exact D
theorem Atn (dev:Int) (s:ByteArray) (p:Vrf):Sp 264 [B5 p,.ref 1 (Aa dev) 0,.ref 1 (Dz s) 0] (Ac (p.dev == dev && p.name == s)):=cT F264 Tryz.ntmps264 λ F hF=>by
 cases h:(p.dev == dev)
 ·refine T ?_
  exact D
 ·refine T ?_
  exact D
theorem Jc (n:Net) (hn:n.Fin) (hr:Ab n=true) (s:ByteArray):Sp 188 [Aj n,Dz s] (Aa (Ca n s)):=cT F188 Tryz.ntmps188 λ F hF=>by
 have q:=Aib n hn n.devices (λ d=>d.name == s) 252 [] [.ref 1 (Dz s) 0] rfl (λ d _=>⟨⟨_,_,F252⟩,Ahu s d⟩) hn.devices
 rw[zC hr]at q
 refine fW ?_
 refine Az 3 1 (Dz s) E E E ?_
 refine c0 q F251 ?_
 refine fU ?_
 exact dN
theorem Vj (n:Net) (hn:n.Fin) (hr:Ab n=true) (dev:Int) (s:ByteArray):Sp 189 [Aj n,Aa dev,Dz s] (Aa (Sb n dev s)):=cT F189 Tryz.ntmps189 λ F hF=>by
 have q:=Aph n hn n.ports (λ p=>p.dev == dev && p.name == s) 254 [] [.ref 1 (Aa dev) 0,.ref 1 (Dz s) 0] rfl (λ d _=>⟨⟨_,_,F254⟩,Aol dev s d⟩) hn.ports
 rw[zC hr]at q
 refine fW ?_
 refine Az 4 1 (Aa dev) E E E ?_
 refine Az 5 1 (Dz s) E E E ?_
 refine c0 q F253 ?_
 refine fU ?_
 exact dN
theorem Afm (n:Net) (hn:n.Fin) (hr:Ab n=true) (dev:Int) (s:ByteArray):Sp 197 [Aj n,Aa dev,Dz s] (Aa (Agt n dev s)):=cT F197 Tryz.ntmps197 λ F hF=>by
 have q:=Aup n hn n.vrfs (λ p=>p.dev == dev && p.name == s) 264 [] [.ref 1 (Aa dev) 0,.ref 1 (Dz s) 0] rfl (λ d _=>⟨⟨_,_,F264⟩,Atn dev s d⟩) hn.vrfs
 rw[zC hr]at q
 refine fW ?_
 refine Az 4 1 (Aa dev) E E E ?_
 refine Az 5 1 (Dz s) E E E ?_
 refine c0 q F263 ?_
 refine fU ?_
 exact dN
theorem J4 (n:Net) (hn:n.Fin) (hr:Ab n=true) (dev vlan:Int):Sp 62 [Aj n,Aa dev,Aa vlan] (Aa (Cq n dev vlan)):=by
 have q:=Jb n hn dev vlan
 rwa [Bt,zC hr]at q
end Go.Sy.YtljngfegfclkpaaGreat
