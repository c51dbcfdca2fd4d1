/- Parts of a proof. -/
import Derived.Test.YtodbnbfjhjcanaaGreatDoorXB10
import Derived.Test.YtodbnbfjhjcanaaGreatDoorXB9
set_option linter.all false
namespace Go.Sy.Zaa
open Go.Proofs Go.Proofs.Tryz
def Ia(l:List UInt8):Nat:=l.foldl (λn c=>n*256+c.toNat) 0
def Afh(l:List UInt8)(c:UInt8):Ia (l++[c])=Ia l*256+c.toNat:=by
 rw[Ia,xP];rfl
def Qv:∀(k:Nat) (l:List UInt8),l.length=k->Ia l<256^k
 |0,l,h=>by rw[vA.1 h];decide
 |k+1,l,h=>by
  have af:l≠[]:=λe=>by rw[e]at h;cases h
  have e:=uC af;have h1:=Qv k l.dropLast (by rw[tG];omega);have h2:=(l.getLast af).toNat_lt;rw[<-e,Afh,tV];omega
def Aur(l:List UInt8){j:Nat}(h:j<l.length):Ia (l.take (j+1))=Ia (l.take j)*256+l[j].toNat:=by
 rw[yD h,Afh]
def A3x(m:Nat)(c:UInt8)(h:m<1099511627776):bits .or .u64 (IntKind.u64.wrap ((m:Int)*2^min (Int.toNat 8) IntKind.u64.bits)) (IntKind.u64.wrap (c.toNat:Int))=((m*256+c.toNat:Nat):Int):=by
 have hc:=c.toNat_lt;have e1:IntKind.u64.wrap ((m:Int)*2^min (Int.toNat 8) IntKind.u64.bits)=((m*256:Nat):Int):=by
  show IntKind.u64.wrap ((m:Int)*256)=_;rw[IntKind.wrap_u64];omega
 have e2:IntKind.u64.wrap (c.toNat:Int)=(c.toNat:Int):=by rw[IntKind.wrap_u64];omega
 rw[e1,e2,bits_or_u64_nat _ _ q_ q_];congr 1;have h:=xR (i:=8) (b:=c.toNat) q_ m;rw[vK m 256];exact h.symm
def Du(m:Nat):Bool:=decide (m/1099511627776%2=1)
def A5l(m k:Nat):m&&&2^k=if m/2^k%2=1 then 2^k else 0:=by
 apply Nat.eq_of_testBit_eq;intro i;rw[Nat.testBit_and,Nat.testBit_two_pow];by_cases hi:k=i
 .subst hi;rw[zL rfl,uH,Nat.testBit_eq_decide_div_mod_eq];split
  .rename_i h;rw[zL h,Nat.testBit_two_pow_self]
  .rename_i h;rw[zK h,Nat.zero_testBit]
 .rw[zK hi,wR];split
  .rw[Nat.testBit_two_pow,zK hi]
  .rw[Nat.zero_testBit]
def Agm(m:Nat)(h:m<18446744073709551616):(bits .and .u64 (m:Int) 1099511627776 != 0)=Du m:=by
 have e:=bits_and_u64_nat m 1099511627776 h j_;rw[show ((1099511627776:Nat):Int)=1099511627776 from rfl]at e;rw[e,show (1099511627776:Nat)=2^40 from rfl,A5l,Du,show (1099511627776:Nat)=2^40 from rfl];split
 .rename_i h;rw[zL h];rfl
 .rename_i h;rw[zK h];rfl
structure EntryM where
 mac:Nat
 where_:Int
 seen:Int
deriving DecidableEq
def A9(e:EntryM):SV:=.agg [Bl e.mac,Aa e.where_,Aa e.seen]
def Ic(m:Nat):Bool:=decide (m<=281474976710655)&&!Du m
def H1(now:Int):Bool:=decide (0<=now)&&decide (now<=1099511627776)
def Dy(t:List EntryM)(m:Nat):Int:=Bs (λe=>decide (e.mac=m)) t
def Uv(t:List EntryM)(i:Nat)(e:EntryM):Bool:=Ic e.mac&&H1 e.seen&&decide (Dy t e.mac=i)
def tableB(t:List EntryM):Bool:=decide (t.length<=8)&&Ik (Uv t) t
def findE(t:List EntryM)(m:Nat):Int×Bool:=if Dy t m<0 then (0,false) else (((t[(Dy t m).toNat]?).map (·.where_)).getD 0,true)
def oldestU(t:List EntryM):Nat->Nat
 |0=>0
 |j+1=>if ((t[j]?).map (·.seen)).getD 0<((t[oldestU t j]?).map (·.seen)).getD 0 then j else oldestU t j
def learnT(t:List EntryM)(m:Nat)(wh now:Int):List EntryM :=
 if tableB t=false\/Ic m=false\/H1 now=false then t
 else if 0<=Dy t m then t.set (Dy t m).toNat ⟨m,wh,now⟩
 else (if t.length=8 then t.eraseIdx (oldestU t t.length) else t)++[⟨m,wh,now⟩]
def ageT(t:List EntryM)(now:Int):List EntryM:=if tableB t=false\/H1 now=false then t else t.filter λe=>decide (now-4<=e.seen)
def noF:FrameM:=⟨0,0,0,[]⟩
structure FrameOK(f:FrameM):Prop where
 dst:f.dst<281474976710656
 src:f.src<281474976710656
 typ:f.typ<=65535
 body:f.body.length<=1504
def takeF(b:List UInt8):FrameM×Int :=
 if b.length<14 then (noF,10) else if 1518<b.length then (noF,14)
 else (⟨Ia (b.take 6),Ia ((b.drop 6).take 6),Ia ((b.drop 12).take 2),b.drop 14⟩,0)
def Mb(f:FrameM):List UInt8:=frame f.dst f.src f.typ f.body
def stripT(f:FrameM):FrameM×Int×Int×Int :=
 if f.typ≠33024 then (noF,0,0,11) else if f.body.length<4 then (noF,0,0,10)
 else if 4094<Ia (f.body.take 2)%4096\/Ia ((f.body.drop 2).take 2)=33024 then (noF,0,0,15)
 else (⟨f.dst,f.src,Ia ((f.body.drop 2).take 2),f.body.drop 4⟩,(Ia (f.body.take 2)%4096:Nat),(Ia (f.body.take 2)/4096:Nat),0)
def tagT(f:FrameM)(v:Int):FrameM×Int :=
 if f.typ=33024 then (noF,15) else if 1500<f.body.length then (noF,14)
 else (⟨f.dst,f.src,33024,[UInt8.ofNat (v.toNat/256),UInt8.ofNat v.toNat,UInt8.ofNat (f.typ/256),UInt8.ofNat f.typ]++f.body⟩,0)
def vlanT(p:Port)(tagged:Bool)(er:Int):Int×Bool :=
 if tagged=false\/er=0 then (p.native,decide (p.native≠0)) else if inB p.tagged er=true then (er,true) else (0,false)
def He(n:Net)(port:Int)(f:FrameM)(tagged:Bool)(er:Int):Int×FrameM×Int :=
 if Du f.src=true then (0,noF,11)
 else if (vlanT (nth n.ports port) tagged er).2=false then (0,noF,16)
 else (B5 n (nth n.ports port).dev (vlanT (nth n.ports port) tagged er).1,f,0)
def enterT(n:Net)(port:Int)(b:List UInt8):Int×FrameM×Int :=
 if Ag port n.ports.length=false\/Ac n=false then (0,noF,2)
 else if (takeF b).2≠0 then (0,noF,(takeF b).2)
 else if (takeF b).1.typ=33024 then
  (if (stripT (takeF b).1).2.2.2≠0 then (0,noF,(stripT (takeF b).1).2.2.2) else He n port (stripT (takeF b).1).1 true (stripT (takeF b).1).2.1)
 else He n port (takeF b).1 false 0
def leaveT(n:Net)(port dom:Int)(f:FrameM):List UInt8×Int :=
 if Ag port n.ports.length=false\/Ag dom n.domains.length=false\/Ac n=false then ([],2)
 else if (nth n.ports port).dev≠(nth n.domains dom).dev\/Cy (nth n.ports port) (nth n.domains dom).vlan=false then ([],16)
 else if f.typ=33024 then ([],15)
 else if (nth n.domains dom).vlan=(nth n.ports port).native then (Mb f,0)
 else if (tagT f (nth n.domains dom).vlan).2≠0 then ([],(tagT f (nth n.domains dom).vlan).2)
 else (Mb (tagT f (nth n.domains dom).vlan).1,0)
def linkT(n:Net)(port:Int)(b:List UInt8):Int×Int×FrameM×Int :=
 if A4 n port<0 then (0,0,noF,2) else (A4 n port,enterT n (A4 n port) b)
structure QueuedM where
 from_:Int
 peer:Int
 origin:Int
 frame:FrameM
def B9(q:QueuedM):SV:=.agg [Aa q.from_,Aa q.peer,Aa q.origin,Bl q.frame.dst,Bl q.frame.src,Aa q.frame.typ,.sl 1 Al q.frame.body]
def noQ:QueuedM:=⟨0,0,0,noF⟩
def pushT(l:List QueuedM)(q:QueuedM):List QueuedM×Bool:=if 64<=l.length then (l,false) else (l++[q],true)
def takeT(l:List QueuedM)(at_:Int):QueuedM×List QueuedM×Bool :=
 if at_<0\/(l.length:Int)<=at_ then (noQ,l,false) else ((l[at_.toNat]?).getD noQ,l.eraseIdx at_.toNat,true)
def usableB(n:Net)(fw:List Bool)(p:Int):Bool:=decide ((nth n.ports p).link<0)||(fw[(nth n.ports p).link.toNat]?).getD false
def Lr(n:Net)(fw:List Bool)(dom from_:Int):Bool :=
 Ag dom n.domains.length&&decide (fw.length=n.links.length)&&Ac n&&(decide (from_=-1)||decide (from_=-2)||inB (A7 n dom) from_)
def C0(n:Net)(fw:List Bool)(from_:Int)(l:List Int):List Int:=l.filter λp=>!(decide (p=from_)||!(usableB n fw p))
def peersOut(n:Net)(dom from_:Int):List Int:=if from_=-1 then [] else (nth n.domains dom).peers
def floodT(n:Net)(fw:List Bool)(dom from_:Int):List Int×List Int×Int :=
 if Lr n fw dom from_=false then ([],[],2) else (C0 n fw from_ (A7 n dom),peersOut n dom from_,0)
def Eb(n:Net)(dom:Int)(m:Nat):Int:=Bs (λs:Static=>decide (s.domain=dom)&&decide (s.mac=(m:Int))) n.statics
def Dv(n:Net)(fw:List Bool)(t:List EntryM)(dom from_:Int)(m:Nat):List Int×List Int×Int :=
 if Lr n fw dom from_=false then ([],[],2)
 else if Du m=true then (C0 n fw from_ (A7 n dom),peersOut n dom from_,0)
 else if 0<=Eb n dom m then (C0 n fw from_ [(nth n.statics (Eb n dom m)).port],[],0)
 else if (findE t m).2=true/\0<=(findE t m).1/\inB (A7 n dom) (findE t m).1=true then (C0 n fw from_ [(findE t m).1],[],0)
 else if (findE t m).2=true/\(findE t m).1<0/\inB (nth n.domains dom).peers (-1-(findE t m).1)=true then ([],if from_=-1 then [] else [-1-(findE t m).1],0)
 else (C0 n fw from_ (A7 n dom),peersOut n dom from_,0)
def bAt(b:List UInt8)(i:Nat):UInt8:=b.getD i 0
def numAt(b:List UInt8)(k m:Nat):Nat:=Ia ((b.drop k).take m)
def Dp(l:List Nat):List UInt8:=l.flatMap λn=>[UInt8.ofNat (n/256),UInt8.ofNat n]
def udpPort(a b:Nat):Nat:=49152+(a^^^b)%16384
def oP(src dst:Nat)(body:List UInt8):List UInt8:=Dp [src,dst,8+body.length,0]++body
def udpTakeT(b:List UInt8):Int×Int×List UInt8×Int :=
 if b.length<8 then (0,0,[],10) else if numAt b 4 2<8 then (0,0,[],11) else if b.length<numAt b 4 2 then (0,0,[],10)
 else if numAt b 6 2≠0 then (0,0,[],12) else (numAt b 0 2,numAt b 2 2,(b.take (numAt b 4 2)).drop 8,0)
structure PacketM where
 tos:Nat
 id:Nat
 ttl:Nat
 proto:Nat
 src:Nat
 dst:Nat
 body:List UInt8
def noP:PacketM:=⟨0,0,0,0,0,0,[]⟩
def bU(p:PacketM):SV:=.agg [Aa p.tos,Aa p.id,Aa p.ttl,Aa p.proto,Be p.src,Be p.dst,.sl 1 Al p.body]
structure PacketOK(p:PacketM):Prop where
 tos:p.tos<=255
 id:p.id<=65535
 ttl:p.ttl<=255
 proto:p.proto<=255
 src:p.src<4294967296
 dst:p.dst<4294967296
def Ht(p:PacketM)(s:Nat):List UInt8:=Dp [17664+p.tos,20+p.body.length,p.id,0,p.ttl*256+p.proto,s,p.src/65536,p.src,p.dst/65536,p.dst]
def I6(p:PacketM):Nat:=Afm (Ht p 0)
def Ig(p:PacketM):List UInt8:=Ht p (I6 p)++p.body
def ipPutT(p:PacketM):List UInt8×Int:=if 1480<p.body.length then ([],14) else (Ig p,0)
def ipTakeT(b:List UInt8):PacketM×Int :=
 if b.length<20 then (noP,10) else if bAt b 0≠69\/numAt b 2 2<20 then (noP,11) else if b.length<numAt b 2 2 then (noP,10)
 else if numAt b 6 2≠0 then (noP,11) else if Ih (Qs (b.take 20) 10)≠65535 then (noP,12)
 else (⟨(bAt b 1).toNat,numAt b 4 2,(bAt b 8).toNat,(bAt b 9).toNat,numAt b 12 4,numAt b 16 4,(b.take (numAt b 2 2)).drop 20⟩,0)
def Lf(v:Nat):List UInt8:=[8,0,0,0,UInt8.ofNat (v/65536),UInt8.ofNat (v/256),UInt8.ofNat v,0]
def Vj(v:Int):Bool:=decide (v<1)||decide (16777215<v)
def vniT(b:List UInt8):Int×List UInt8×Int :=
 if b.length<8 then (0,[],10) else if numAt b 4 3=0\/b.take 8≠Lf (numAt b 4 3) then (0,[],11) else (numAt b 4 3,b.drop 8,0)
def Lq(from_ to:Nat)(v:Nat)(f:FrameM):PacketM:=⟨0,0,64,17,from_,to,oP (udpPort f.dst f.src) 4789 (Lf v++Mb f)⟩
def wrapT(from_ to:Nat)(v:Int)(f:FrameM):List UInt8×Int :=
 if f.typ=33024 then ([],15) else if Vj v=true then ([],17) else if 1450<f.body.length then ([],14)
 else (frame (hostN to) (hostN from_) 2048 (Ig (Lq from_ to v.toNat f)),0)
def outerT(b:List UInt8):PacketM×Int :=
 if (takeF b).2≠0 then (noP,(takeF b).2) else if (takeF b).1.typ≠2048 then (noP,11)
 else if (ipTakeT (takeF b).1.body).2≠0 then (noP,(ipTakeT (takeF b).1.body).2)
 else ((ipTakeT (takeF b).1.body).1,if (ipTakeT (takeF b).1.body).1.proto≠17 then 11 else 0)
def Mx(b:List UInt8):Int×FrameM×Int :=
 if (udpTakeT b).2.2.2≠0 then (0,noF,(udpTakeT b).2.2.2) else if (udpTakeT b).2.1≠4789 then (0,noF,11)
 else if (vniT (udpTakeT b).2.2.1).2.2≠0 then (0,noF,(vniT (udpTakeT b).2.2.1).2.2)
 else if (takeF (vniT (udpTakeT b).2.2.1).2.1).2≠0 then (0,noF,(takeF (vniT (udpTakeT b).2.2.1).2.1).2)
 else if (takeF (vniT (udpTakeT b).2.2.1).2.1).1.typ=33024 then (0,noF,15)
 else ((vniT (udpTakeT b).2.2.1).1,(takeF (vniT (udpTakeT b).2.2.1).2.1).1,0)
def Cn(b:List UInt8):Nat×Nat×Int×FrameM×Int :=
 if (outerT b).2≠0 then (0,0,0,noF,(outerT b).2) else if (Mx (outerT b).1.body).2.2≠0 then (0,0,0,noF,(Mx (outerT b).1.body).2.2)
 else ((outerT b).1.src,(outerT b).1.dst,(Mx (outerT b).1.body).1,(Mx (outerT b).1.body).2.1,0)
structure Net.Num(n:Net):Prop where
 vtep:∀d∈n.devices,0<=d.vtep/\d.vtep<4294967296
 addr:∀i∈n.irbs,0<=i.addr/\i.addr<4294967296
def C9(n:Net)(dom:Int):Int:=(nth n.devices (nth n.domains dom).dev).vtep
def meshT(n:Net)(dom peer:Int)(f:FrameM):List UInt8×Int :=
 if Ag peer n.domains.length=false\/Ag dom n.domains.length=false\/Ac n=false then ([],2)
 else if inB (nth n.domains dom).peers peer=false then ([],17)
 else wrapT (C9 n dom).toNat (C9 n peer).toNat (nth n.domains dom).vni f
def endsT(n:Net)(src dst:Nat)(vni:Int):Int×Int :=
 let dev:=Bs (λd:Device=>decide (d.vtep=(dst:Int))) n.devices
 let dom:=Bs (λd:Domain=>decide (d.dev=dev)&&decide (d.vni=vni)) n.domains
 if dev<0\/dom<0 then (-1,-1)
 else
  let i:=Bs (λk:Int=>decide (C9 n k=(src:Int))) (nth n.domains dom).peers
  if i<0 then (-1,-1) else (nth (nth n.domains dom).peers i,dom)
def comeT(n:Net)(b:List UInt8):Int×Int×FrameM×Int :=
 if Ac n=false then (0,0,noF,2)
 else if (Cn b).2.2.2.2≠0 then (0,0,noF,(Cn b).2.2.2.2)
 else if (endsT n (Cn b).1 (Cn b).2.1 (Cn b).2.2.1).1<0 then (0,0,noF,17)
 else if Du (Cn b).2.2.2.1.src=true then (0,0,noF,11)
 else ((endsT n (Cn b).1 (Cn b).2.1 (Cn b).2.2.1).1,(endsT n (Cn b).1 (Cn b).2.1 (Cn b).2.2.1).2,(Cn b).2.2.2.1,0)
def routerT(n:Net)(dom:Int)(m:Nat):Int×Bool :=
 if Ag dom n.domains.length=false\/Ac n=false then (0,false)
 else if (nth n.domains dom).irb<0\/hostN (nth n.irbs (nth n.domains dom).irb).addr≠m then (0,false)
 else ((nth n.domains dom).irb,true)
def Ae0(p:PacketM):PacketM:=⟨p.tos,p.id,p.ttl-1,p.proto,p.src,p.dst,p.body⟩
def hopT(n:Net)(irb:Int)(f:FrameM):Int×FrameM×Int :=
 if Ag irb n.irbs.length=false\/Ac n=false then (0,noF,2)
 else if f.typ≠2048 then (0,noF,11)
 else if (ipTakeT f.body).2≠0 then (0,noF,(ipTakeT f.body).2)
 else if (ipTakeT f.body).1.ttl<=1 then (0,noF,13)
 else if (lookT n irb (ipTakeT f.body).1.dst).2=false then (0,noF,31)
 else if 1480<(ipTakeT f.body).1.body.length then (0,noF,14)
 else ((nth n.irbs (lookT n irb (ipTakeT f.body).1.dst).1).domain,
  ⟨hostN (ipTakeT f.body).1.dst,hostN (nth n.irbs (lookT n irb (ipTakeT f.body).1.dst).1).addr,2048,Ig (Ae0 (ipTakeT f.body).1)⟩,0)
structure OutM where
 kind:Int
 port:Int
 domain:Int
 bytes:List UInt8
 frame:FrameM
 error:Int
def If(o:OutM):SV:=.agg [Aa o.kind,Aa o.port,Aa o.domain,.sl 1 Al o.bytes,Bl o.frame.dst,Bl o.frame.src,Aa o.frame.typ,.sl 1 Al o.frame.body,Aa o.error]
def learnQ(t:List EntryM)(q:QueuedM)(now:Int):List EntryM :=
 if q.from_=-2 then t else learnT t q.frame.src (if q.from_=-1 then -1-q.peer else q.from_) now
def O8(o:OutM)(r:List UInt8×Int):OutM:=if r.2≠0 then ⟨5,o.port,o.domain,[],o.frame,r.2⟩ else ⟨o.kind,o.port,o.domain,r.1,o.frame,o.error⟩
def Si(n:Net)(dom:Int)(f:FrameM)(p:Int):OutM:=O8 ⟨if (nth n.ports p).link<0 then 1 else 2,p,0,[],noF,0⟩ (leaveT n p dom f)
def Vh(n:Net)(dom:Int)(f:FrameM)(p:Int):OutM:=O8 ⟨3,0,p,[],noF,0⟩ (meshT n dom p f)
def bridgeT(n:Net)(fw:List Bool)(t:List EntryM)(dom:Int)(q:QueuedM)(now:Int):List EntryM×List OutM×Int :=
 if Lr n fw dom q.from_=false\/tableB t=false then ([],[],2)
 else if (routerT n dom q.frame.dst).2=true then
  (if (hopT n (routerT n dom q.frame.dst).1 q.frame).2.2≠0 then (learnQ t q now,[],(hopT n (routerT n dom q.frame.dst).1 q.frame).2.2)
   else (learnQ t q now,[⟨4,0,(hopT n (routerT n dom q.frame.dst).1 q.frame).1,[],(hopT n (routerT n dom q.frame.dst).1 q.frame).2.1,0⟩],0))
 else (learnQ t q now,(Dv n fw (learnQ t q now) dom q.from_ q.frame.dst).1.map (Si n dom q.frame)++(Dv n fw (learnQ t q now) dom q.from_ q.frame.dst).2.1.map (Vh n dom q.frame),0)
end Go.Sy.Zaa
