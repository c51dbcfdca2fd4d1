/- Parts of a proof. -/
import Derived.Test.YticmobkdaneelaaGreatDoorYE12
import Derived.Test.YticmobkdaneelaaGreatDoorYE11
set_option linter.all false
set_option linter.unusedVariables false
set_option linter.unusedSimpArgs false
set_option linter.deprecated false
namespace Go.Sy.YticmobkdaneelaaGreatDoor
open Go.Proofs Go.Proofs.Tryz
def Hv(l:List UInt8):Nat:=l.foldl (λn c=>n*256+c.toNat) 0
def Aia(l:List UInt8)(c:UInt8):Hv (l++[c])=Hv l*256+c.toNat:=by
 rw[Hv,xO];rfl
def Oi:∀(k:Nat) (l:List UInt8),l.length=k→Hv l<256^k
 |0,l,h=>by rw[wW.1 h];decide
 |k+1,l,h=>by
  have ag:l≠[]:=λe=>by rw[e]at h;cases h
  have e:=uN ag;have h1:=Oi k l.dropLast (by rw[tA];omega);have h2:=(l.getLast ag).toNat_lt;rw[←e,Aia,tN];omega
def Awh(l:List UInt8){j:Nat}(h:j<l.length):Hv (l.take (j+1))=Hv (l.take j)*256+l[j].toNat:=by
 rw[yD h,Aia]
def A4w(m:Nat)(c:UInt8)(h:m<1099511627776):bits .or .u64 (IntKind.u64.wrap ((m:Int)*2^min (Int.toNat 8) IntKind.u64.bits)) (IntKind.u64.wrap (c.toNat:Int))=((m*256+c.toNat:Nat):Int):=by
 have hc:=c.toNat_lt;have e1:IntKind.u64.wrap ((m:Int)*2^min (Int.toNat 8) IntKind.u64.bits)=((m*256:Nat):Int):=by
  show IntKind.u64.wrap ((m:Int)*256)=_;rw[IntKind.wrap_u64];omega
 have e2:IntKind.u64.wrap (c.toNat:Int)=(c.toNat:Int):=by rw[IntKind.wrap_u64];omega
 rw[e1,e2,bits_or_u64_nat _ _ q_ q_];congr 1;have h:=xQ (i:=8) (b:=c.toNat) q_ m;rw[vB m 256];exact h.symm
def Ex(m:Nat):Bool:=decide (m/1099511627776%2=1)
def A6f(m k:Nat):m&&&2^k=if m/2^k%2=1 then 2^k else 0:=by
 apply Nat.eq_of_testBit_eq;intro i;rw[Nat.testBit_and,Nat.testBit_two_pow];by_cases hi:k=i
 ·subst hi;rw[zO rfl,uG,Nat.testBit_eq_decide_div_mod_eq];split
  ·rename_i h;rw[zO h,Nat.testBit_two_pow_self]
  ·rename_i h;rw[zL h,Nat.zero_testBit]
 ·rw[zL hi,wR];split
  ·rw[Nat.testBit_two_pow,zL hi]
  ·rw[Nat.zero_testBit]
def Ajd(m:Nat)(h:m<18446744073709551616):(bits .and .u64 (m:Int) 1099511627776 != 0)=Ex m:=by
 have e:=bits_and_u64_nat m 1099511627776 h j_;rw[show ((1099511627776:Nat):Int)=1099511627776 from rfl]at e;rw[e,show (1099511627776:Nat)=2^40 from rfl,A6f,Ex,show (1099511627776:Nat)=2^40 from rfl];split
 ·rename_i h;rw[zO h];rfl
 ·rename_i h;rw[zL h];rfl
structure EntryM where
 mac:Nat
 where_:Int
 seen:Int
deriving DecidableEq
def A7(e:EntryM):SV:=.agg [A2 e.mac,Aa e.where_,Aa e.seen]
def Ll(m:Nat):Bool:=decide (m≤281474976710655)&&!Ex m
def J6(now:Int):Bool:=decide (0≤now)&&decide (now≤1099511627776)
def It(t:List EntryM)(m:Nat):Int:=Bv (λe=>decide (e.mac=m)) t
def Abe(t:List EntryM)(i:Nat)(e:EntryM):Bool:=Ll e.mac&&J6 e.seen&&decide (It t e.mac=i)
def tableB(t:List EntryM):Bool:=decide (t.length≤8)&&Ik (Abe t) t
def findE(t:List EntryM)(m:Nat):Int×Bool:=if It t m<0 then (0,false) else (((t[(It t m).toNat]?).map (·.where_)).getD 0,true)
def oldestU(t:List EntryM):Nat→Nat
 |0=>0
 |j+1=>if ((t[j]?).map (·.seen)).getD 0<((t[oldestU t j]?).map (·.seen)).getD 0 then j else oldestU t j
def learnT(t:List EntryM)(m:Nat)(wh now:Int):List EntryM :=
 if tableB t=false∨Ll m=false∨J6 now=false then t
 else if 0≤It t m then t.set (It t m).toNat ⟨m,wh,now⟩
 else (if t.length=8 then t.eraseIdx (oldestU t t.length) else t)++[⟨m,wh,now⟩]
def ageT(t:List EntryM)(now:Int):List EntryM:=if tableB t=false∨J6 now=false then t else t.filter λe=>decide (now-4≤e.seen)
def noF:FrameM:=⟨0,0,0,[]⟩
structure FrameOK(f:FrameM):Prop where
 dst:f.dst<281474976710656
 src:f.src<281474976710656
 typ:f.typ≤65535
 body:f.body.length≤1504
def takeF(b:List UInt8):FrameM×Int :=
 if b.length<14 then (noF,10) else if 1518<b.length then (noF,14)
 else (⟨Hv (b.take 6),Hv ((b.drop 6).take 6),Hv ((b.drop 12).take 2),b.drop 14⟩,0)
def So(f:FrameM):List UInt8:=frame f.dst f.src f.typ f.body
def stripT(f:FrameM):FrameM×Int×Int×Int :=
 if f.typ≠33024 then (noF,0,0,11) else if f.body.length<4 then (noF,0,0,10)
 else if 4094<Hv (f.body.take 2)%4096∨Hv ((f.body.drop 2).take 2)=33024 then (noF,0,0,15)
 else (⟨f.dst,f.src,Hv ((f.body.drop 2).take 2),f.body.drop 4⟩,(Hv (f.body.take 2)%4096:Nat),(Hv (f.body.take 2)/4096:Nat),0)
def tagT(f:FrameM)(v:Int):FrameM×Int :=
 if f.typ=33024 then (noF,15) else if 1500<f.body.length then (noF,14)
 else (⟨f.dst,f.src,33024,[UInt8.ofNat (v.toNat/256),UInt8.ofNat v.toNat,UInt8.ofNat (f.typ/256),UInt8.ofNat f.typ]++f.body⟩,0)
def vlanT(p:Port)(tagged:Bool)(ef:Int):Int×Bool :=
 if tagged=false∨ef=0 then (p.native,decide (p.native≠0)) else if inB p.tagged ef=true then (ef,true) else (0,false)
def Hs(n:Net)(port:Int)(f:FrameM)(tagged:Bool)(ef:Int):Int×FrameM×Int :=
 if Ex f.src=true then (0,noF,11)
 else if (vlanT (nth n.ports port) tagged ef).2=false then (0,noF,16)
 else (C1 n (nth n.ports port).dev (vlanT (nth n.ports port) tagged ef).1,f,0)
def enterT(n:Net)(port:Int)(b:List UInt8):Int×FrameM×Int :=
 if Ah port n.ports.length=false∨Ac n=false then (0,noF,2)
 else if (takeF b).2≠0 then (0,noF,(takeF b).2)
 else if (takeF b).1.typ=33024 then
  (if (stripT (takeF b).1).2.2.2≠0 then (0,noF,(stripT (takeF b).1).2.2.2) else Hs n port (stripT (takeF b).1).1 true (stripT (takeF b).1).2.1)
 else Hs n port (takeF b).1 false 0
def leaveT(n:Net)(port dom:Int)(f:FrameM):List UInt8×Int :=
 if Ah port n.ports.length=false∨Ah dom n.domains.length=false∨Ac n=false then ([],2)
 else if (nth n.ports port).dev≠(nth n.domains dom).dev∨Dl (nth n.ports port) (nth n.domains dom).vlan=false then ([],16)
 else if f.typ=33024 then ([],15)
 else if (nth n.domains dom).vlan=(nth n.ports port).native then (So f,0)
 else if (tagT f (nth n.domains dom).vlan).2≠0 then ([],(tagT f (nth n.domains dom).vlan).2)
 else (So (tagT f (nth n.domains dom).vlan).1,0)
def linkT(n:Net)(port:Int)(b:List UInt8):Int×Int×FrameM×Int :=
 if C5 n port<0 then (0,0,noF,2) else (C5 n port,enterT n (C5 n port) b)
structure QueuedM where
 from_:Int
 peer:Int
 origin:Int
 frame:FrameM
def Cb(q:QueuedM):SV:=.agg [Aa q.from_,Aa q.peer,Aa q.origin,A2 q.frame.dst,A2 q.frame.src,Aa q.frame.typ,.sl 1 Al q.frame.body]
def noQ:QueuedM:=⟨0,0,0,noF⟩
def pushT(l:List QueuedM)(q:QueuedM):List QueuedM×Bool:=if 64≤l.length then (l,false) else (l++[q],true)
def takeT(l:List QueuedM)(at_:Int):QueuedM×List QueuedM×Bool :=
 if at_<0∨(l.length:Int)≤at_ then (noQ,l,false) else ((l[at_.toNat]?).getD noQ,l.eraseIdx at_.toNat,true)
def usableB(n:Net)(fw:List Bool)(p:Int):Bool:=decide ((nth n.ports p).link<0)||(fw[(nth n.ports p).link.toNat]?).getD false
def Tn(n:Net)(fw:List Bool)(dom from_:Int):Bool :=
 Ah dom n.domains.length&&decide (fw.length=n.links.length)&&Ac n&&(decide (from_=-1)||decide (from_=-2)||inB (Bk n dom) from_)
def Hx(n:Net)(fw:List Bool)(from_:Int)(l:List Int):List Int:=l.filter λp=>!(decide (p=from_)||!(usableB n fw p))
def peersOut(n:Net)(dom from_:Int):List Int:=if from_=-1 then [] else (nth n.domains dom).peers
def floodT(n:Net)(fw:List Bool)(dom from_:Int):List Int×List Int×Int :=
 if Tn n fw dom from_=false then ([],[],2) else (Hx n fw from_ (Bk n dom),peersOut n dom from_,0)
def E2(n:Net)(dom:Int)(m:Nat):Int:=Bv (λs:Static=>decide (s.domain=dom)&&decide (s.mac=(m:Int))) n.statics
def D6(n:Net)(fw:List Bool)(t:List EntryM)(dom from_:Int)(m:Nat):List Int×List Int×Int :=
 if Tn n fw dom from_=false then ([],[],2)
 else if Ex m=true then (Hx n fw from_ (Bk n dom),peersOut n dom from_,0)
 else if 0≤E2 n dom m then (Hx n fw from_ [(nth n.statics (E2 n dom m)).port],[],0)
 else if (findE t m).2=true∧0≤(findE t m).1∧inB (Bk n dom) (findE t m).1=true then (Hx n fw from_ [(findE t m).1],[],0)
 else if (findE t m).2=true∧(findE t m).1<0∧inB (nth n.domains dom).peers (-1-(findE t m).1)=true then ([],if from_=-1 then [] else [-1-(findE t m).1],0)
 else (Hx n fw from_ (Bk n dom),peersOut n dom from_,0)
def bAt(b:List UInt8)(i:Nat):UInt8:=b.getD i 0
def numAt(b:List UInt8)(k m:Nat):Nat:=Hv ((b.drop k).take m)
def Dd(l:List Nat):List UInt8:=l.flatMap λn=>[UInt8.ofNat (n/256),UInt8.ofNat n]
def udpPort(a b:Nat):Nat:=49152+(a^^^b)%16384
def Adf(src dst:Nat)(body:List UInt8):List UInt8:=Dd [src,dst,8+body.length,0]++body
def udpTakeT(b:List UInt8):Int×Int×List UInt8×Int :=
 if b.length<8 then (0,0,[],10) else if numAt b 4 2<8 then (0,0,[],11) else if b.length<numAt b 4 2 then (0,0,[],10)
 else if numAt b 6 2≠0 then (0,0,[],12) else (numAt b 0 2,numAt b 2 2,(b.take (numAt b 4 2)).drop 8,0)
structure PacketM where
 tos:Nat
 id:Nat
 ttl:Nat
 proto:Nat
 src:Nat
 dst:Nat
 body:List UInt8
def noP:PacketM:=⟨0,0,0,0,0,0,[]⟩
def Zb(p:PacketM):SV:=.agg [Aa p.tos,Aa p.id,Aa p.ttl,Aa p.proto,Bb p.src,Bb p.dst,.sl 1 Al p.body]
structure PacketOK(p:PacketM):Prop where
 tos:p.tos≤255
 id:p.id≤65535
 ttl:p.ttl≤255
 proto:p.proto≤255
 src:p.src<4294967296
 dst:p.dst<4294967296
def Hq(p:PacketM)(s:Nat):List UInt8:=Dd [17664+p.tos,20+p.body.length,p.id,0,p.ttl*256+p.proto,s,p.src/65536,p.src,p.dst/65536,p.dst]
def Ir(p:PacketM):Nat:=Qj (Hq p 0)
def Jj(p:PacketM):List UInt8:=Hq p (Ir p)++p.body
def ipPutT(p:PacketM):List UInt8×Int:=if 1480<p.body.length then ([],14) else (Jj p,0)
def ipTakeT(b:List UInt8):PacketM×Int :=
 if b.length<20 then (noP,10) else if bAt b 0≠69∨numAt b 2 2<20 then (noP,11) else if b.length<numAt b 2 2 then (noP,10)
 else if numAt b 6 2≠0 then (noP,11) else if He (Mb (b.take 20) 10)≠65535 then (noP,12)
 else (⟨(bAt b 1).toNat,numAt b 4 2,(bAt b 8).toNat,(bAt b 9).toNat,numAt b 12 4,numAt b 16 4,(b.take (numAt b 2 2)).drop 20⟩,0)
def Km(v:Nat):List UInt8:=[8,0,0,0,UInt8.ofNat (v/65536),UInt8.ofNat (v/256),UInt8.ofNat v,0]
def T4(v:Int):Bool:=decide (v<1)||decide (16777215<v)
def vniT(b:List UInt8):Int×List UInt8×Int :=
 if b.length<8 then (0,[],10) else if numAt b 4 3=0∨b.take 8≠Km (numAt b 4 3) then (0,[],11) else (numAt b 4 3,b.drop 8,0)
def Kx(from_ to:Nat)(v:Nat)(f:FrameM):PacketM:=⟨0,0,64,17,from_,to,Adf (udpPort f.dst f.src) 4789 (Km v++So f)⟩
def wrapT(from_ to:Nat)(v:Int)(f:FrameM):List UInt8×Int :=
 if f.typ=33024 then ([],15) else if T4 v=true then ([],17) else if 1450<f.body.length then ([],14)
 else (frame (D5 to) (D5 from_) 2048 (Jj (Kx from_ to v.toNat f)),0)
def outerT(b:List UInt8):PacketM×Int :=
 if (takeF b).2≠0 then (noP,(takeF b).2) else if (takeF b).1.typ≠2048 then (noP,11)
 else if (ipTakeT (takeF b).1.body).2≠0 then (noP,(ipTakeT (takeF b).1.body).2)
 else ((ipTakeT (takeF b).1.body).1,if (ipTakeT (takeF b).1.body).1.proto≠17 then 11 else 0)
def L3(b:List UInt8):Int×FrameM×Int :=
 if (udpTakeT b).2.2.2≠0 then (0,noF,(udpTakeT b).2.2.2) else if (udpTakeT b).2.1≠4789 then (0,noF,11)
 else if (vniT (udpTakeT b).2.2.1).2.2≠0 then (0,noF,(vniT (udpTakeT b).2.2.1).2.2)
 else if (takeF (vniT (udpTakeT b).2.2.1).2.1).2≠0 then (0,noF,(takeF (vniT (udpTakeT b).2.2.1).2.1).2)
 else if (takeF (vniT (udpTakeT b).2.2.1).2.1).1.typ=33024 then (0,noF,15)
 else ((vniT (udpTakeT b).2.2.1).1,(takeF (vniT (udpTakeT b).2.2.1).2.1).1,0)
def Ch(b:List UInt8):Nat×Nat×Int×FrameM×Int :=
 if (outerT b).2≠0 then (0,0,0,noF,(outerT b).2) else if (L3 (outerT b).1.body).2.2≠0 then (0,0,0,noF,(L3 (outerT b).1.body).2.2)
 else ((outerT b).1.src,(outerT b).1.dst,(L3 (outerT b).1.body).1,(L3 (outerT b).1.body).2.1,0)
structure Net.Num(n:Net):Prop where
 vtep:∀d∈n.devices,0≤d.vtep∧d.vtep<4294967296
 addr:∀i∈n.irbs,0≤i.addr∧i.addr<4294967296
def Cy(n:Net)(dom:Int):Int:=(nth n.devices (nth n.domains dom).dev).vtep
def meshT(n:Net)(dom peer:Int)(f:FrameM):List UInt8×Int :=
 if Ah peer n.domains.length=false∨Ah dom n.domains.length=false∨Ac n=false then ([],2)
 else if inB (nth n.domains dom).peers peer=false then ([],17)
 else wrapT (Cy n dom).toNat (Cy n peer).toNat (nth n.domains dom).vni f
def endsT(n:Net)(src dst:Nat)(vni:Int):Int×Int :=
 let dev:=Bv (λd:Device=>decide (d.vtep=(dst:Int))) n.devices
 let dom:=Bv (λd:Domain=>decide (d.dev=dev)&&decide (d.vni=vni)) n.domains
 if dev<0∨dom<0 then (-1,-1)
 else
  let i:=Bv (λk:Int=>decide (Cy n k=(src:Int))) (nth n.domains dom).peers
  if i<0 then (-1,-1) else (nth (nth n.domains dom).peers i,dom)
def comeT(n:Net)(b:List UInt8):Int×Int×FrameM×Int :=
 if Ac n=false then (0,0,noF,2)
 else if (Ch b).2.2.2.2≠0 then (0,0,noF,(Ch b).2.2.2.2)
 else if (endsT n (Ch b).1 (Ch b).2.1 (Ch b).2.2.1).1<0 then (0,0,noF,17)
 else if Ex (Ch b).2.2.2.1.src=true then (0,0,noF,11)
 else ((endsT n (Ch b).1 (Ch b).2.1 (Ch b).2.2.1).1,(endsT n (Ch b).1 (Ch b).2.1 (Ch b).2.2.1).2,(Ch b).2.2.2.1,0)
def routerT(n:Net)(dom:Int)(m:Nat):Int×Bool :=
 if Ah dom n.domains.length=false∨Ac n=false then (0,false)
 else if (nth n.domains dom).irb<0∨D5 (nth n.irbs (nth n.domains dom).irb).addr≠m then (0,false)
 else ((nth n.domains dom).irb,true)
def Apf(p:PacketM):PacketM:=⟨p.tos,p.id,p.ttl-1,p.proto,p.src,p.dst,p.body⟩
def hopT(n:Net)(irb:Int)(f:FrameM):Int×FrameM×Int :=
 if Ah irb n.irbs.length=false∨Ac n=false then (0,noF,2)
 else if f.typ≠2048 then (0,noF,11)
 else if (ipTakeT f.body).2≠0 then (0,noF,(ipTakeT f.body).2)
 else if (ipTakeT f.body).1.ttl≤1 then (0,noF,13)
 else if (lookT n irb (ipTakeT f.body).1.dst).2=false then (0,noF,31)
 else if 1480<(ipTakeT f.body).1.body.length then (0,noF,14)
 else ((nth n.irbs (lookT n irb (ipTakeT f.body).1.dst).1).domain,
  ⟨D5 (ipTakeT f.body).1.dst,D5 (nth n.irbs (lookT n irb (ipTakeT f.body).1.dst).1).addr,2048,Jj (Apf (ipTakeT f.body).1)⟩,0)
structure OutM where
 kind:Int
 port:Int
 domain:Int
 bytes:List UInt8
 frame:FrameM
 error:Int
def Hy(o:OutM):SV:=.agg [Aa o.kind,Aa o.port,Aa o.domain,.sl 1 Al o.bytes,A2 o.frame.dst,A2 o.frame.src,Aa o.frame.typ,.sl 1 Al o.frame.body,Aa o.error]
def learnQ(t:List EntryM)(q:QueuedM)(now:Int):List EntryM :=
 if q.from_=-2 then t else learnT t q.frame.src (if q.from_=-1 then -1-q.peer else q.from_) now
def Qt(o:OutM)(r:List UInt8×Int):OutM:=if r.2≠0 then ⟨5,o.port,o.domain,[],o.frame,r.2⟩ else ⟨o.kind,o.port,o.domain,r.1,o.frame,o.error⟩
def Aa3(n:Net)(dom:Int)(f:FrameM)(p:Int):OutM:=Qt ⟨if (nth n.ports p).link<0 then 1 else 2,p,0,[],noF,0⟩ (leaveT n p dom f)
def Ae9(n:Net)(dom:Int)(f:FrameM)(p:Int):OutM:=Qt ⟨3,0,p,[],noF,0⟩ (meshT n dom p f)
def bridgeT(n:Net)(fw:List Bool)(t:List EntryM)(dom:Int)(q:QueuedM)(now:Int):List EntryM×List OutM×Int :=
 if Tn n fw dom q.from_=false∨tableB t=false then ([],[],2)
 else if (routerT n dom q.frame.dst).2=true then
  (if (hopT n (routerT n dom q.frame.dst).1 q.frame).2.2≠0 then (learnQ t q now,[],(hopT n (routerT n dom q.frame.dst).1 q.frame).2.2)
   else (learnQ t q now,[⟨4,0,(hopT n (routerT n dom q.frame.dst).1 q.frame).1,[],(hopT n (routerT n dom q.frame.dst).1 q.frame).2.1,0⟩],0))
 else (learnQ t q now,(D6 n fw (learnQ t q now) dom q.from_ q.frame.dst).1.map (Aa3 n dom q.frame)++(D6 n fw (learnQ t q now) dom q.from_ q.frame.dst).2.1.map (Ae9 n dom q.frame),0)
end Go.Sy.YticmobkdaneelaaGreatDoor
