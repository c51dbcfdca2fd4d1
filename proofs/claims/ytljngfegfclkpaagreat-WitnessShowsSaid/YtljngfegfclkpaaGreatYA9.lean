/-
  KM K25 K1 K2 K3 K4 K5 K6 K7 K26: parts of a proof, joined by program.
-/
import Derived.Test.YtljngfegfclkpaaGreatYA7
import Derived.Test.YtljngfegfclkpaaGreatYA5
import Derived.Test.YtljngfegfclkpaaGreatYA6
import Derived.Test.YtljngfegfclkpaaGreatYA8
set_option linter.all false
set_option linter.unusedVariables false
set_option linter.unusedSimpArgs false
set_option linter.deprecated false
namespace Go.Sy.YtljngfegfclkpaaGreat
open Go.Proofs
structure EntryM where
 mac:Nat
 where_:Int
 seen:Int
deriving DecidableEq
def A1 (e:EntryM):SV:=.agg [Bb e.mac,Aa e.where_,Aa e.seen]
def E4 (m:Nat):Bool:=decide (m≤281474976710655) && !Dh m
def Ew (now:Int):Bool:=decide (0≤now) && decide (now≤1099511627776)
def Df (t:List EntryM) (m:Nat):Int:=Bg (λ e=>decide (e.mac=m)) t
def Qc (t:List EntryM) (i:Nat) (e:EntryM):Bool:=E4 e.mac && Ew e.seen && decide (Df t e.mac=i)
def tableB (t:List EntryM):Bool:=decide (t.length≤8) && Ha (Qc t) t
def findE (t:List EntryM) (m:Nat):Int × Bool:=if Df t m<0 then (0,false) else (((t[(Df t m).toNat]?).map (·.where_)).getD 0,true)
def oldestU (t:List EntryM):Nat→Nat
 | 0=>0
 | j+1=>if ((t[j]?).map (·.seen)).getD 0<((t[oldestU t j]?).map (·.seen)).getD 0 then j else oldestU t j
def learnT (t:List EntryM) (m:Nat) (wh now:Int):List EntryM :=
 if tableB t=false∨E4 m=false∨Ew now=false then t
 else if 0≤Df t m then t.set (Df t m).toNat ⟨m,wh,now⟩
 else (if t.length=8 then t.eraseIdx (oldestU t t.length) else t)++[⟨m,wh,now⟩]
def ageT (t:List EntryM) (now:Int):List EntryM:=if tableB t=false∨Ew now=false then t else t.filter λ e=>decide (now-4≤e.seen)
def noF:FrameM:=⟨0,0,0,[]⟩
structure FrameOK (f:FrameM):Prop where
 dst:f.dst<281474976710656
 src:f.src<281474976710656
 typ:f.typ≤65535
 body:f.body.length≤1504
def takeF (b:List UInt8):FrameM × Int :=
 if b.length<14 then (noF,10) else if 1518<b.length then (noF,14)
 else (⟨E2 (b.take 6),E2 ((b.drop 6).take 6),E2 ((b.drop 12).take 2),b.drop 14⟩,0)
def Jw (f:FrameM):List UInt8:=frame f.dst f.src f.typ f.body
def stripT (f:FrameM):FrameM × Int × Int × Int :=
 if f.typ≠33024 then (noF,0,0,11) else if f.body.length<4 then (noF,0,0,10)
 else if 4094<E2 (f.body.take 2) % 4096∨E2 ((f.body.drop 2).take 2)=33024 then (noF,0,0,15)
 else (⟨f.dst,f.src,E2 ((f.body.drop 2).take 2),f.body.drop 4⟩,(E2 (f.body.take 2) % 4096:Nat),(E2 (f.body.take 2) / 4096:Nat),0)
def tagT (f:FrameM) (v:Int):FrameM × Int :=
 if f.typ=33024 then (noF,15) else if 1500<f.body.length then (noF,14)
 else (⟨f.dst,f.src,33024,[UInt8.ofNat (v.toNat / 256),UInt8.ofNat v.toNat,UInt8.ofNat (f.typ / 256),UInt8.ofNat f.typ]++f.body⟩,0)
def vlanT (p:Port) (tagged:Bool) (vid:Int):Int × Bool :=
 if tagged=false∨vid=0 then (p.native,decide (p.native≠0)) else if inB p.tagged vid=true then (vid,true) else (0,false)
def Ip (n:Net) (port:Int) (f:FrameM) (tagged:Bool) (vid:Int):Int × FrameM × Int :=
 if Dh f.src=true then (0,noF,11)
 else if (vlanT (nth n.ports port) tagged vid).2=false then (0,noF,16)
 else (Bt n (nth n.ports port).dev (vlanT (nth n.ports port) tagged vid).1,f,0)
def enterT (n:Net) (port:Int) (b:List UInt8):Int × FrameM × Int :=
 if Af port n.ports.length=false∨Ab n=false then (0,noF,2)
 else if (takeF b).2≠0 then (0,noF,(takeF b).2)
 else if (takeF b).1.typ=33024 then
  (if (stripT (takeF b).1).2.2.2≠0 then (0,noF,(stripT (takeF b).1).2.2.2) else Ip n port (stripT (takeF b).1).1 true (stripT (takeF b).1).2.1)
 else Ip n port (takeF b).1 false 0
def leaveT (n:Net) (port dom:Int) (f:FrameM):List UInt8 × Int :=
 if Af port n.ports.length=false∨Af dom n.domains.length=false∨Ab n=false then ([],2)
 else if (nth n.ports port).dev≠(nth n.domains dom).dev∨Ce (nth n.ports port) (nth n.domains dom).vlan=false then ([],16)
 else if f.typ=33024 then ([],15)
 else if (nth n.domains dom).vlan=(nth n.ports port).native then (Jw f,0)
 else if (tagT f (nth n.domains dom).vlan).2≠0 then ([],(tagT f (nth n.domains dom).vlan).2)
 else (Jw (tagT f (nth n.domains dom).vlan).1,0)
def linkT (n:Net) (port:Int) (b:List UInt8):Int × Int × FrameM × Int :=
 if Ay n port<0 then (0,0,noF,2) else (Ay n port,enterT n (Ay n port) b)
structure QueuedM where
 from_:Int
 peer:Int
 origin:Int
 frame:FrameM
def Bv (q:QueuedM):SV:=.agg [Aa q.from_,Aa q.peer,Aa q.origin,Bb q.frame.dst,Bb q.frame.src,Aa q.frame.typ,.sl 1 Al q.frame.body]
def noQ:QueuedM:=⟨0,0,0,noF⟩
def pushT (l:List QueuedM) (q:QueuedM):List QueuedM × Bool:=if 64≤l.length then (l,false) else (l++[q],true)
def takeT (l:List QueuedM) (at_:Int):QueuedM × List QueuedM × Bool :=
 if at_<0∨(l.length:Int)≤at_ then (noQ,l,false) else ((l[at_.toNat]?).getD noQ,l.eraseIdx at_.toNat,true)
def usableB (n:Net) (fw:List Bool) (p:Int):Bool:=decide ((nth n.ports p).link<0) || (fw[(nth n.ports p).link.toNat]?).getD false
def Jq (n:Net) (fw:List Bool) (dom from_:Int):Bool :=
 Af dom n.domains.length && decide (fw.length=n.links.length) && Ab n && (decide (from_=-1) || decide (from_=-2) || inB (Au n dom) from_)
def Ch (n:Net) (fw:List Bool) (from_:Int) (l:List Int):List Int:=l.filter λ p=>!(decide (p=from_) || !(usableB n fw p))
def peersOut (n:Net) (dom from_:Int):List Int:=if from_=-1 then [] else (nth n.domains dom).peers
def floodT (n:Net) (fw:List Bool) (dom from_:Int):List Int × List Int × Int :=
 if Jq n fw dom from_=false then ([],[],2) else (Ch n fw from_ (Au n dom),peersOut n dom from_,0)
def Dn (n:Net) (dom:Int) (m:Nat):Int:=Bg (λ s:Static=>decide (s.domain=dom) && decide (s.mac=(m:Int))) n.statics
def Da (n:Net) (fw:List Bool) (t:List EntryM) (dom from_:Int) (m:Nat):List Int × List Int × Int :=
 if Jq n fw dom from_=false then ([],[],2)
 else if Dh m=true then (Ch n fw from_ (Au n dom),peersOut n dom from_,0)
 else if 0≤Dn n dom m then (Ch n fw from_ [(nth n.statics (Dn n dom m)).port],[],0)
 else if (findE t m).2=true∧0≤(findE t m).1∧inB (Au n dom) (findE t m).1=true then (Ch n fw from_ [(findE t m).1],[],0)
 else if (findE t m).2=true∧(findE t m).1<0∧inB (nth n.domains dom).peers (-1-(findE t m).1)=true then ([],if from_=-1 then [] else [-1-(findE t m).1],0)
 else (Ch n fw from_ (Au n dom),peersOut n dom from_,0)
def bAt (b:List UInt8) (i:Nat):UInt8:=b.getD i 0
def numAt (b:List UInt8) (k m:Nat):Nat:=E2 ((b.drop k).take m)
def C4 (l:List Nat):List UInt8:=l.flatMap λ n=>[UInt8.ofNat (n / 256),UInt8.ofNat n]
def udpPort (a b:Nat):Nat:=49152+(a ^^^ b) % 16384
def Aan (src dst:Nat) (body:List UInt8):List UInt8:=C4 [src,dst,8+body.length,0]++body
def udpTakeT (b:List UInt8):Int × Int × List UInt8 × Int :=
 if b.length<8 then (0,0,[],10) else if numAt b 4 2<8 then (0,0,[],11) else if b.length<numAt b 4 2 then (0,0,[],10)
 else if numAt b 6 2≠0 then (0,0,[],12) else (numAt b 0 2,numAt b 2 2,(b.take (numAt b 4 2)).drop 8,0)
structure PacketM where
 tos:Nat
 id:Nat
 ttl:Nat
 proto:Nat
 src:Nat
 dst:Nat
 body:List UInt8
def noP:PacketM:=⟨0,0,0,0,0,0,[]⟩
def Wn (p:PacketM):SV:=.agg [Aa p.tos,Aa p.id,Aa p.ttl,Aa p.proto,A8 p.src,A8 p.dst,.sl 1 Al p.body]
structure PacketOK (p:PacketM):Prop where
 tos:p.tos≤255
 id:p.id≤65535
 ttl:p.ttl≤255
 proto:p.proto≤255
 src:p.src<4294967296
 dst:p.dst<4294967296
def Er (p:PacketM) (s:Nat):List UInt8:=C4 [17664+p.tos,20+p.body.length,p.id,0,p.ttl * 256+p.proto,s,p.src / 65536,p.src,p.dst / 65536,p.dst]
def Hr (p:PacketM):Nat:=Afa (Er p 0)
def E7 (p:PacketM):List UInt8:=Er p (Hr p)++p.body
def ipPutT (p:PacketM):List UInt8 × Int:=if 1480<p.body.length then ([],14) else (E7 p,0)
def ipTakeT (b:List UInt8):PacketM × Int :=
 if b.length<20 then (noP,10) else if bAt b 0≠69∨numAt b 2 2<20 then (noP,11) else if b.length<numAt b 2 2 then (noP,10)
 else if numAt b 6 2≠0 then (noP,11) else if E8 (L8 (b.take 20) 10)≠65535 then (noP,12)
 else (⟨(bAt b 1).toNat,numAt b 4 2,(bAt b 8).toNat,(bAt b 9).toNat,numAt b 12 4,numAt b 16 4,(b.take (numAt b 2 2)).drop 20⟩,0)
def Jj (v:Nat):List UInt8:=[8,0,0,0,UInt8.ofNat (v / 65536),UInt8.ofNat (v / 256),UInt8.ofNat v,0]
def Q0 (v:Int):Bool:=decide (v<1) || decide (16777215<v)
def vniT (b:List UInt8):Int × List UInt8 × Int :=
 if b.length<8 then (0,[],10) else if numAt b 4 3=0∨b.take 8≠Jj (numAt b 4 3) then (0,[],11) else (numAt b 4 3,b.drop 8,0)
def Jp (from_ to:Nat) (v:Nat) (f:FrameM):PacketM:=⟨0,0,64,17,from_,to,Aan (udpPort f.dst f.src) 4789 (Jj v++Jw f)⟩
def wrapT (from_ to:Nat) (v:Int) (f:FrameM):List UInt8 × Int :=
 if f.typ=33024 then ([],15) else if Q0 v=true then ([],17) else if 1450<f.body.length then ([],14)
 else (frame (hostN to) (hostN from_) 2048 (E7 (Jp from_ to v.toNat f)),0)
def outerT (b:List UInt8):PacketM × Int :=
 if (takeF b).2≠0 then (noP,(takeF b).2) else if (takeF b).1.typ≠2048 then (noP,11)
 else if (ipTakeT (takeF b).1.body).2≠0 then (noP,(ipTakeT (takeF b).1.body).2)
 else ((ipTakeT (takeF b).1.body).1,if (ipTakeT (takeF b).1.body).1.proto≠17 then 11 else 0)
def Kq (b:List UInt8):Int × FrameM × Int :=
 if (udpTakeT b).2.2.2≠0 then (0,noF,(udpTakeT b).2.2.2) else if (udpTakeT b).2.1≠4789 then (0,noF,11)
 else if (vniT (udpTakeT b).2.2.1).2.2≠0 then (0,noF,(vniT (udpTakeT b).2.2.1).2.2)
 else if (takeF (vniT (udpTakeT b).2.2.1).2.1).2≠0 then (0,noF,(takeF (vniT (udpTakeT b).2.2.1).2.1).2)
 else if (takeF (vniT (udpTakeT b).2.2.1).2.1).1.typ=33024 then (0,noF,15)
 else ((vniT (udpTakeT b).2.2.1).1,(takeF (vniT (udpTakeT b).2.2.1).2.1).1,0)
def B8 (b:List UInt8):Nat × Nat × Int × FrameM × Int :=
 if (outerT b).2≠0 then (0,0,0,noF,(outerT b).2) else if (Kq (outerT b).1.body).2.2≠0 then (0,0,0,noF,(Kq (outerT b).1.body).2.2)
 else ((outerT b).1.src,(outerT b).1.dst,(Kq (outerT b).1.body).1,(Kq (outerT b).1.body).2.1,0)
structure Net.Num (n:Net):Prop where
 vtep:∀ d∈n.devices,0≤d.vtep∧d.vtep<4294967296
 addr:∀ i∈n.irbs,0≤i.addr∧i.addr<4294967296
def Cr (n:Net) (dom:Int):Int:=(nth n.devices (nth n.domains dom).dev).vtep
def meshT (n:Net) (dom peer:Int) (f:FrameM):List UInt8 × Int :=
 if Af peer n.domains.length=false∨Af dom n.domains.length=false∨Ab n=false then ([],2)
 else if inB (nth n.domains dom).peers peer=false then ([],17)
 else wrapT (Cr n dom).toNat (Cr n peer).toNat (nth n.domains dom).vni f
def endsT (n:Net) (src dst:Nat) (vni:Int):Int × Int :=
 let dev:=Bg (λ d:Device=>decide (d.vtep=(dst:Int))) n.devices
 let dom:=Bg (λ d:Domain=>decide (d.dev=dev) && decide (d.vni=vni)) n.domains
 if dev<0∨dom<0 then (-1,-1)
 else
  let i:=Bg (λ k:Int=>decide (Cr n k=(src:Int))) (nth n.domains dom).peers
  if i<0 then (-1,-1) else (nth (nth n.domains dom).peers i,dom)
def comeT (n:Net) (b:List UInt8):Int × Int × FrameM × Int :=
 if Ab n=false then (0,0,noF,2)
 else if (B8 b).2.2.2.2≠0 then (0,0,noF,(B8 b).2.2.2.2)
 else if (endsT n (B8 b).1 (B8 b).2.1 (B8 b).2.2.1).1<0 then (0,0,noF,17)
 else if Dh (B8 b).2.2.2.1.src=true then (0,0,noF,11)
 else ((endsT n (B8 b).1 (B8 b).2.1 (B8 b).2.2.1).1,(endsT n (B8 b).1 (B8 b).2.1 (B8 b).2.2.1).2,(B8 b).2.2.2.1,0)
def routerT (n:Net) (dom:Int) (m:Nat):Int × Bool :=
 if Af dom n.domains.length=false∨Ab n=false then (0,false)
 else if (nth n.domains dom).irb<0∨hostN (nth n.irbs (nth n.domains dom).irb).addr≠m then (0,false)
 else ((nth n.domains dom).irb,true)
def Ah4 (p:PacketM):PacketM:=⟨p.tos,p.id,p.ttl-1,p.proto,p.src,p.dst,p.body⟩
def hopT (n:Net) (irb:Int) (f:FrameM):Int × FrameM × Int :=
 if Af irb n.irbs.length=false∨Ab n=false then (0,noF,2)
 else if f.typ≠2048 then (0,noF,11)
 else if (ipTakeT f.body).2≠0 then (0,noF,(ipTakeT f.body).2)
 else if (ipTakeT f.body).1.ttl≤1 then (0,noF,13)
 else if (lookT n irb (ipTakeT f.body).1.dst).2=false then (0,noF,31)
 else if 1480<(ipTakeT f.body).1.body.length then (0,noF,14)
 else ((nth n.irbs (lookT n irb (ipTakeT f.body).1.dst).1).domain,
  ⟨hostN (ipTakeT f.body).1.dst,hostN (nth n.irbs (lookT n irb (ipTakeT f.body).1.dst).1).addr,2048,E7 (Ah4 (ipTakeT f.body).1)⟩,0)
structure OutM where
 kind:Int
 port:Int
 domain:Int
 bytes:List UInt8
 frame:FrameM
 error:Int
def E5 (o:OutM):SV:=.agg [Aa o.kind,Aa o.port,Aa o.domain,.sl 1 Al o.bytes,Bb o.frame.dst,Bb o.frame.src,Aa o.frame.typ,.sl 1 Al o.frame.body,Aa o.error]
def learnQ (t:List EntryM) (q:QueuedM) (now:Int):List EntryM :=
 if q.from_=-2 then t else learnT t q.frame.src (if q.from_=-1 then -1-q.peer else q.from_) now
def Sl (o:OutM) (r:List UInt8 × Int):OutM:=if r.2≠0 then ⟨5,o.port,o.domain,[],o.frame,r.2⟩ else ⟨o.kind,o.port,o.domain,r.1,o.frame,o.error⟩
def Qw (n:Net) (dom:Int) (f:FrameM) (p:Int):OutM:=Sl ⟨if (nth n.ports p).link<0 then 1 else 2,p,0,[],noF,0⟩ (leaveT n p dom f)
def T7 (n:Net) (dom:Int) (f:FrameM) (p:Int):OutM:=Sl ⟨3,0,p,[],noF,0⟩ (meshT n dom p f)
def bridgeT (n:Net) (fw:List Bool) (t:List EntryM) (dom:Int) (q:QueuedM) (now:Int):List EntryM × List OutM × Int :=
 if Jq n fw dom q.from_=false∨tableB t=false then ([],[],2)
 else if (routerT n dom q.frame.dst).2=true then
  (if (hopT n (routerT n dom q.frame.dst).1 q.frame).2.2≠0 then (learnQ t q now,[],(hopT n (routerT n dom q.frame.dst).1 q.frame).2.2)
   else (learnQ t q now,[⟨4,0,(hopT n (routerT n dom q.frame.dst).1 q.frame).1,[],(hopT n (routerT n dom q.frame.dst).1 q.frame).2.1,0⟩],0))
 else (learnQ t q now,(Da n fw (learnQ t q now) dom q.from_ q.frame.dst).1.map (Qw n dom q.frame)++(Da n fw (learnQ t q now) dom q.from_ q.frame.dst).2.1.map (T7 n dom q.frame),0)
end Go.Sy.YtljngfegfclkpaaGreat
namespace Go.Sy.YtljngfegfclkpaaGreat
open Go.Proofs
attribute [local irreducible] Go.Sy.G Go.Sy.DR
set_option maxRecDepth 100000
set_option maxHeartbeats 4000000
theorem Qg (l:List UInt8) (hl:l.length<2147483648):Sp 217 [.sl 1 Al l] (.sl 1 Al l):=cT F217 Tryz.ntmps217 λ F hF=>by
 conv=>whnf
 refine Du E (.inl E) E E E .sl E E ?_
 intro b hb
 cases b
 ·refine oF ?_
  refine Ag (Ah Γ.toTy 7 E E E E E (.lit (e:=Al) (l:=[]) E E) .sl y_ (by simp;omega) (by simp;omega)) E E ?_
  refine Ai 7 E ?_
  refine oO ?_
  exact dN
 ·have h0:l=[]:=zQ (hb rfl)
  subst h0
  refine oT ?_
  refine Ao 2 1 Al E ?_
  exact dN
theorem cut6 (b:List UInt8) (k j:Nat) (hj:j<6) (h:k+6≤b.length):E2 (((b.drop k).take 6).take (j+1))=E2 (((b.drop k).take 6).take j) * 256+(b[k+j]'q_).toNat:=by
 rw[Ar7 _ (by rw[zU,yN];omega)]
 congr 2
 rw[xV,wZ]
theorem Akr (b:List UInt8) (k:Nat) (h:k+6≤b.length) (hb:b.length<100000):Sp 101 [.sl 1 Al b,Aa k] (.tup [Bb (E2 ((b.drop k).take 6)),Ac true]):=cT F101 Tryz.ntmps101 λ F hF=>by
 ((conv=>whnf);refine aF ?_;refine rg ?_;conv=>whnf)
 refine iW ?_
 (refine⟨λ h=>False.elim (by simp at h;omega),λ _=>?_⟩;refine rg ?_;conv=>whnf)
 refine A5 6 (λ j=>[(0,.sl 1 Al b),(1,Aa k),(6,Bb (E2 (((b.drop k).take 6).take j))),(17,Aa j)]) (λ _=>[]) [] ⟨⟨E,E,E,E,E,E,E,E,Y⟩,Y,E,E⟩ ?_
 intro j hj
 have hlt2:=On _ (((b.drop k).take 6).take j) rfl
 refine oO ?_
 constructor<;>intro h2
 ·have hj6:j<6:=by have:=zK h2;omega
  have hs:=cut6 b k j hj6 h
  have hll:(((b.drop k).take 6).take j).length=j:=by rw[zU,zU,yN];omega
  rw[hll]at hlt2
  have h5:E2 (((b.drop k).take 6).take j)<1099511627776:=yO hlt2 (by
   have:(256:Nat) ^ j≤256 ^ 5:=vD j_ q_
   exact this)
  have hi0:((k:Int)+(j:Int)).toNat<b.length:=by omega
  obtain ⟨c,hc⟩:∃ c,b[((k:Int)+(j:Int)).toNat]'hi0=c:=⟨_,rfl⟩
  have hc':b[k+j]'q_=c:=by rw[← hc];congr 1
  rw[hc']at hs
  have hcat:=Azm _ c h5
  refine oO ?_
  refine⟨by decide,?_⟩
  conv=>whnf
  refine iW ?_
  refine⟨E,by omega,hi0,?_⟩
  rw[hc]
  conv=>whnf
  refine iW ?_
  exact Ax [] hj6 ⟨⟨E,E,E,E,zD (λ z:Int=>SV.val (.int .u64 z)) (hcat.trans (zD Int.ofNat hs.symm)).symm,E,E,E,Y⟩,Y,E,E⟩
 ·have hj6:j=6:=by have:=zN h2;omega
  subst hj6
  rw[List.take_take,Nat.min_self]
  refine oO ?_
  exact dN
theorem Ae6 (a b:UInt8):E2 [a,b]=a.toNat * 256+b.toNat:=by simp[E2]
theorem V4 {b:List UInt8} {k:Nat} (h:k+2≤b.length):(b.drop k).take 2=[b[k]'q_,b[k+1]'q_]:=by
 rw[yI (by omega:k<b.length),yI (by omega:k+1<b.length)];rfl
theorem Qb (b:List UInt8) (hb:b.length<100000):Sp 42 [.sl 1 Al b] (.tup [Cw (takeF b).1,Aa (takeF b).2]):=cT F42 Tryz.ntmps42 λ F hF=>by
 have hres:=takeF.eq_1 b
 generalize takeF b=res at *
 conv=>whnf
 constructor<;>intro h
 ·rw[zC (qA h)]at hres
  subst hres
  refine oO ?_
  refine Am 2 [Bb 0,Bb 0,Aa 0,.sl 1 Al []] E vL ?_
  exact dN
 rw[zA (qB h)]at hres
 have h14:14≤b.length:=qB h
 refine oO ?_
 constructor<;>intro h
 ·rw[zC (qA h)]at hres
  subst hres
  refine oO ?_
  refine Am 2 [Bb 0,Bb 0,Aa 0,.sl 1 Al []] E vL ?_
  exact dN
 rw[zA (qB h)]at hres
 have q1:=Akr b 0 q_ hb
 have q2:=Akr b 6 q_ hb
 rw[V4 q_,Ae6]at hres
 have hp:=H1 (b[12]'q_) (b[13]'q_)
 have hdl:(b.drop 14).length=b.length-14:=yN
 have hn:((b.length:Int)-14)=((b.length-14:Nat):Int):=by omega
 have hcp:(b.drop 14).take (List.replicate (b.length-14) (0:UInt8)).length++(List.replicate (b.length-14) (0:UInt8)).drop (b.drop 14).length=b.drop 14:=by
  have e1:(List.replicate (b.length-14) (0:UInt8)).drop (b.length-14)=[]:=uT y_
  rw[xM,hdl,e1,xJ]
  exact yX q_
 have etk:(b.take b.length).drop 14=b.drop 14:=by rw[yG]
 have i12:(12:Int).toNat<b.length:=by show 12<_;omega
 have i13:(13:Int).toNat<b.length:=by show 13<_;omega
 refine oO ?_
 refine c0 q1 F101 ?_
 refine oO ?_
 refine c0 q2 F101 ?_
 refine oO ?_
 refine iW ?_
 refine Ag (Bw Γ.toTy (d:=32) (n:=b.length-14) Al 0 E E E E E E (zD (λ z=>SV.val (.int .i64 z)) hn) (zD (λ z=>SV.val (.int .i64 z)) hn) q_ q_ E E E) E E ?_
 refine oO ?_
 refine Ag (Dk (lo:=14) (hi:=b.length) Γ.toTy E E E E (.inr ⟨_,_,E,E⟩) (.inl ⟨E,E⟩) q_ (zZ _)) E E ?_
 rw[etk]
 refine oO ?_
 refine Ag (Y2 Γ.toTy E E E E E .sl) E E ?_
 rw[hcp]
 refine Ai 32 E ?_
 refine oO ?_
 refine⟨E,by decide,i12,?_⟩
 conv=>whnf
 refine⟨by decide,?_⟩
 conv=>whnf
 refine⟨E,by decide,i13,?_⟩
 conv=>whnf
 refine kW ?_
 refine Ap E (.cons (.cell E E E E) (.cons .tmp .nil)) ?_ E
 rw[hres]
 show SV.tup [.agg [_,_,Aa ((b[12].toNat * 256+b[13].toNat:Nat):Int),_],_]=_
 rw[← hp]
 rfl
theorem Lt (m:Nat) (h:m<18446744073709551616):Sp 149 [Bb m] (Ac (Dh m)):=cT F149 Tryz.ntmps149 λ F hF=>by
 have e:=Af3 m h
 refine fW ?_
 refine Ap E (.cons .tmp .nil) ?_ E
 exact zD Ac e.symm
theorem Tm (f:FrameM):Sp 102 [Cw f] (Ac (decide (f.typ=33024))):=cT F102 Tryz.ntmps102 λ F hF=>by
 conv=>whnf
 refine Ap E (.cons .tmp .nil) ?_ E
 refine zD Ac ?_
 rw[xO];simp;omega
theorem Qd (p:Port) (tg:Bool) (vid:Int) (hl:Ak p.tagged):Sp 150 [Aw p,Ac tg,Aa vid] (.tup [Aa (vlanT p tg vid).1,Ac (vlanT p tg vid).2]):=cT F150 Tryz.ntmps150 λ F hF=>by
 have hres:=vlanT.eq_1 p tg vid
 generalize vlanT p tg vid=res at *
 have q:=Dp p.tagged vid hl
 have hz:decide (p.native≠0)=(p.native != 0):=by rw[xO];simp
 rw[hz]at hres
 cases tg
 ·rw[zC (.inl rfl)]at hres
  subst hres
  ((conv=>whnf);refine aT ?_;refine rg ?_;conv=>whnf)
  refine kW ?_
  exact dN
 ((conv=>whnf);refine aF ?_;refine rg ?_;conv=>whnf)
 constructor<;>intro h
 ·rw[zC (.inr (by simpa using h))]at hres
  subst hres
  refine oO ?_
  refine kW ?_
  exact dN
 rw[zA (by simpa using h)]at hres
 refine oO ?_
 refine c0 q F21 ?_
 cases hi:inB p.tagged vid
 ·rw[zA (by simp[hi])]at hres
  subst hres
  refine oF ?_
  exact dN
 ·rw[zC hi]at hres
  subst hres
  refine oT ?_
  exact dN
theorem Ay2 (n:Nat) (h:n<9223372036854775808):bits .and .i64 (n:Int) 4095=((n % 4096:Nat):Int):=by
 have:=J0 n 4095 h j_
 rw[show ((4095:Nat):Int)=4095 from rfl]at this
 rw[this]
 have h2:=vQ n 12
 rw[show 2 ^ 12-1=4095 from rfl,show 2 ^ 12=4096 from rfl]at h2
 rw[h2]
theorem Ayz {b:List UInt8} (h:4≤b.length):b.take 2=[b[0]'q_,b[1]'q_]∧(b.drop 2).take 2=[b[2]'q_,b[3]'q_]:=by
 have h1:=V4 (b:=b) (k:=0) q_
 have h2:=V4 (b:=b) (k:=2) q_
 exact⟨h1,h2⟩
abbrev zF:List SV:=[Bb 0,Bb 0,Aa 0,.sl 1 Al []]
theorem Asc (f:FrameM) (hb:f.body.length<100000):Sp 148 [Cw f] (.tup [Cw (stripT f).1,Aa (stripT f).2.1,Aa (stripT f).2.2.1,Aa (stripT f).2.2.2]):=cT F148 Tryz.ntmps148 λ F hF=>by
 have hres:=stripT.eq_1 f
 generalize stripT f=res at *
 have q0:=Tm f
 obtain ⟨d,s,t,b⟩:=f
 dsimp only at hres hb q0
 conv=>whnf
 refine c0 q0 F102 ?_
 by_cases ht:t=33024
 rotate_left
 ·rw[zC ht]at hres
  subst hres
  rw[zJ ht]
  refine oT ?_
  refine Am 2 zF E vL ?_
  exact dN
 rw[zA (by simpa using ht)]at hres
 rw[zL ht]
 refine oF ?_
 constructor<;>intro h
 ·rw[zC (by have:=zK h;dsimp only at this;omega)]at hres
  subst hres
  refine oO ?_
  refine Am 2 zF E vL ?_
  exact dN
 have h4:4≤b.length:=by have:=zN h;dsimp only at this;omega
 rw[zA q_,(Ayz h4).1,(Ayz h4).2,Ae6,Ae6]at hres
 have c1:=Qg (b.drop 4) (by rw[yN];omega)
 have etk:(b.take b.length).drop 4=b.drop 4:=by rw[yG]
 rw[← etk]at c1
 have i0:(0:Int).toNat<b.length:=by show 0<_;omega
 have i1:(1:Int).toNat<b.length:=by show 1<_;omega
 have i2:(2:Int).toNat<b.length:=by show 2<_;omega
 have i3:(3:Int).toNat<b.length:=by show 3<_;omega
 have e0:b[(0:Int).toNat]'i0=b[0]'q_:=rfl
 have e1:b[(1:Int).toNat]'i1=b[1]'q_:=rfl
 have e2:b[(2:Int).toNat]'i2=b[2]'q_:=rfl
 have e3:b[(3:Int).toNat]'i3=b[3]'q_:=rfl
 have hp1:=H1 (b[0]'q_) (b[1]'q_)
 have hp2:=H1 (b[2]'q_) (b[3]'q_)
 have l0:=(b[0]'q_).toNat_lt
 have l1:=(b[1]'q_).toNat_lt
 obtain ⟨P,hP⟩:∃ P,(b[0]'q_).toNat * 256+(b[1]'q_).toNat=P:=⟨_,rfl⟩
 obtain ⟨Q,hQ⟩:∃ Q,(b[2]'q_).toNat * 256+(b[3]'q_).toNat=Q:=⟨_,rfl⟩
 have hPl:P<65536:=by omega
 rw[hP]at hp1 hres
 rw[hQ]at hp2 hres
 have ha:=Ay2 P q_
 have hs:(P:Int).fdiv (2 ^ (min (Int.toNat 12) IntKind.i64.bits))=((P / 4096:Nat):Int):=Aqo P 12 j_
 refine oO ?_
 refine⟨E,by decide,i0,?_⟩
 rw[e0]
 conv=>whnf
 refine⟨by decide,?_⟩
 conv=>whnf
 refine⟨E,by decide,i1,?_⟩
 rw[e1]
 conv=>whnf
 refine⟨z_,?_⟩
 rw[hp1]
 conv=>whnf
 refine⟨E,by decide,i2,?_⟩
 rw[e2]
 conv=>whnf
 refine⟨by decide,?_⟩
 conv=>whnf
 refine⟨E,by decide,i3,?_⟩
 rw[e3]
 conv=>whnf
 refine⟨z_,?_⟩
 rw[hp2]
 conv=>whnf
 refine⟨by decide,?_⟩
 rw[ha,hs]
 conv=>whnf
 constructor<;>intro h
 ·rw[zC (.inl (qA h))]at hres
  subst hres
  refine oO ?_
  refine Am 2 zF E vL ?_
  exact dN
 have h5:¬ 4094<P % 4096:=qB h
 refine oO ?_
 constructor<;>intro h
 ·rw[zC (.inr (by have:(Q:Int)=33024:=(by simpa using h);omega))]at hres
  subst hres
  refine oO ?_
  refine Am 2 zF E vL ?_
  exact dN
 have h6:¬ Q=33024:=λ e=>by rw[e]at h;simp at h
 rw[zA q_]at hres
 subst hres
 refine oO ?_
 refine Bs (Dk (lo:=4) (hi:=b.length) Γ.toTy E E E E (.inr ⟨_,_,E,E⟩) (.inl ⟨E,E⟩) h4 (zZ _)) z_ E ?_
 refine oD ?_
 refine cD c1 F217 ?_
 refine oD ?_
 refine kW ?_
 refine Ap E (.cons (.cell E E E E) (.cons .tmp (.cons .tmp (.cons .tmp .nil)))) ?_ E
 show SV.tup [.agg [_,_,_,.sl 1 Al (b.drop 4)],_,_,_]=SV.tup [.agg [_,_,_,.sl 1 Al ((b.take b.length).drop 4)],_,_,_]
 rw[etk]
 rfl
theorem Ld (f:FrameM) (h:FrameOK f):Sq 29 [Cw f] [] (.tup [.osl 0,Aa 0]) [(0,.row 1 Al (Jw f))]:=Alx f.dst f.src f.typ f.body h.dst h.src h.typ h.body
theorem Ajk (f:FrameM) (v:Nat) (h:FrameOK f) (hv:v≤4094):Sp 43 [Cw f,Aa v,Aa 0] (.tup [Cw (tagT f v).1,Aa (tagT f v).2]):=by
 have hres:=tagT.eq_1 f v
 have q0:=Tm f
 obtain ⟨d,s,t,b⟩:=f
 have h1:=h.typ
 have h2:=h.body
 dsimp only at hres q0 h1 h2
 by_cases ht:t=33024
 ·rw[zC ht]at hres
  rw[hres]
  rw[zL ht]at q0
  refine Xq Γ hm 100 F43 Tryz.ntmps43 E λ F hF=>by
   conv=>whnf
   refine c0 q0 F102 ?_
   (refine oT ?_;refine bT ?_;refine bT ?_;refine bT ?_;refine bT ?_)
   refine Am 6 zF E vL ?_
   exact dN
 rw[zA ht]at hres
 by_cases hb:1500<b.length
 ·rw[zC hb]at hres
  rw[hres]
  rw[zJ ht]at q0
  refine Xq Γ hm 100 F43 Tryz.ntmps43 E λ F hF=>by
   conv=>whnf
   refine c0 q0 F102 ?_
   (refine oF ?_;refine bF ?_)
   (refine⟨λ h=>False.elim (by simp at h;omega),λ _=>?_⟩;refine rg ?_;(conv=>whnf);refine aF ?_;refine rg ?_;(conv=>whnf);refine aF ?_;refine rg ?_;(conv=>whnf);refine aF ?_;refine rg ?_;(conv=>whnf);refine⟨λ h=>False.elim (by simp at h;omega),λ _=>?_⟩;refine rg ?_;(conv=>whnf);refine⟨λ _=>?_,λ h=>False.elim (by simp at h;omega)⟩;refine rg ?_;conv=>whnf)
   refine Am 6 zF E vL ?_
   exact dN
 rw[zA hb]at hres
 rw[hres]
 exact Azp d s t v b ht h1 hv q_
theorem Asb {b:List UInt8} (h:(takeF b).2≠0):(takeF b).1=noF:=by
 unfold takeF at h ⊢
 split
 ·rfl
 rw[zA (by assumption)]at h
 split
 ·rfl
 rw[zA (by assumption)]at h
 exact zW E h
theorem Abe {b:List UInt8} (h:(takeF b).2=0):FrameOK (takeF b).1:=by
 unfold takeF at h ⊢
 split
 ·rw[zC (by assumption)]at h;cases h
 rw[zA (by assumption)]at h
 split
 ·rw[zC (by assumption)]at h;cases h
 rename_i h1 h2
 have l1:((b.take 6).length)=6:=by rw[zU];omega
 have l2:(((b.drop 6).take 6).length)=6:=by rw[zU,yN];omega
 have l3:(((b.drop 12).take 2).length)=2:=by rw[zU,yN];omega
 have a1:=On _ _ l1
 have a2:=On _ _ l2
 have a3:=On _ _ l3
 refine⟨a1,a2,?_,?_⟩
 ·dsimp only;exact Nat.le_of_lt_succ a3
 ·dsimp only;rw[yN];omega
theorem Av2 {f:FrameM} (hf:FrameOK f) (h:(stripT f).2.2.2=0):FrameOK (stripT f).1:=by
 unfold stripT at h ⊢
 split
 ·rw[zC (by assumption)]at h;cases h
 rw[zA (by assumption)]at h
 split
 ·rw[zC (by assumption)]at h;cases h
 rw[zA (by assumption)]at h
 split
 ·rw[zC (by assumption)]at h;cases h
 rename_i h1 h2 h3
 have l3:(((f.body.drop 2).take 2).length)=2:=by rw[zU,yN];omega
 have a3:=On _ _ l3
 have hb:=hf.body
 refine⟨hf.dst,hf.src,?_,?_⟩
 ·dsimp only;exact Nat.le_of_lt_succ a3
 ·dsimp only;rw[yN];omega
theorem strip_bad {f:FrameM} (h:(stripT f).2.2.2≠0):(stripT f).1=noF∧(stripT f).2.1=0:=by
 unfold stripT at h ⊢
 split
 ·exact⟨E,E⟩
 rw[zA (by assumption)]at h
 split
 ·exact⟨E,E⟩
 rw[zA (by assumption)]at h
 split
 ·exact⟨E,E⟩
 rw[zA (by assumption)]at h
 exact zW E h
theorem Alz (n:Net) (hn:n.Fin) (port:Int) (b:List UInt8) (hb:b.length<100000) :
  Sp 92 [Aj n,Aa port,.sl 1 Al b] (.tup [Aa (enterT n port b).1,Cw (enterT n port b).2.1,Aa (enterT n port b).2.2]):=cT F92 Tryz.ntmps92 λ F hF=>by
 have hres:=enterT.eq_1 n port b
 generalize enterT n port b=res at *
 have hr:=Av n hn
 refine fW ?_
 by_cases hneg:port<0
 ·rw[zC (.inl (by rw[Af,zJ q_];rfl))]at hres
  subst hres
  (repeat (first | (refine⟨λ h=>False.elim (by first | (exact zW h j_) | (simp at h;done) | (simp at h;omega)),λ _=>?_⟩;(refine fU ?_)) | (refine⟨λ _=>?_,λ h=>False.elim (by first | (exact zW h j_) | (simp at h;done) | (simp at h;omega))⟩;(refine fU ?_))))
  refine Am 7 zF E vL ?_
  exact dN
 refine⟨λ h=>zW (zK h) hneg,λ _=>?_⟩
 refine Az 3 8 (Aj n) E E E ?_
 by_cases hge:(n.ports.length:Int)≤port
 ·rw[zC (.inl (by rw[Af,zJ (by omega:¬ port<_),wR]))]at hres
  subst hres
  refine fU ?_
  (repeat (first | (refine⟨λ h=>False.elim (by first | (exact zW h j_) | (simp at h;done) | (simp at h;omega)),λ _=>?_⟩;(refine fU ?_)) | (refine⟨λ _=>?_,λ h=>False.elim (by first | (exact zW h j_) | (simp at h;done) | (simp at h;omega))⟩;(refine fU ?_))))
  refine Am 7 zF E vL ?_
  exact dN
 have hpl:Af port n.ports.length=true:=by rw[Af,zL q_,zL q_];rfl
 refine fU ?_
 (refine⟨λ h=>False.elim (by first | (exact zW h j_) | (simp at h;done) | (simp at h;omega)),λ _=>?_⟩;(refine fU ?_))
 refine c0 hr F19 ?_
 cases hbn:Ab n
 ·rw[zC (.inr hbn)]at hres
  subst hres
  refine fU ?_
  refine Am 7 zF E vL ?_
  exact dN
 rw[zA (by simp[hbn,hpl])]at hres
 have hp0:0≤port:=by omega
 have hk:port.toNat<n.ports.length:=by omega
 have e1:nth n.ports port=n.ports[port.toNat]:=Ae hk
 have hsh:=hn.tagged _ (zE hk)
 obtain ⟨p,hp⟩:∃ p,n.ports[port.toNat]'hk=p:=⟨_,rfl⟩
 rw[hp]at e1 hsh
 have qt:=Qb b hb
 have hto:=@Abe b
 have htb:=@Asb b
 generalize takeF b=tf at *
 obtain ⟨f,e⟩:=tf
 dsimp only at hres qt hto htb
 have qi:=Tm f
 refine fU ?_
 refine c0 qt F42 ?_
 refine fU ?_
 refine c0 qi F102 ?_
 by_cases he:e=0
 rotate_left
 ·rw[zC he]at hres
  subst hres
  obtain rfl:=htb he
  refine fU ?_
  (refine⟨λ h=>False.elim (by first | (exact zW h j_) | (simp at h;done) | (simp at h;omega)),λ _=>?_⟩;(refine fU ?_))
  (refine⟨λ h=>False.elim (by first | (exact zW h j_) | (simp at h;done) | (simp at h;omega)),λ _=>?_⟩;(refine fU ?_))
  refine⟨E,hp0,hk,?_⟩
  rw[hp]
  refine fW ?_
  refine c0 (Qd p false 0 hsh) F150 ?_
  refine fU ?_
  (repeat (first | (refine⟨λ h=>False.elim (by first | (exact zW h j_) | (simp at h;done) | (simp at h;omega)),λ _=>?_⟩;(refine fU ?_)) | (refine⟨λ _=>?_,λ h=>False.elim (by first | (exact zW h j_) | (simp at h;done) | (simp at h;omega))⟩;(refine fU ?_))))
  refine Am 7 zF E vL ?_
  exact dN
 subst he
 rw[zA j_]at hres
 have hfo:=hto rfl
 by_cases ht:f.typ=33024
 ·rw[zC ht]at hres
  rw[zL ht]
  have qs:=Asc f (by have:=hfo.body;omega)
  have hso:=@Av2 f hfo
  have hsb:=@strip_bad f
  generalize stripT f=st at *
  obtain ⟨g,vid,prio,e2⟩:=st
  dsimp only at hres qs hso hsb
  refine fU ?_
  refine c0 qs F148 ?_
  by_cases he2:e2=0
  rotate_left
  ·rw[zC he2]at hres
   subst hres
   obtain ⟨rfl,rfl⟩:=hsb he2
   refine fU ?_
   (refine⟨λ h=>False.elim (by first | (exact zW h j_) | (simp at h;done) | (simp at h;omega)),λ _=>?_⟩;(refine fU ?_))
   refine⟨E,hp0,hk,?_⟩
   rw[hp]
   refine fW ?_
   refine c0 (Qd p true 0 hsh) F150 ?_
   refine fU ?_
   (repeat (first | (refine⟨λ h=>False.elim (by first | (exact zW h j_) | (simp at h;done) | (simp at h;omega)),λ _=>?_⟩;(refine fU ?_)) | (refine⟨λ _=>?_,λ h=>False.elim (by first | (exact zW h j_) | (simp at h;done) | (simp at h;omega))⟩;(refine fU ?_))))
   refine Am 7 zF E vL ?_
   exact dN
  subst he2
  rw[zA j_]at hres
  have hgo:=hso rfl
  have hgs:=hgo.src
  have qg:=Lt g.src q_
  rw[Ip,e1]at hres
  have qv:=Qd p true vid hsh
  have qd:=Jb n hn p.dev (vlanT p true vid).1
  refine fU ?_
  refine c0 qg F149 ?_
  cases hgb:Dh g.src
  rotate_left
  ·rw[zC hgb]at hres
   subst hres
   refine fU ?_
   refine⟨E,hp0,hk,?_⟩
   rw[hp]
   refine fW ?_
   refine c0 qv F150 ?_
   refine fU ?_
   (repeat (first | (refine⟨λ h=>False.elim (by first | (exact zW h j_) | (simp at h;done) | (simp at h;omega)),λ _=>?_⟩;(refine fU ?_)) | (refine⟨λ _=>?_,λ h=>False.elim (by first | (exact zW h j_) | (simp at h;done) | (simp at h;omega))⟩;(refine fU ?_))))
   refine Am 7 zF E vL ?_
   exact dN
  rw[zA (by simp[hgb])]at hres
  refine fU ?_
  refine⟨E,hp0,hk,?_⟩
  rw[hp]
  refine fW ?_
  refine c0 qv F150 ?_
  generalize vlanT p true vid=vl at *
  obtain ⟨vl,vok⟩:=vl
  dsimp only at hres qd ⊢
  cases vok
  ·rw[zC rfl]at hres
   subst hres
   refine fU ?_
   refine Am 7 zF E vL ?_
   exact dN
  rw[zA y_]at hres
  subst hres
  refine fU ?_
  refine cD qd F62 ?_
  refine fU ?_
  refine⟨z_,?_⟩
  refine fW ?_
  exact dN
 ·rw[zA ht]at hres
  rw[zJ ht]
  have hgo:=hfo
  have hgs:=hgo.src
  have qg:=Lt f.src q_
  rw[Ip,e1]at hres
  have qv:=Qd p false 0 hsh
  have qd:=Jb n hn p.dev (vlanT p false 0).1
  refine fU ?_
  refine c0 qg F149 ?_
  cases hgb:Dh f.src
  rotate_left
  ·rw[zC hgb]at hres
   subst hres
   refine fU ?_
   refine⟨E,hp0,hk,?_⟩
   rw[hp]
   refine fW ?_
   refine c0 qv F150 ?_
   refine fU ?_
   (repeat (first | (refine⟨λ h=>False.elim (by first | (exact zW h j_) | (simp at h;done) | (simp at h;omega)),λ _=>?_⟩;(refine fU ?_)) | (refine⟨λ _=>?_,λ h=>False.elim (by first | (exact zW h j_) | (simp at h;done) | (simp at h;omega))⟩;(refine fU ?_))))
   refine Am 7 zF E vL ?_
   exact dN
  rw[zA (by simp[hgb])]at hres
  refine fU ?_
  refine⟨E,hp0,hk,?_⟩
  rw[hp]
  refine fW ?_
  refine c0 qv F150 ?_
  generalize vlanT p false 0=vl at *
  obtain ⟨vl,vok⟩:=vl
  dsimp only at hres qd ⊢
  cases vok
  ·rw[zC rfl]at hres
   subst hres
   refine fU ?_
   refine Am 7 zF E vL ?_
   exact dN
  rw[zA y_]at hres
  subst hres
  refine fU ?_
  refine cD qd F62 ?_
  refine fU ?_
  refine⟨z_,?_⟩
  refine fW ?_
  exact dN
theorem Ci {i:Int} {n:Nat} (h:Af i n=true):0≤i∧i<n:=by simpa [Af] using h
theorem Mf (i:Int) (n:Nat):Sp 228 [Aa i,Aa n] (Ac (Af i n)):=cT F228 Tryz.ntmps228 λ F hF=>by
 conv=>whnf
 (repeat' (first | (refine⟨λ h=>?_,λ h=>?_⟩<;>(repeat (first | simp only[zG]at h | simp only[zV]at h))<;>((refine oO ?_))) | (refine Ap rfl (.cons .tmp .nil) ?_ rfl)))
 all_goals (refine zD Ac ?_)
 all_goals grind [Af]
theorem Aox (n:Net) (f:FrameM) (h:FrameOK f) (v:Int):Sp 230 [Aj n,Cw f,Aa v] (.tup [.sl 1 Al (Jw f),Aa 0]):=cT F230 Tryz.ntmps230 λ F hF=>by
 conv=>whnf
 refine Ag (Ad [(0,55)] E F29 (Ld f h) E Y E ⟨.inr E,Y⟩) E E ?_
 refine Ai 55 E ?_
 refine oO ?_
 exact dN
theorem Avz {f:FrameM} (hf:FrameOK f) (v:Nat) (_hv:v≤4094) (h:(tagT f v).2=0):FrameOK (tagT f v).1:=by
 unfold tagT at h ⊢
 split
 ·rw[zC (by assumption)]at h;cases h
 rw[zA (by assumption)]at h
 split
 ·rw[zC (by assumption)]at h;cases h
 refine⟨hf.dst,hf.src,?_,?_⟩
 ·show (33024:Nat)≤65535;decide
 ·dsimp only;simp;omega
theorem Ahy (n:Net) (f:FrameM) (h:FrameOK f) (v:Nat) (hv:v≤4094) :
  Sp 229 [Aj n,Cw f,Aa v] (.tup [.sl 1 Al (if (tagT f v).2≠0 then [] else Jw (tagT f v).1),Aa (if (tagT f v).2≠0 then (tagT f v).2 else 0)]):=by
 have q:=Ajk f v h hv
 have ho:=Avz h v hv
 generalize tagT f v=t at *
 obtain ⟨g,e⟩:=t
 dsimp only at q ho ⊢
 refine Xq Γ hm 100 F229 Tryz.ntmps229 E λ F hF=>by
  conv=>whnf
  refine c0 q F43 ?_
  refine oO ?_
  by_cases he:e=0
  ·subst he
   (refine⟨λ h=>False.elim (zW h j_),λ _=>?_⟩;refine rg ?_;conv=>whnf)
   refine Az 8 4 (Cw g) E E E ?_
   refine oO ?_
   refine Ag (Ad [(0,55)] E F29 (Ld g (ho E)) E Y E ⟨.inr E,Y⟩) E E ?_
   refine Ai 55 E ?_
   refine oO ?_
   exact dN
  ·rw[zC he,zC he]
   (refine⟨λ _=>?_,λ h=>False.elim (by simp at h;omega)⟩;refine rg ?_;conv=>whnf)
   refine Ao 6 1 Al E ?_
   exact dN
theorem Vr {n:Net} (h:Ab n=true) {i:Nat} (hi:i<n.domains.length):1≤n.domains[i].vlan∧n.domains[i].vlan≤4094:=by
 simp only[Ab,zB]at h
 have hb:Ha (L4 n) n.domains=true:=h.1.1.1.1.1.1.1.2
 have:=allB_iff.1 hb i hi
 simp only[L4,zB,zG]at this
 omega
theorem Axr (n:Net) (hn:n.Fin) (port dom:Int) (f:FrameM) (h:FrameOK f) :
  Sp 159 [Aj n,Aa port,Aa dom,Cw f] (.tup [.sl 1 Al (leaveT n port dom f).1,Aa (leaveT n port dom f).2]):=cT F159 Tryz.ntmps159 λ F hF=>by
 have hres:=leaveT.eq_1 n port dom f
 generalize leaveT n port dom f=res at *
 have hr:=Av n hn
 have hpS:=Mf port n.ports.length
 have hdS:=Mf dom n.domains.length
 conv=>whnf
 refine c0 hpS F228 ?_
 cases hpl:Af port n.ports.length
 ·rw[zC (.inl hpl)]at hres
  subst hres
  (refine oT ?_;refine bT ?_;refine bT ?_)
  refine Ao 8 1 Al E ?_
  exact dN
 refine oF ?_
 refine c0 hdS F228 ?_
 cases hdl:Af dom n.domains.length
 ·rw[zC (.inr (.inl hdl))]at hres
  subst hres
  (refine oT ?_;refine bT ?_)
  refine Ao 8 1 Al E ?_
  exact dN
 refine oF ?_
 refine c0 hr F19 ?_
 cases hbn:Ab n
 ·rw[zC (.inr (.inr hbn))]at hres
  subst hres
  refine oT ?_
  refine Ao 8 1 Al E ?_
  exact dN
 rw[zA (by simp[hbn,hpl,hdl])]at hres
 have hpi:=Ci hpl
 have hdi:=Ci hdl
 have hp0:0≤port:=hpi.1
 have hd0:0≤dom:=hdi.1
 have hk:port.toNat<n.ports.length:=by omega
 have hkd:dom.toNat<n.domains.length:=by omega
 have e1:nth n.ports port=n.ports[port.toNat]:=Ae hk
 have e2:nth n.domains dom=n.domains[dom.toNat]:=Ae hkd
 have hsh:=hn.tagged _ (zE hk)
 have hv:=Vr hbn hkd
 obtain ⟨p,hp⟩:∃ p,n.ports[port.toNat]'hk=p:=⟨_,rfl⟩
 obtain ⟨d,hd⟩:∃ d,n.domains[dom.toNat]'hkd=d:=⟨_,rfl⟩
 rw[hp]at e1 hsh
 rw[hd]at e2 hv
 rw[e1,e2]at hres
 have qm:=Wt p d.vlan hsh
 refine oF ?_
 refine⟨E,hp0,hk,E,hd0,hkd,?_⟩
 rw[hp,hd]
 conv=>whnf
 refine kW ?_
 constructor<;>intro h1
 ·rw[zC (.inl (by simpa using h1))]at hres
  subst hres
  refine oT ?_
  refine Ao 8 1 Al E ?_
  exact dN
 refine Az 10 7 (Aw p) E E E ?_
 refine oO ?_
 refine c0 qm F66 ?_
 cases hm1:Ce p d.vlan
 ·rw[zC (.inr hm1)]at hres
  subst hres
  refine oT ?_
  refine Ao 8 1 Al E ?_
  exact dN
 rw[zA (by simp at h1;simp[hm1,h1])]at hres
 have qt:=Tm f
 by_cases ht:f.typ=33024
 ·rw[zC ht]at hres
  subst hres
  rw[zL ht]at qt
  refine oF ?_
  refine c0 qt F102 ?_
  refine oT ?_
  refine Ao 8 1 Al E ?_
  exact dN
 rw[zA ht]at hres
 rw[zJ ht]at qt
 refine oF ?_
 refine c0 qt F102 ?_
 refine oF ?_
 constructor<;>intro h2
 ·rw[zC (by simpa using h2)]at hres
  subst hres
  refine oO ?_
  refine Eg ⟨⟨_,_,F230⟩,Aox n f h d.vlan⟩ E E E E E E ?_
  refine oO ?_
  exact dN
 rw[zA (by simpa using h2)]at hres
 refine oO ?_
 have hv0:(d.vlan.toNat:Int)=d.vlan:=by omega
 have qg:=Ahy n f h d.vlan.toNat q_
 rw[hv0]at qg
 refine Eg ⟨⟨_,_,F229⟩,qg⟩ E E E E E E ?_
 refine oO ?_
 by_cases he:(tagT f d.vlan).2=0
 ·rw[zA (by simpa using he)]at hres
  subst hres
  rw[zA (by simpa using he),zA (by simpa using he)]
  exact dN
 ·rw[zC he]at hres
  subst hres
  rw[zC he,zC he]
  exact dN
theorem inB_mem {l:List Int} {x:Int}:inB l x=true↔x∈l:=by
 simp[inB]
theorem Aov (n:Net) (hn:n.Fin) (port:Int) (b:List UInt8) (hb:b.length<100000) :
  Sp 163 [Aj n,Aa port,.sl 1 Al b] (.tup [Aa (linkT n port b).1,Aa (linkT n port b).2.1,Cw (linkT n port b).2.2.1,Aa (linkT n port b).2.2.2]):=cT F163 Tryz.ntmps163 λ F hF=>by
 have hres:=linkT.eq_1 n port b
 generalize linkT n port b=res at *
 have qo:=Wv n hn port
 have qe:=Alz n hn (Ay n port) b hb
 generalize Ay n port=o at *
 conv=>whnf
 refine c0 qo F234 ?_
 refine oO ?_
 constructor<;>intro h1
 ·rw[zC (by simpa using h1)]at hres
  subst hres
  refine oO ?_
  refine Am 8 zF E vL ?_
  exact dN
 rw[zA (by simpa using h1)]at hres
 refine oO ?_
 refine c0 qe F92 ?_
 generalize enterT n o b=en at *
 obtain ⟨x1,g,x2⟩:=en
 subst hres
 refine oO ?_
 refine kW ?_
 exact dN
end Go.Sy.YtljngfegfclkpaaGreat
namespace Go.Sy.YtljngfegfclkpaaGreat
open Go.Proofs
theorem Ml (l:List Nat):(C4 l).length=2 * l.length:=by
 induction l with
 | nil=>rfl
 | cons a l ih=>simp only[C4,wY,zI,yJ,xA]at ih ⊢;omega
theorem J6 (l:List Nat) (n:Nat):C4 (l++[n])=C4 l++[UInt8.ofNat (n / 256),UInt8.ofNat n]:=by simp[C4]
theorem M9 (b:List UInt8) (k m:Nat):numAt b k m<256 ^ m:=by
 have h:=On _ ((b.drop k).take m) rfl
 have h2:((b.drop k).take m).length≤m:=by rw[zU];omega
 exact yO h (vD j_ h2)
theorem Vh {b:List UInt8} {k:Nat} (h:k+2≤b.length):numAt b k 2=(b[k]'q_).toNat * 256+(b[k+1]'q_).toNat:=by
 rw[numAt,V4 h,Ae6]
theorem Aiw {b:List UInt8} {k:Nat} (h:k<b.length):bAt b k=b[k]:=Apd h
theorem Avy {b:List UInt8} {k:Nat} (h:k+3≤b.length):(b.drop k).take 3=[b[k]'q_,b[k+1]'q_,b[k+2]'q_]:=by
 rw[yI q_,yI (i:=k+1) q_,yI (i:=k+2) q_]
 rfl
theorem Avx {b:List UInt8} {k:Nat} (h:k+4≤b.length):(b.drop k).take 4=[b[k]'q_,b[k+1]'q_,b[k+2]'q_,b[k+3]'q_]:=by
 rw[yI q_,yI (i:=k+1) q_,yI (i:=k+2) q_,yI (i:=k+3) q_]
 rfl
theorem numAt3 {b:List UInt8} {k:Nat} (h:k+3≤b.length):numAt b k 3=((b[k]'q_).toNat * 256+(b[k+1]'q_).toNat) * 256+(b[k+2]'q_).toNat:=by
 rw[numAt,Avy h]
 simp[E2]
theorem Aoj {b:List UInt8} {k:Nat} (h:k+4≤b.length):numAt b k 4=numAt b k 2 * 65536+numAt b (k+2) 2:=by
 have e:b[k+2+1]'q_=b[k+3]'q_:=rfl
 rw[numAt,Avx h,Vh q_,Vh q_,e]
 simp[E2]
 omega
theorem Dm (f:FrameM):(Jw f).length=14+f.body.length:=by
 simp[Jw,frame,C1]
 omega
theorem Ic (p:PacketM) (s:Nat):(Er p s).length=20:=by rw[Er,Ml];rfl
theorem Hs (p:PacketM):(E7 p).length=20+p.body.length:=by rw[E7,zI,Ic]
theorem Q3 (s d:Nat) (b:List UInt8):(Aan s d b).length=8+b.length:=by rw[Aan,zI,Ml];rfl
theorem E1 (v:Nat):(Jj v).length=8:=rfl
theorem D3:FrameOK noF:=⟨by decide,by decide,by decide,by decide⟩
theorem Sx (ip:Nat) (h:ip<4294967296):hostN ip<281474976710656:=by rw[hostN,zR];omega
theorem Ael (n:Net) (port dom:Int) (f:FrameM) (hf:FrameOK f):(leaveT n port dom f).1.length≤1518:=by
 have h4:=hf.body
 unfold leaveT
 split
 ·simp
 split
 ·simp
 split
 ·simp
 split
 ·rw[Dm];omega
 split
 ·simp
 ·rw[Dm]
  rename_i h
  have h2:(tagT f (nth n.domains dom).vlan).2=0:=Classical.byContradiction h
  unfold tagT at h2 ⊢
  split
  ·rw[zC (by assumption)]at h2;cases h2
  rw[zA (by assumption)]at h2
  split
  ·rw[zC (by assumption)]at h2;cases h2
  ·dsimp only
   simp
   omega
theorem Acp {b:List UInt8} (h:(ipTakeT b).2=0):PacketOK (ipTakeT b).1∧(ipTakeT b).1.body.length+20≤b.length:=by
 unfold ipTakeT at h ⊢
 split
 ·rw[zC (by assumption)]at h;cases h
 rw[zA (by assumption)]at h
 split
 ·rw[zC (by assumption)]at h;cases h
 rw[zA (by assumption)]at h
 split
 ·rw[zC (by assumption)]at h;cases h
 rw[zA (by assumption)]at h
 split
 ·rw[zC (by assumption)]at h;cases h
 rw[zA (by assumption)]at h
 split
 ·rw[zC (by assumption)]at h;cases h
 have l1:=(bAt b 1).toNat_lt
 have l8:=(bAt b 8).toNat_lt
 have l9:=(bAt b 9).toNat_lt
 have n4:=M9 b 4 2
 have n12:=M9 b 12 4
 have n16:=M9 b 16 4
 refine⟨⟨?_,?_,?_,?_,?_,?_⟩,?_⟩
 ·show (bAt b 1).toNat≤255;omega
 ·show numAt b 4 2≤65535;omega
 ·show (bAt b 8).toNat≤255;omega
 ·show (bAt b 9).toNat≤255;omega
 ·exact n12
 ·exact n16
 ·show ((b.take (numAt b 2 2)).drop 20).length+20≤b.length
  rw[yN,zU]
  omega
theorem A1q {b:List UInt8} (h:(ipTakeT b).2≠0):(ipTakeT b).1=noP:=by
 unfold ipTakeT at h ⊢
 split
 ·rfl
 rw[zA (by assumption)]at h
 split
 ·rfl
 rw[zA (by assumption)]at h
 split
 ·rfl
 rw[zA (by assumption)]at h
 split
 ·rfl
 rw[zA (by assumption)]at h
 split
 ·rfl
 rw[zA (by assumption)]at h
 exact zW E h
theorem Aok:PacketOK noP:=⟨by decide,by decide,by decide,by decide,by decide,by decide⟩
theorem U4:∀ (l:List Nat) (j:Nat),j≤l.length→(∀ n∈l,n<4294967296)→L8 (C4 l) j=((l.take j).map (· % 65536)).sum
 | l,0,_,_=>by simp[L8]
 | l,j+1,h,hl=>by
  have ih:=U4 l j q_ hl
  have hj:j<l.length:=by omega
  have e1:(C4 l).getD (2 * j) 0=UInt8.ofNat (l[j] / 256)∧(C4 l).getD (2 * j+1) 0=UInt8.ofNat l[j]:=by
   clear ih hl
   induction l generalizing j with
   | nil=>simp at hj
   | cons a l ih2 =>
    cases j with
    | zero=>simp[C4]
    | succ j =>
     have:=ih2 j (by simpa using h) (by simpa using hj)
     rw[C4,wY,show 2 * (j+1)+1=(2 * j+1)+1+1 by omega,show 2 * (j+1)=2 * j+1+1 by omega]
     simpa [C4] using this
  rw[L8,ih,e1.1,e1.2,zY hj,wK,List.sum_append]
  have hx:=hl l[j] (zE hj)
  generalize l[j]=x at *
  simp only[xR,vR,List.sum_cons,List.sum_nil,Eb]
  omega
theorem Zj {p:PacketM} (hp:PacketOK p) (hb:p.body.length≤1480) (s:Nat) (hs:s≤65535):∀ n∈[17664+p.tos,20+p.body.length,p.id,0,p.ttl * 256+p.proto,s,p.src / 65536,p.src,p.dst / 65536,p.dst],n<4294967296:=by
 have h1:=hp.tos
 have h2:=hp.proto
 have h3:=hp.ttl
 have h4:=hp.id
 have h5:=hp.src
 have h6:=hp.dst
 intro n hn
 simp only[yB,wO,tI]at hn
 rcases hn with rfl | rfl | rfl | rfl | rfl | rfl | rfl | rfl | rfl | rfl<;>omega
theorem Ao4 (p:PacketM) (s:Nat):((Er p 0).set 10 (UInt8.ofNat (s / 256))).set 11 (UInt8.ofNat s)=Er p s:=by
 simp only[Er,C4,wY,List.flatMap_nil,wN,tL,tO,vZ]
theorem Avf (a b v:Nat) (f:FrameM) (ha:a<4294967296) (hb:b<4294967296):PacketOK (Jp a b v f):=⟨xP _,xP _,by show (64:Nat)≤255;decide,by show (17:Nat)≤255;decide,ha,hb⟩
theorem K1 (a b v:Nat) (f:FrameM):(Jp a b v f).body.length=30+f.body.length:=by
 simp only[Jp,Q3,zI,E1,Dm];omega
theorem Ags (a b:Nat) (v:Int) (f:FrameM):(wrapT a b v f).1.length≤1514:=by
 unfold wrapT
 split
 ·simp
 split
 ·simp
 split
 ·simp
 ·simp only[frame,zI,C1,Hs,K1,yJ,xA];omega
theorem Ahv (n:Net) (dom peer:Int) (f:FrameM):(meshT n dom peer f).1.length≤1514:=by
 unfold meshT
 split
 ·simp
 split
 ·simp
 ·exact Ags _ _ _ _
theorem Azc {b:List UInt8}:(udpTakeT b).2.2.1.length≤b.length:=by
 unfold udpTakeT
 repeat' split
 all_goals first | (simp;done) | (simp only[yN,zU];omega)
theorem vniT_body {b:List UInt8}:(vniT b).2.1.length≤b.length:=by
 unfold vniT
 repeat' split
 all_goals first | (simp;done) | (simp only[yN];omega)
theorem Yt (b:List UInt8):PacketOK (outerT b).1∧(outerT b).1.body.length≤b.length:=by
 unfold outerT
 split
 ·exact⟨Aok,by simp[noP]⟩
 split
 ·exact⟨Aok,by simp[noP]⟩
 split
 ·exact⟨Aok,by simp[noP]⟩
 ·rename_i h1 h2 h3
  have h4:(takeF b).2=0:=Classical.byContradiction h1
  have h5:(ipTakeT (takeF b).1.body).2=0:=Classical.byContradiction h3
  obtain ⟨h6,h7⟩:=Acp h5
  refine⟨h6,?_⟩
  have h8:(takeF b).1.body.length≤b.length:=by
   unfold takeF
   repeat' split
   all_goals simp[noF]
  dsimp only
  omega
theorem Afy (b:List UInt8):FrameOK (Kq b).2.1∧0≤(Kq b).1:=by
 unfold Kq
 repeat' split
 all_goals first | exact⟨D3,wG _⟩ | skip
 rename_i h1 h2 h3 h4 h5
 refine⟨Abe (Classical.byContradiction h4),?_⟩
 show 0≤(vniT (udpTakeT b).2.2.1).1
 unfold vniT
 repeat' split
 all_goals omega
theorem Abc (b:List UInt8):(B8 b).1<4294967296∧(B8 b).2.1<4294967296∧0≤(B8 b).2.2.1∧FrameOK (B8 b).2.2.2.1:=by
 unfold B8
 split
 ·exact⟨tY _,tY _,wG _,D3⟩
 split
 ·exact⟨tY _,tY _,wG _,D3⟩
 ·exact⟨(Yt b).1.src,(Yt b).1.dst,(Afy _).2,(Afy _).1⟩
theorem Agf (n:Net) (port:Int) (f:FrameM) (hf:FrameOK f) (tg:Bool) (vid:Int):FrameOK (Ip n port f tg vid).2.1:=by
 unfold Ip
 split
 ·exact D3
 split
 ·exact D3
 ·exact hf
theorem Y6 (n:Net) (port:Int) (b:List UInt8):FrameOK (enterT n port b).2.1:=by
 unfold enterT
 split
 ·exact D3
 split
 ·exact D3
 rename_i h1 h2
 have h3:=Abe (Classical.byContradiction h2)
 split
 ·split
  ·exact D3
  ·rename_i h5
   exact Agf _ _ _ (Av2 h3 (Classical.byContradiction h5)) _ _
 ·exact Agf _ _ _ h3 _ _
theorem Ak1 (n:Net) (port:Int) (b:List UInt8):FrameOK (linkT n port b).2.2.1:=by
 unfold linkT
 split
 ·exact D3
 ·exact Y6 _ _ _
theorem Al9 (n:Net) (b:List UInt8):FrameOK (comeT n b).2.2.1:=by
 unfold comeT
 split
 ·exact D3
 split
 ·exact D3
 split
 ·exact D3
 split
 ·exact D3
 ·exact(Abc b).2.2.2
theorem A0q (n:Net) (hm:n.Num) (irb:Int) (f:FrameM) (hin:∀ (d:Int),(lookT n irb d).2=true→0≤(lookT n irb d).1∧(lookT n irb d).1.toNat<n.irbs.length):FrameOK (hopT n irb f).2.1:=by
 unfold hopT
 split
 ·exact D3
 split
 ·exact D3
 split
 ·exact D3
 split
 ·exact D3
 split
 ·exact D3
 split
 ·exact D3
 rename_i h1 h2 h3 h4 h5 h6
 have hp:=(Acp (Classical.byContradiction h3)).1
 have hl:=hin ((ipTakeT f.body).1.dst:Int) (by simpa using h5)
 have ha:=hm.addr _ (zE hl.2)
 rw[← Ae hl.2]at ha
 refine⟨Sx _ hp.dst,?_,?_,?_⟩
 ·show hostN (nth n.irbs _).addr<_
  rw[hostN];omega
 ·show (2048:Nat)≤65535;decide
 ·show (E7 (Ah4 (ipTakeT f.body).1)).length≤1504
  rw[Hs]
  show 20+(ipTakeT f.body).1.body.length≤1504
  omega
end Go.Sy.YtljngfegfclkpaaGreat
