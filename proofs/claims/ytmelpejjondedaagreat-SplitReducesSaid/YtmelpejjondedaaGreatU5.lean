/-
  D2 KM K25 Sy30 Sy20 Sy21 Sy31 Sy32 Sy33 S3 K1 K2 K3 K4 K5 D0 K6 K7 K26 Sy24 T1 T2 T3 T4: parts of a proof, joined by program.
-/
import Derived.Test.YtmelpejjondedaaGreatU4
import Derived.Test.YtmelpejjondedaaGreatU3
import Derived.Test.YtmelpejjondedaaGreatU2
import Derived.ProofKit
import Derived.OpenShut
namespace Go.Sy.YtmelpejjondedaaGreat
open Go.Proofs
attribute [local irreducible] Go.Sy.G Go.Sy.DR
set_option maxRecDepth 20000
set_option maxHeartbeats 4000000
theorem Al2 {n:Net} (hb:Ag n=true) (i:Int):Kf n.links i=Eb n i:=by
 have hlr:∀ (k:Nat) (hk:k<n.links.length),Ki n k n.links[k]=true:=fun k hk=>by
  have h:=hb
  simp only[Ag,Bool.and_eq_true]at h
  exact allB_iff.1 h.1.1.1.1.2 k hk
 have hin:∀ (k:Nat) (hk:k<n.links.length),(n.links[k].a=i∨n.links[k].b=i)→(0≤i∧i.toNat<n.ports.length)∧(nth n.ports i).link=k:=fun k hk h=>by
  have:=hlr k hk
  simp only[Ki,Al,Bool.and_eq_true,decide_eq_true_eq,beq_iff_eq]at this
  rcases h with h | h<;>rw[h]at this
  ·exact⟨by omega,this.1.2⟩
  ·exact⟨by omega,this.2⟩
 rw[Kf,Eb]
 cases hf:n.links.find? (fun l=>l.a == i || l.b == i) with
 | none =>
  rw[List.find?_eq_none]at hf
  dsimp only
  split
  ·rename_i hc
   have hk:i.toNat<n.ports.length:=by omega
   have e1:nth n.ports i=n.ports[i.toNat]:=Ao hk
   rw[e1]at hc
   have hq:=K5 hb hk hc.2.1
   have e2:nth n.links n.ports[i.toNat].link=n.links[n.ports[i.toNat].link.toNat]:=Ao hq.1
   rw[e2]at hq
   have:=hf _ (List.getElem_mem hq.1)
   have e3:((i.toNat:Nat):Int)=i:=by omega
   rw[e3]at hq
   simp at this
   rcases hq.2 with h | h
   ·exact absurd h this.1
   ·exact absurd h this.2
  ·rfl
 | some l =>
  rw[List.find?_eq_some_iff_getElem]at hf
  obtain ⟨hl,k,hk,rfl,_⟩:=hf
  have h2:=hin k hk (by simpa using hl)
  have e2:nth n.links (nth n.ports i).link=n.links[k]:=by rw[h2.2];exact Ao (l:=n.links) (i:=(k:Int)) (by simpa using hk)
  rw[if_pos ⟨by omega,by omega,hb⟩,e2]
theorem Alm (n:Net) (hn:n.Fin) (hb:Ag n=true) (i:Int):Sy.Spec Tryz.prog 204 [Ap n,Aa i] [] (Aa (Eb n i)) []:=by
 rw[← Al2 hb]
 exact Ah5 n i hn.links
end Go.Sy.YtmelpejjondedaaGreat
namespace Go.Sy.YtmelpejjondedaaGreat
open Go.Proofs
structure EntryM where
 mac:Nat
 where_:Int
 seen:Int
deriving DecidableEq
def Am (e:EntryM):SV:=.agg [Az e.mac,Aa e.where_,Aa e.seen]
def Ek (m:Nat):Bool:=decide (m≤281474976710655) && !D1 m
def Cp (now:Int):Bool:=decide (0≤now) && decide (now≤1099511627776)
def Ct (t:List EntryM) (m:Nat):Int:=Dh (fun e=>decide (e.mac=m)) t
def Iv (t:List EntryM) (i:Nat) (e:EntryM):Bool:=Ek e.mac && Cp e.seen && decide (Ct t e.mac=i)
def tableB (t:List EntryM):Bool:=decide (t.length≤8) && C8 (Iv t) t
def findE (t:List EntryM) (m:Nat):Int × Bool:=if Ct t m<0 then (0,false) else (((t[(Ct t m).toNat]?).map (·.where_)).getD 0,true)
def oldestU (t:List EntryM):Nat→Nat
 | 0=>0
 | j+1=>if ((t[j]?).map (·.seen)).getD 0<((t[oldestU t j]?).map (·.seen)).getD 0 then j else oldestU t j
def learnT (t:List EntryM) (m:Nat) (wh now:Int):List EntryM :=
 if tableB t=false∨Ek m=false∨Cp now=false then t
 else if 0≤Ct t m then t.set (Ct t m).toNat ⟨m,wh,now⟩
 else (if t.length=8 then t.eraseIdx (oldestU t t.length) else t)++[⟨m,wh,now⟩]
def ageT (t:List EntryM) (now:Int):List EntryM:=if tableB t=false∨Cp now=false then t else t.filter fun e=>decide (now-4≤e.seen)
def noF:FrameM:=⟨0,0,0,[]⟩
structure FrameOK (f:FrameM):Prop where
 dst:f.dst<281474976710656
 src:f.src<281474976710656
 typ:f.typ≤65535
 body:f.body.length≤1504
def takeF (b:List UInt8):FrameM × Int :=
 if b.length<14 then (noF,10) else if 1518<b.length then (noF,14)
 else (⟨E8 (b.take 6),E8 ((b.drop 6).take 6),E8 ((b.drop 12).take 2),b.drop 14⟩,0)
def W5 (f:FrameM):List UInt8:=frame f.dst f.src f.typ f.body
def stripT (f:FrameM):FrameM × Int × Int × Int :=
 if f.typ≠33024 then (noF,0,0,11) else if f.body.length<4 then (noF,0,0,10)
 else if 4094<E8 (f.body.take 2) % 4096∨E8 ((f.body.drop 2).take 2)=33024 then (noF,0,0,15)
 else (⟨f.dst,f.src,E8 ((f.body.drop 2).take 2),f.body.drop 4⟩,(E8 (f.body.take 2) % 4096:Nat),(E8 (f.body.take 2) / 4096:Nat),0)
def tagT (f:FrameM) (v:Int):FrameM × Int :=
 if f.typ=33024 then (noF,15) else if 1500<f.body.length then (noF,14)
 else (⟨f.dst,f.src,33024,[UInt8.ofNat (v.toNat / 256),UInt8.ofNat v.toNat,UInt8.ofNat (f.typ / 256),UInt8.ofNat f.typ]++f.body⟩,0)
def vlanT (p:Port) (tagged:Bool) (vid:Int):Int × Bool :=
 if tagged=false∨vid=0 then (p.native,decide (p.native≠0)) else if inB p.tagged vid=true then (vid,true) else (0,false)
def Iw (n:Net) (port:Int) (f:FrameM) (tagged:Bool) (vid:Int):Int × FrameM × Int :=
 if D1 f.src=true then (0,noF,11)
 else if (vlanT (nth n.ports port) tagged vid).2=false then (0,noF,16)
 else (K6 n (nth n.ports port).dev (vlanT (nth n.ports port) tagged vid).1,f,0)
def enterT (n:Net) (port:Int) (b:List UInt8):Int × FrameM × Int :=
 if Al port n.ports.length=false∨Ag n=false then (0,noF,2)
 else if (takeF b).2≠0 then (0,noF,(takeF b).2)
 else if (takeF b).1.typ=33024 then
  (if (stripT (takeF b).1).2.2.2≠0 then (0,noF,(stripT (takeF b).1).2.2.2) else Iw n port (stripT (takeF b).1).1 true (stripT (takeF b).1).2.1)
 else Iw n port (takeF b).1 false 0
def leaveT (n:Net) (port dom:Int) (f:FrameM):List UInt8 × Int :=
 if Al port n.ports.length=false∨Al dom n.domains.length=false∨Ag n=false then ([],2)
 else if (nth n.ports port).dev≠(nth n.domains dom).dev∨Ie (nth n.ports port) (nth n.domains dom).vlan=false then ([],16)
 else if f.typ=33024 then ([],15)
 else if (nth n.domains dom).vlan=(nth n.ports port).native then (W5 f,0)
 else if (tagT f (nth n.domains dom).vlan).2≠0 then ([],(tagT f (nth n.domains dom).vlan).2)
 else (W5 (tagT f (nth n.domains dom).vlan).1,0)
def linkT (n:Net) (port:Int) (b:List UInt8):Int × Int × FrameM × Int :=
 if Eb n port<0 then (0,0,noF,2) else (Eb n port,enterT n (Eb n port) b)
structure QueuedM where
 from_:Int
 peer:Int
 origin:Int
 frame:FrameM
def Ay (q:QueuedM):SV:=.agg [Aa q.from_,Aa q.peer,Aa q.origin,Az q.frame.dst,Az q.frame.src,Aa q.frame.typ,.sl 1 Aj q.frame.body]
def noQ:QueuedM:=⟨0,0,0,noF⟩
def pushT (l:List QueuedM) (q:QueuedM):List QueuedM × Bool:=if 64≤l.length then (l,false) else (l++[q],true)
def takeT (l:List QueuedM) (at_:Int):QueuedM × List QueuedM × Bool :=
 if at_<0∨(l.length:Int)≤at_ then (noQ,l,false) else ((l[at_.toNat]?).getD noQ,l.eraseIdx at_.toNat,true)
def usableB (n:Net) (fw:List Bool) (p:Int):Bool:=decide ((nth n.ports p).link<0) || (fw[(nth n.ports p).link.toNat]?).getD false
def roomB (n:Net) (fw:List Bool) (dom from_:Int):Bool :=
 Al dom n.domains.length && decide (fw.length=n.links.length) && Ag n && (decide (from_=-1) || decide (from_=-2) || inB (A0 n dom) from_)
def Cf (n:Net) (fw:List Bool) (from_:Int) (l:List Int):List Int:=l.filter fun p=>!(decide (p=from_) || !(usableB n fw p))
def peersOut (n:Net) (dom from_:Int):List Int:=if from_=-1 then [] else (nth n.domains dom).peers
def floodT (n:Net) (fw:List Bool) (dom from_:Int):List Int × List Int × Int :=
 if roomB n fw dom from_=false then ([],[],2) else (Cf n fw from_ (A0 n dom),peersOut n dom from_,0)
def Dj (n:Net) (dom:Int) (m:Nat):Int:=Dh (fun s:Static=>decide (s.domain=dom) && decide (s.mac=(m:Int))) n.statics
def decideT (n:Net) (fw:List Bool) (t:List EntryM) (dom from_:Int) (m:Nat):List Int × List Int × Int :=
 if roomB n fw dom from_=false then ([],[],2)
 else if D1 m=true then (Cf n fw from_ (A0 n dom),peersOut n dom from_,0)
 else if 0≤Dj n dom m then (Cf n fw from_ [(nth n.statics (Dj n dom m)).port],[],0)
 else if (findE t m).2=true∧0≤(findE t m).1∧inB (A0 n dom) (findE t m).1=true then (Cf n fw from_ [(findE t m).1],[],0)
 else if (findE t m).2=true∧(findE t m).1<0∧inB (nth n.domains dom).peers (-1-(findE t m).1)=true then ([],if from_=-1 then [] else [-1-(findE t m).1],0)
 else (Cf n fw from_ (A0 n dom),peersOut n dom from_,0)
def bAt (b:List UInt8) (i:Nat):UInt8:=b.getD i 0
def numAt (b:List UInt8) (k m:Nat):Nat:=E8 ((b.drop k).take m)
def B9 (l:List Nat):List UInt8:=l.flatMap fun n=>[UInt8.ofNat (n / 256),UInt8.ofNat n]
def udpPort (a b:Nat):Nat:=49152+(a ^^^ b) % 16384
def Aea (src dst:Nat) (body:List UInt8):List UInt8:=B9 [src,dst,8+body.length,0]++body
def udpTakeT (b:List UInt8):Int × Int × List UInt8 × Int :=
 if b.length<8 then (0,0,[],10) else if numAt b 4 2<8 then (0,0,[],11) else if b.length<numAt b 4 2 then (0,0,[],10)
 else if numAt b 6 2≠0 then (0,0,[],12) else (numAt b 0 2,numAt b 2 2,(b.take (numAt b 4 2)).drop 8,0)
structure PacketM where
 tos:Nat
 id:Nat
 ttl:Nat
 proto:Nat
 src:Nat
 dst:Nat
 body:List UInt8
def noP:PacketM:=⟨0,0,0,0,0,0,[]⟩
def Ja (p:PacketM):SV:=.agg [Aa p.tos,Aa p.id,Aa p.ttl,Aa p.proto,B6 p.src,B6 p.dst,.sl 1 Aj p.body]
structure PacketOK (p:PacketM):Prop where
 tos:p.tos≤255
 id:p.id≤65535
 ttl:p.ttl≤255
 proto:p.proto≤255
 src:p.src<4294967296
 dst:p.dst<4294967296
def Ht (p:PacketM) (s:Nat):List UInt8:=B9 [17664+p.tos,20+p.body.length,p.id,0,p.ttl * 256+p.proto,s,p.src / 65536,p.src,p.dst / 65536,p.dst]
def Ly (p:PacketM):Nat:=Tw (Ht p 0)
def Ur (p:PacketM):List UInt8:=Ht p (Ly p)++p.body
def ipPutT (p:PacketM):List UInt8 × Int:=if 1480<p.body.length then ([],14) else (Ur p,0)
def ipTakeT (b:List UInt8):PacketM × Int :=
 if b.length<20 then (noP,10) else if bAt b 0≠69∨numAt b 2 2<20 then (noP,11) else if b.length<numAt b 2 2 then (noP,10)
 else if numAt b 6 2≠0 then (noP,11) else if Di (Il (b.take 20) 10)≠65535 then (noP,12)
 else (⟨(bAt b 1).toNat,numAt b 4 2,(bAt b 8).toNat,(bAt b 9).toNat,numAt b 12 4,numAt b 16 4,(b.take (numAt b 2 2)).drop 20⟩,0)
def Ih (v:Nat):List UInt8:=[8,0,0,0,UInt8.ofNat (v / 65536),UInt8.ofNat (v / 256),UInt8.ofNat v,0]
def L9 (v:Int):Bool:=decide (v<1) || decide (16777215<v)
def vniT (b:List UInt8):Int × List UInt8 × Int :=
 if b.length<8 then (0,[],10) else if numAt b 4 3=0∨b.take 8≠Ih (numAt b 4 3) then (0,[],11) else (numAt b 4 3,b.drop 8,0)
def M5 (from_ to:Nat) (v:Nat) (f:FrameM):PacketM:=⟨0,0,64,17,from_,to,Aea (udpPort f.dst f.src) 4789 (Ih v++W5 f)⟩
def wrapT (from_ to:Nat) (v:Int) (f:FrameM):List UInt8 × Int :=
 if f.typ=33024 then ([],15) else if L9 v=true then ([],17) else if 1450<f.body.length then ([],14)
 else (frame (Es to) (Es from_) 2048 (Ur (M5 from_ to v.toNat f)),0)
def outerT (b:List UInt8):PacketM × Int :=
 if (takeF b).2≠0 then (noP,(takeF b).2) else if (takeF b).1.typ≠2048 then (noP,11)
 else if (ipTakeT (takeF b).1.body).2≠0 then (noP,(ipTakeT (takeF b).1.body).2)
 else ((ipTakeT (takeF b).1.body).1,if (ipTakeT (takeF b).1.body).1.proto≠17 then 11 else 0)
def innerT (b:List UInt8):Int × FrameM × Int :=
 if (udpTakeT b).2.2.2≠0 then (0,noF,(udpTakeT b).2.2.2) else if (udpTakeT b).2.1≠4789 then (0,noF,11)
 else if (vniT (udpTakeT b).2.2.1).2.2≠0 then (0,noF,(vniT (udpTakeT b).2.2.1).2.2)
 else if (takeF (vniT (udpTakeT b).2.2.1).2.1).2≠0 then (0,noF,(takeF (vniT (udpTakeT b).2.2.1).2.1).2)
 else if (takeF (vniT (udpTakeT b).2.2.1).2.1).1.typ=33024 then (0,noF,15)
 else ((vniT (udpTakeT b).2.2.1).1,(takeF (vniT (udpTakeT b).2.2.1).2.1).1,0)
def unwrapT (b:List UInt8):Nat × Nat × Int × FrameM × Int :=
 if (outerT b).2≠0 then (0,0,0,noF,(outerT b).2) else if (innerT (outerT b).1.body).2.2≠0 then (0,0,0,noF,(innerT (outerT b).1.body).2.2)
 else ((outerT b).1.src,(outerT b).1.dst,(innerT (outerT b).1.body).1,(innerT (outerT b).1.body).2.1,0)
structure Net.Num (n:Net):Prop where
 vtep:∀ d∈n.devices,0≤d.vtep∧d.vtep<4294967296
 addr:∀ i∈n.irbs,0≤i.addr∧i.addr<4294967296
def Er (n:Net) (dom:Int):Int:=(nth n.devices (nth n.domains dom).dev).vtep
def meshT (n:Net) (dom peer:Int) (f:FrameM):List UInt8 × Int :=
 if Al peer n.domains.length=false∨Al dom n.domains.length=false∨Ag n=false then ([],2)
 else if inB (nth n.domains dom).peers peer=false then ([],17)
 else wrapT (Er n dom).toNat (Er n peer).toNat (nth n.domains dom).vni f
def endsT (n:Net) (src dst:Nat) (vni:Int):Int × Int :=
 let dev:=Dh (fun d:Device=>decide (d.vtep=(dst:Int))) n.devices
 let dom:=Dh (fun d:Domain=>decide (d.dev=dev) && decide (d.vni=vni)) n.domains
 if dev<0∨dom<0 then (-1,-1)
 else
  let i:=Dh (fun k:Int=>decide (Er n k=(src:Int))) (nth n.domains dom).peers
  if i<0 then (-1,-1) else (nth (nth n.domains dom).peers i,dom)
def comeT (n:Net) (b:List UInt8):Int × Int × FrameM × Int :=
 if Ag n=false then (0,0,noF,2)
 else if (unwrapT b).2.2.2.2≠0 then (0,0,noF,(unwrapT b).2.2.2.2)
 else if (endsT n (unwrapT b).1 (unwrapT b).2.1 (unwrapT b).2.2.1).1<0 then (0,0,noF,17)
 else if D1 (unwrapT b).2.2.2.1.src=true then (0,0,noF,11)
 else ((endsT n (unwrapT b).1 (unwrapT b).2.1 (unwrapT b).2.2.1).1,(endsT n (unwrapT b).1 (unwrapT b).2.1 (unwrapT b).2.2.1).2,(unwrapT b).2.2.2.1,0)
def routerT (n:Net) (dom:Int) (m:Nat):Int × Bool :=
 if Al dom n.domains.length=false∨Ag n=false then (0,false)
 else if (nth n.domains dom).irb<0∨Es (nth n.irbs (nth n.domains dom).irb).addr≠m then (0,false)
 else ((nth n.domains dom).irb,true)
def Afz (p:PacketM):PacketM:=⟨p.tos,p.id,p.ttl-1,p.proto,p.src,p.dst,p.body⟩
def hopT (n:Net) (irb:Int) (f:FrameM):Int × FrameM × Int :=
 if Al irb n.irbs.length=false∨Ag n=false then (0,noF,2)
 else if f.typ≠2048 then (0,noF,11)
 else if (ipTakeT f.body).2≠0 then (0,noF,(ipTakeT f.body).2)
 else if (ipTakeT f.body).1.ttl≤1 then (0,noF,13)
 else if (lookT n irb (ipTakeT f.body).1.dst).2=false then (0,noF,31)
 else if 1480<(ipTakeT f.body).1.body.length then (0,noF,14)
 else ((nth n.irbs (lookT n irb (ipTakeT f.body).1.dst).1).domain,
  ⟨Es (ipTakeT f.body).1.dst,Es (nth n.irbs (lookT n irb (ipTakeT f.body).1.dst).1).addr,2048,Ur (Afz (ipTakeT f.body).1)⟩,0)
structure OutM where
 kind:Int
 port:Int
 domain:Int
 bytes:List UInt8
 frame:FrameM
 error:Int
def Bi (o:OutM):SV:=.agg [Aa o.kind,Aa o.port,Aa o.domain,.sl 1 Aj o.bytes,Az o.frame.dst,Az o.frame.src,Aa o.frame.typ,.sl 1 Aj o.frame.body,Aa o.error]
def learnQ (t:List EntryM) (q:QueuedM) (now:Int):List EntryM :=
 if q.from_=-2 then t else learnT t q.frame.src (if q.from_=-1 then -1-q.peer else q.from_) now
def D4 (o:OutM) (r:List UInt8 × Int):OutM:=if r.2≠0 then ⟨5,o.port,o.domain,[],o.frame,r.2⟩ else ⟨o.kind,o.port,o.domain,r.1,o.frame,o.error⟩
def E2 (n:Net) (dom:Int) (f:FrameM) (p:Int):OutM:=D4 ⟨if (nth n.ports p).link<0 then 1 else 2,p,0,[],noF,0⟩ (leaveT n p dom f)
def H3 (n:Net) (dom:Int) (f:FrameM) (p:Int):OutM:=D4 ⟨3,0,p,[],noF,0⟩ (meshT n dom p f)
def bridgeT (n:Net) (fw:List Bool) (t:List EntryM) (dom:Int) (q:QueuedM) (now:Int):List EntryM × List OutM × Int :=
 if roomB n fw dom q.from_=false∨tableB t=false then ([],[],2)
 else if (routerT n dom q.frame.dst).2=true then
  (if (hopT n (routerT n dom q.frame.dst).1 q.frame).2.2≠0 then (learnQ t q now,[],(hopT n (routerT n dom q.frame.dst).1 q.frame).2.2)
   else (learnQ t q now,[⟨4,0,(hopT n (routerT n dom q.frame.dst).1 q.frame).1,[],(hopT n (routerT n dom q.frame.dst).1 q.frame).2.1,0⟩],0))
 else (learnQ t q now,(decideT n fw (learnQ t q now) dom q.from_ q.frame.dst).1.map (E2 n dom q.frame)++(decideT n fw (learnQ t q now) dom q.from_ q.frame.dst).2.1.map (H3 n dom q.frame),0)
end Go.Sy.YtmelpejjondedaaGreat
namespace Go.Sy
theorem Good.dataT {P:Program} {o:Oper} {s:SS} {d sz:Nat} {ks:List Nat} {k:Option Nat} {α:Type} {e:α→SV} {l:List α} (h:Good P o s ⟨.osl d,ks,E6 k d (.row sz e l)⟩) :
  Good P o s ⟨.sl sz e l,ks,E6 k d .non⟩:=fun κ a w hi hr ho N Q hN=>by
 have hws:Up.ws ⟨SV.osl d,ks,E6 k d (.row sz e l)⟩=Up.ws ⟨SV.sl sz e l,ks,E6 k d .non⟩:=by
  cases k<;>rfl
 refine h κ a w hi hr (fun j hj=>ho j (by rw[← hws];exact hj)) N Q fun v κ' w' st inv hv hob=>?_
 have hmem:d∈Up.ws ⟨SV.sl sz e l,ks,E6 k d .non⟩:=by cases k<;>simp[Up.ws,E6]
 have hrow:ObOK κ' w' d (.row sz e l):=hob (d,.row sz e l) (by cases k<;>simp[E6])
 have st2:=E1 (κ:=κ') (w:=w') (some d)
 have inv2:=If inv (some d)
 have hx:Rd (Db κ' d .dead) w' (.sl sz e l) v:=by
  rcases hrow with ⟨h1,rfl⟩ | h1
  ·simp only[Rd,h1]at hv
   simp only[Rd,RdD]
   exact .inl ⟨by simp,none,0,hv⟩
  ·refine h1.freeze hv st2.keeps.out (fun b hb=>⟨inv.bnd d b hb,?_⟩)
   rintro (⟨q,hq⟩ | hq)
   ·by_cases hqd:q=d
    ·subst hqd;rw[Ax]at hq;cases hq
    ·rw[Bz _ _ hqd]at hq
     exact hqd (inv.inj q d b hq hb)
   ·exact inv.apart d b hb hq
 refine hN v _ w' ((st.weaken (fun j hj=>by rw[← hws];exact hj)).trans (st2.weaken (fun j hj=>by cases hj;exact hmem))) inv2 hx (fun x hxm=>?_)
 have:x.2=.non:=by
  cases k with
  | none=>have:=List.mem_singleton.1 hxm;rw[this]
  | some j =>
   rcases List.mem_cons.1 hxm with h1 | h1
   ·rw[h1]
   ·have:=List.mem_singleton.1 h1;rw[this]
 rw[this]
 trivial
end Go.Sy
namespace Go.Sy
open Go.ChangeShapes Go.WideShapes Go.ChangeAt Go.RowKit
def κ0:Ka:=⟨fun _=>.new,fun _=>False⟩
theorem inv0 (w:World):Inv κ0 w :=
 ⟨fun i j b h=>(by cases h),fun k b h=>(by cases h),fun k b h=>(by cases h),fun b h=>False.elim h⟩
theorem Adv {w w':World} {κ':Ka} (c:Ctx ⟨w,κ0⟩ κ' w'):Below w.heap.size w w' :=
 ⟨c.os,c.tape,c.output,c.size,fun k hk=>c.old k hk (fun j h=>by cases h)⟩
section
variable {H:Type} {enc:TypeId × Value→H} {P:Program}
theorem Q8 {W W':World} (hl:laidOutB P=true) (hb:Below W.heap.size W W'):∀ {ts:List TypeId} {vs:List Value} {ds:List (DataW H)} {ps:List MemPlace},(∀ t∈ts,P.readableRec t=true∧t<P.types.size) →
  (∀ x∈ps,x.block<W.heap.size)→DataW.TrodAll enc P W 0 (fun _=>true) true ts vs ds ps→DataW.TrodAll enc P W' 0 (fun b=>decide (b<W.heap.size)) true ts vs ds ps
 | [],_,_,_,_,_,h=>by
  obtain ⟨rfl,rfl,rfl⟩:=trodAll_nil h
  rfl
 | t::ts,_,_,_,ht,hp,h=>by
  obtain ⟨v,vs,d,ds,p,q,rfl,rfl,rfl,h1,h2⟩:=trodAll_cons h
  have:=ht t za
  exact⟨p,q,Below.trod hl this.1 this.2 h1 hb (fun x hx=>hp x (by simp[hx])),Q8 hl hb (fun t h=>ht t (by simp[h])) (fun x hx=>hp x (by simp[hx])) h2,E⟩
theorem Amf {f:FuncId} {fn:Func} {s:ChangeSpec} {W:World} {args:Array Value} {ds gs:List (DataW H)} {before:List MemPlace} {tb:TypeId} {A:List SV} (hv:s.vars=[]) (hl:laidOutB P=true)
  (hW:DataW.Whole enc P fn.params.toList s.vars false W args.toList ds gs before) (hts:∀ t∈fn.params.toList,P.readableRec t=true∧t<P.types.size) (hrt:fn.resultTypes=#[tb]) (hbt:P.underlying tb=some .bool)
  (hfn:∀ gs:List (DataW H),gs=[]→s.fn H (ds++gs)={ results:=[.lit (.bool true)],args:=ds }) (hA:RdL κ0 W A args.toList) (hs:Sy.Spec P f A [] (Ad true) []) :
  Calls P f args W fun e W'=>∃ v,e=.returned v∧s.post enc P fn false true false false W args v W':=by
 have hc:=hs κ0 W args.toList (inv0 W) (fun k hk=>absurd rfl hk) hA (fun p hp=>by cases hp)
 simp only[Array.toArray_toList]at hc
 refine hc.mono ?_
 rintro e W' ⟨v,κ',rfl,ctx,inv,hR,_⟩
 have hvv:v=.bool true:=by simpa [Ad,Rd] using hR
 subst hvv
 have hb:=Adv ctx
 have hW':=hW
 obtain ⟨p,q,h1,h2,h3,h4,h5⟩:=hW
 have hgs:gs=[]∧q=[]:=by
  rw[hv]at h2
  exact trodVars_none h2
 obtain ⟨rfl,rfl⟩:=hgs
 rw[List.append_nil]at h3
 subst h3
 have hlt:∀ x∈before,x.block<W.heap.size:=fun x hx=>by simpa using hW'.lt x hx
 refine⟨_,rfl,ds,[],before,[],before,[],hW',?_,?_,?_,?_,fun h=>by cases h⟩
 ·rw[hfn [] rfl,hrt]
  exact trodAll_mk1 (shut_bool hbt true)
 ·rw[hfn [] rfl]
  exact Q8 hl hb hts hlt h1
 ·rw[hv,hfn [] rfl]
  rfl
 ·exact hb.frame _
end
end Go.Sy
namespace Go.Sy
theorem M1 {P:Program} (Γ:Ty P) {o:Oper} {s:SS} {t:TypeId} {ti:TI} {et:TypeId} {len esz sz g:Nat} {y:Operand} {ik:IntKind} {n:Int} {z:SV} (k:Nat)
  (h:o.op=.indexAddr t (.global g) y) (ht:Γ.get t=some ti) (hk:ti.k=.array et len esz) (hb:s.h k=.glob sz z g) (hy:ev s y=.val (.int ik n)) (h0:0≤n) (hn:n.toNat<len) :
  Good P o s ⟨.ref sz z (n.toNat * esz),[k],[]⟩ :=
 Good.pure fun κ a w _ hr ho=>by
  have h1:=ho k za
  have h2:=hr y (by simp[h,Op.operands])
  rw[hb]at h1
  rw[hy]at h2
  simp only[ObOK,Rd,RdD]at h1
  obtain ⟨b,oo,u,e1,e2,e3,e4,e5⟩:=h1
  obtain ⟨hu,i,q1,q2⟩:=Qf Γ ht hk
  simp only[Nat.add_zero,Value.pointer.injEq,Option.some.injEq,Addr.mk.injEq,and_true]at e1
  obtain ⟨rfl,rfl⟩:=e1
  refine⟨.pointer (some ⟨g,0+n.toNat * esz,none⟩),?_,?_⟩
  ·have hg:a.eval (.global g)=.pointer (some ⟨g,0,none⟩):=rfl
   simp only[execOp,h,hg,h2.val]
   simp[Md w hu q1 q2 h0 hn]
  ·simp only[Rd,RdD]
   exact⟨g,0,u,E,e2,e3,e4,e5⟩
theorem Ob.shp_glob {x:Ob} {sz g:Nat} {z:SV} (h:x.shp=(Ob.glob sz z g).shp):x=.glob sz z g:=by
 cases x<;>simp_all[Ob.shp]
theorem GoodX.glob {P:Program} (Γ:Ty P) {o:Oper} {s:SS} {t:TypeId} {ti:TI} {et:TypeId} {len esz sz g:Nat} {y:Operand} {ik:IntKind} {n:Int} {z:SV} (k:Nat)
  (h:o.op=.indexAddr t (.global g) y) (ht:Γ.get t=some ti) (hk:ti.k=.array et len esz) (hb:s.h k=.glob sz z g) (hy:ev s y=.val (.int ik n)) (h0:0≤n) (hn:n.toNat<len) :
  GoodX P o s ⟨.ref sz z (n.toNat * esz),[k],[]⟩ where
 good:=(M1 Γ k h ht hk hb hy h0 hn).two
 idx _:=⟨rfl,fun s' h1 h2=>M1 Γ k h ht hk (Ob.shp_glob ((h2 k za).trans (congrArg Ob.shp hb))) ((h1 y (by simp[h,Op.operands])).trans hy) h0 hn⟩
 st hs:=by simp[Le,h]at hs
section
open Go.ChangeShapes Go.WideShapes Go.ChangeAt Go.RowKit
variable {H:Type} {enc:TypeId × Value→H} {P:Program}
end
end Go.Sy
namespace Go.Sy
theorem Hm {P:Program} (Γ:Ty P) {o:Oper} {s:SS} {t:TypeId} {ti:TI} {et:TypeId} {len:Nat} {x y:Operand} {ik:IntKind} {n:Int} {l:List SV} {z:SV} {k:EK} (h:o.op=.index t x y) (ht:Γ.get t=some ti) (hk:ti.k=.array et len 1)
  (he:P.underlying et=some (EK.desc k)) (hx:ev s x=.agg l) (hy:ev s y=.val (.int ik n)) (h0:0≤n) (hn:n.toNat<len) (hz:Eg l n.toNat=some z):Good P o s ⟨z,[],[]⟩ :=
 Good.pure fun κ a w _ hr _=>by
  have h1:=hr x (by simp[h,Op.operands])
  have h2:=hr y (by simp[h,Op.operands])
  rw[hx]at h1
  rw[hy]at h2
  simp only[Rd]at h1
  obtain ⟨cs,e1,_,e2⟩:=h1
  obtain ⟨v,e3,e4⟩:=e2.getT hz
  obtain ⟨hu,i,q1,q2⟩:=Qf Γ ht hk
  have hp:=X3 (P:=P) w he cs.toArray e3
  have hlt:n<len:=by omega
  refine⟨v,?_,e4⟩
  simp[execOp,h,e1,h2.val,Instr.index,run_underlying hu,asIntOf,h0,hlt,sizeOf,typeInfo,q1,q2,hp]
theorem Av {C:Cx} {k:List KI} {s:SS} (d:Nat) (l':List SV) {l:List SV} (h:s.h d=.box l) (hv:VwL s [] l l') (hg:G C k ⟨s.σ,upd s.h d (.box l')⟩):G C k s:=fun κ a w hs =>
 hg κ a w ⟨hs.defers,hs.size,hs.inv,hs.ctx,hs.slot,fun i=>by
  show ObOK κ w i (upd s.h d (.box l') i)
  by_cases hi:i=d
  ·subst hi
   rw[Bq]
   have:=hs.obj i
   rw[h]at this
   obtain ⟨b,cs,T,fr,e1,e2,e3,e4,e5⟩:=this
   exact⟨b,cs,T,fr,e1,e2,e3,e4,VwL.rd hs.inv (fun _ hn=>by cases hn) hv e5⟩
  ·rw[Cd _ _ hi];exact hs.obj i⟩
end Go.Sy
namespace Go.Sy.YtmelpejjondedaaGreat
open Go.Proofs
attribute [local irreducible] Go.Sy.G Go.Sy.DR
set_option maxRecDepth 100000
set_option maxHeartbeats 4000000
theorem Qo {κ:Ka} {w:World} {k sz:Nat} {α:Type} {e:α→SV} {l:List α} (hne:l≠[]) (h:ObOK κ w k (.row sz e l)):∃ b n c,κ k=.row b n c:=by
 rcases h with ⟨_,h⟩ | ⟨b,cap,_,_,_,h,_⟩
 ·exact absurd h hne
 ·exact⟨b,_,cap,h⟩
theorem Adr (l:List Device) (hl:l.length<2147483648):Sy.Spec Tryz.prog 87 [.sl 5 Bt l] [] (.sl 5 Bt l) []:=Ab Γ hm 100 F87 Tryz.ntmps87 rfl fun F hF=>by
 conv=>whnf
 refine D7 E (.inl E) E E E .sl E E ?_
 intro b hb
 cases b
 ·(refine rg ?_;(conv=>whnf);refine aF ?_;refine rg ?_;conv=>whnf)
  refine Ai (Ae Γ.toTy 7 E E E E E (.lit (e:=Bt) (l:=[]) E E) .sl za (by simp;omega) (by simp;omega)) E E ?_
  refine As 7 E ?_
  refine rg ?_;conv=>whnf
  exact Ac E (.cons .tmp .nil) E E
 ·have h0:l=[]:=List.eq_nil_of_length_eq_zero (hb rfl)
  subst h0
  (refine rg ?_;(conv=>whnf);refine aT ?_;refine rg ?_;conv=>whnf)
  refine An 2 5 Bt E ?_
  exact Ac E (.cons .tmp .nil) E E
theorem Ajf (l:List Link) (hl:l.length<2147483648):Sy.Spec Tryz.prog 89 [.sl 3 Cu l] [] (.sl 3 Cu l) []:=Ab Γ hm 100 F89 Tryz.ntmps89 rfl fun F hF=>by
 conv=>whnf
 refine D7 E (.inl E) E E E .sl E E ?_
 intro b hb
 cases b
 ·(refine rg ?_;(conv=>whnf);refine aF ?_;refine rg ?_;conv=>whnf)
  refine Ai (Ae Γ.toTy 7 E E E E E (.lit (e:=Cu) (l:=[]) E E) .sl za (by simp;omega) (by simp;omega)) E E ?_
  refine As 7 E ?_
  refine rg ?_;conv=>whnf
  exact Ac E (.cons .tmp .nil) E E
 ·have h0:l=[]:=List.eq_nil_of_length_eq_zero (hb rfl)
  subst h0
  (refine rg ?_;(conv=>whnf);refine aT ?_;refine rg ?_;conv=>whnf)
  refine An 2 3 Cu E ?_
  exact Ac E (.cons .tmp .nil) E E
theorem Adn (l:List Static) (hl:l.length<2147483648):Sy.Spec Tryz.prog 91 [.sl 4 Br l] [] (.sl 4 Br l) []:=Ab Γ hm 100 F91 Tryz.ntmps91 rfl fun F hF=>by
 conv=>whnf
 refine D7 E (.inl E) E E E .sl E E ?_
 intro b hb
 cases b
 ·(refine rg ?_;(conv=>whnf);refine aF ?_;refine rg ?_;conv=>whnf)
  refine Ai (Ae Γ.toTy 7 E E E E E (.lit (e:=Br) (l:=[]) E E) .sl za (by simp;omega) (by simp;omega)) E E ?_
  refine As 7 E ?_
  refine rg ?_;conv=>whnf
  exact Ac E (.cons .tmp .nil) E E
 ·have h0:l=[]:=List.eq_nil_of_length_eq_zero (hb rfl)
  subst h0
  (refine rg ?_;(conv=>whnf);refine aT ?_;refine rg ?_;conv=>whnf)
  refine An 2 4 Br E ?_
  exact Ac E (.cons .tmp .nil) E E
theorem Amy (l:List Irb) (hl:l.length<2147483648):Sy.Spec Tryz.prog 94 [.sl 5 Du l] [] (.sl 5 Du l) []:=Ab Γ hm 100 F94 Tryz.ntmps94 rfl fun F hF=>by
 conv=>whnf
 refine D7 E (.inl E) E E E .sl E E ?_
 intro b hb
 cases b
 ·(refine rg ?_;(conv=>whnf);refine aF ?_;refine rg ?_;conv=>whnf)
  refine Ai (Ae Γ.toTy 7 E E E E E (.lit (e:=Du) (l:=[]) E E) .sl za (by simp;omega) (by simp;omega)) E E ?_
  refine As 7 E ?_
  refine rg ?_;conv=>whnf
  exact Ac E (.cons .tmp .nil) E E
 ·have h0:l=[]:=List.eq_nil_of_length_eq_zero (hb rfl)
  subst h0
  (refine rg ?_;(conv=>whnf);refine aT ?_;refine rg ?_;conv=>whnf)
  refine An 2 5 Du E ?_
  exact Ac E (.cons .tmp .nil) E E
theorem L5 (l:List Int) (hl:l.length<2147483648):Sy.Spec Tryz.prog 95 [.sl 1 Aa l] [] (.sl 1 Aa l) []:=Ab Γ hm 100 F95 Tryz.ntmps95 rfl fun F hF=>by
 conv=>whnf
 refine D7 E (.inl E) E E E .sl E E ?_
 intro b hb
 cases b
 ·(refine rg ?_;(conv=>whnf);refine aF ?_;refine rg ?_;conv=>whnf)
  refine Ai (Ae Γ.toTy 7 E E E E E (.lit (e:=Aa) (l:=[]) E E) .sl za (by simp;omega) (by simp;omega)) E E ?_
  refine As 7 E ?_
  refine rg ?_;conv=>whnf
  exact Ac E (.cons .tmp .nil) E E
 ·have h0:l=[]:=List.eq_nil_of_length_eq_zero (hb rfl)
  subst h0
  (refine rg ?_;(conv=>whnf);refine aT ?_;refine rg ?_;conv=>whnf)
  refine An 2 1 Aa E ?_
  exact Ac E (.cons .tmp .nil) E E
theorem Amx (l:List Int) (hl:l.length<2147483648):Sy.Spec Tryz.prog 96 [.sl 1 B6 l] [] (.sl 1 B6 l) []:=Ab Γ hm 100 F96 Tryz.ntmps96 rfl fun F hF=>by
 conv=>whnf
 refine D7 E (.inl E) E E E .sl E E ?_
 intro b hb
 cases b
 ·(refine rg ?_;(conv=>whnf);refine aF ?_;refine rg ?_;conv=>whnf)
  refine Ai (Ae Γ.toTy 7 E E E E E (.lit (e:=B6) (l:=[]) E E) .sl za (by simp;omega) (by simp;omega)) E E ?_
  refine As 7 E ?_
  refine rg ?_;conv=>whnf
  exact Ac E (.cons .tmp .nil) E E
 ·have h0:l=[]:=List.eq_nil_of_length_eq_zero (hb rfl)
  subst h0
  (refine rg ?_;(conv=>whnf);refine aT ?_;refine rg ?_;conv=>whnf)
  refine An 2 1 B6 E ?_
  exact Ac E (.cons .tmp .nil) E E
theorem Zt (l:List Bool) (hl:l.length<2147483648):Sy.Spec Tryz.prog 55 [.sl 1 Ad l] [] (.sl 1 Ad l) []:=Ab Γ hm 100 F55 Tryz.ntmps55 rfl fun F hF=>by
 conv=>whnf
 refine D7 E (.inl E) E E E .sl E E ?_
 intro b hb
 cases b
 ·(refine rg ?_;(conv=>whnf);refine aF ?_;refine rg ?_;conv=>whnf)
  refine Ai (Ae Γ.toTy 7 E E E E E (.lit (e:=Ad) (l:=[]) E E) .sl za (by simp;omega) (by simp;omega)) E E ?_
  refine As 7 E ?_
  refine rg ?_;conv=>whnf
  exact Ac E (.cons .tmp .nil) E E
 ·have h0:l=[]:=List.eq_nil_of_length_eq_zero (hb rfl)
  subst h0
  (refine rg ?_;(conv=>whnf);refine aT ?_;refine rg ?_;conv=>whnf)
  refine An 2 1 Ad E ?_
  exact Ac E (.cons .tmp .nil) E E
theorem Aje (l:List Port) (hl:l.length<2147483648):Sy.Spec Tryz.prog 88 [.sl 7 Bj l] [] (.osl 0) [(0,.row 7 Bj l)]:=Ab Γ hm 100 F88 Tryz.ntmps88 rfl fun F hF=>by
 conv=>whnf
 refine D7 E (.inl E) E E E .sl E E ?_
 intro b hb
 cases b
 ·(refine rg ?_;(conv=>whnf);refine aF ?_;refine rg ?_;conv=>whnf)
  refine Ai (Ae Γ.toTy 7 E E E E E (.lit (e:=Bj) (l:=[]) E E) .sl za (by simp;omega) (by simp;omega)) E E ?_
  refine rg ?_;conv=>whnf
  exact done E (.cons .tmp .nil) [(0,7)] [(0,.row 7 Bj l)] (fun _ h=>h) E E ⟨Y,⟨.inl E,E,Y⟩,E,E⟩
 ·have h0:l=[]:=List.eq_nil_of_length_eq_zero (hb rfl)
  subst h0
  (refine rg ?_;(conv=>whnf);refine aT ?_;refine rg ?_;conv=>whnf)
  refine Bm 2 1000 7 Bj E E ?_
  exact done E (.cons .tmp .nil) [(0,1000)] [(0,.row 7 Bj [])] (fun _ h=>h) E E ⟨Y,⟨.inl E,E,Y⟩,E,E⟩
theorem Adq (l:List Domain) (hl:l.length<2147483648):Sy.Spec Tryz.prog 90 [.sl 6 A1 l] [] (.osl 0) [(0,.row 6 A1 l)]:=Ab Γ hm 100 F90 Tryz.ntmps90 rfl fun F hF=>by
 conv=>whnf
 refine D7 E (.inl E) E E E .sl E E ?_
 intro b hb
 cases b
 ·(refine rg ?_;(conv=>whnf);refine aF ?_;refine rg ?_;conv=>whnf)
  refine Ai (Ae Γ.toTy 7 E E E E E (.lit (e:=A1) (l:=[]) E E) .sl za (by simp;omega) (by simp;omega)) E E ?_
  refine rg ?_;conv=>whnf
  exact done E (.cons .tmp .nil) [(0,7)] [(0,.row 6 A1 l)] (fun _ h=>h) E E ⟨Y,⟨.inl E,E,Y⟩,E,E⟩
 ·have h0:l=[]:=List.eq_nil_of_length_eq_zero (hb rfl)
  subst h0
  (refine rg ?_;(conv=>whnf);refine aT ?_;refine rg ?_;conv=>whnf)
  refine Bm 2 1000 6 A1 E E ?_
  exact done E (.cons .tmp .nil) [(0,1000)] [(0,.row 6 A1 [])] (fun _ h=>h) E E ⟨Y,⟨.inl E,E,Y⟩,E,E⟩
theorem Agl (l:List Flood) (hl:l.length<2147483648):Sy.Spec Tryz.prog 92 [.sl 4 Ca l] [] (.osl 0) [(0,.row 4 Ca l)]:=Ab Γ hm 100 F92 Tryz.ntmps92 rfl fun F hF=>by
 conv=>whnf
 refine D7 E (.inl E) E E E .sl E E ?_
 intro b hb
 cases b
 ·(refine rg ?_;(conv=>whnf);refine aF ?_;refine rg ?_;conv=>whnf)
  refine Ai (Ae Γ.toTy 7 E E E E E (.lit (e:=Ca) (l:=[]) E E) .sl za (by simp;omega) (by simp;omega)) E E ?_
  refine rg ?_;conv=>whnf
  exact done E (.cons .tmp .nil) [(0,7)] [(0,.row 4 Ca l)] (fun _ h=>h) E E ⟨Y,⟨.inl E,E,Y⟩,E,E⟩
 ·have h0:l=[]:=List.eq_nil_of_length_eq_zero (hb rfl)
  subst h0
  (refine rg ?_;(conv=>whnf);refine aT ?_;refine rg ?_;conv=>whnf)
  refine Bm 2 1000 4 Ca E E ?_
  exact done E (.cons .tmp .nil) [(0,1000)] [(0,.row 4 Ca [])] (fun _ h=>h) E E ⟨Y,⟨.inl E,E,Y⟩,E,E⟩
theorem Amw (l:List Vrf) (hl:l.length<2147483648):Sy.Spec Tryz.prog 93 [.sl 5 C6 l] [] (.osl 0) [(0,.row 5 C6 l)]:=Ab Γ hm 100 F93 Tryz.ntmps93 rfl fun F hF=>by
 conv=>whnf
 refine D7 E (.inl E) E E E .sl E E ?_
 intro b hb
 cases b
 ·(refine rg ?_;(conv=>whnf);refine aF ?_;refine rg ?_;conv=>whnf)
  refine Ai (Ae Γ.toTy 7 E E E E E (.lit (e:=C6) (l:=[]) E E) .sl za (by simp;omega) (by simp;omega)) E E ?_
  refine rg ?_;conv=>whnf
  exact done E (.cons .tmp .nil) [(0,7)] [(0,.row 5 C6 l)] (fun _ h=>h) E E ⟨Y,⟨.inl E,E,Y⟩,E,E⟩
 ·have h0:l=[]:=List.eq_nil_of_length_eq_zero (hb rfl)
  subst h0
  (refine rg ?_;(conv=>whnf);refine aT ?_;refine rg ?_;conv=>whnf)
  refine Bm 2 1000 5 C6 E E ?_
  exact done E (.cons .tmp .nil) [(0,1000)] [(0,.row 5 C6 [])] (fun _ h=>h) E E ⟨Y,⟨.inl E,E,Y⟩,E,E⟩
theorem copyS (n:Net) (hn:n.Fin) :
  Sy.Spec Tryz.prog 45 [Ap n] [] (Ap n) []:=Ab Γ hm 100 F45 Tryz.ntmps45 rfl fun F hF=>by
 have h1:n.devices.length<2147483648∧n.ports.length<2147483648∧n.links.length<2147483648∧n.domains.length<2147483648∧n.statics.length<2147483648∧n.floods.length<2147483648∧n.vrfs.length<2147483648∧n.irbs.length<2147483648:=⟨hn.devices,hn.ports,hn.links,hn.domains,hn.statics,hn.floods,hn.vrfs,hn.irbs⟩
 have h2:(∀ p∈n.ports,p.tagged.length<2147483648)∧(∀ p∈n.domains,p.peers.length<2147483648)∧(∀ p∈n.floods,p.addrs.length<2147483648)∧(∀ p∈n.vrfs,p.imports.length<2147483648∧p.exports.length<2147483648):=⟨hn.tagged,hn.peers,hn.addrs,fun v hv=>⟨hn.imports v hv,hn.exports v hv⟩⟩
 conv=>whnf
 refine Au (Adr n.devices h1.1) F87 E E E qy E ?_
 refine rd qy ?_;conv=>whnf
 refine Bn (Ak [(0,14)] E F88 (Aje n.ports h1.2.1) E Y E ⟨.inr E,Y⟩) qy E ?_
 refine rd qy ?_;conv=>whnf
 refine Au (Ajf n.links h1.2.2.1) F89 E E E qy E ?_
 refine rd qy ?_;conv=>whnf
 refine Bn (Ak [(0,20)] E F90 (Adq n.domains h1.2.2.2.1) E Y E ⟨.inr E,Y⟩) qy E ?_
 refine rd qy ?_;conv=>whnf
 refine Au (Adn n.statics h1.2.2.2.2.1) F91 E E E qy E ?_
 refine rd qy ?_;conv=>whnf
 refine Bn (Ak [(0,26)] E F92 (Agl n.floods h1.2.2.2.2.2.1) E Y E ⟨.inr E,Y⟩) qy E ?_
 refine rd qy ?_;conv=>whnf
 refine Bn (Ak [(0,29)] E F93 (Amw n.vrfs h1.2.2.2.2.2.2.1) E Y E ⟨.inr E,Y⟩) qy E ?_
 refine rd qy ?_;conv=>whnf
 refine Au (Amy n.irbs h1.2.2.2.2.2.2.2) F94 E E E qy E ?_
 refine rd qy ?_;conv=>whnf
 refine⟨qy,?_⟩
 conv=>whnf
 refine At n.ports.length (fun j=>[(2,.ptr 2 0),(3,.ptr 3 0),(36,Aa n.ports.length),(37,Aa j)]) (fun _=>[(2,.box [.val (.slice none 0 0),.val (.slice none 0 0),.val (.slice none 0 0),.val (.slice none 0 0),.val (.slice none 0 0),.val (.slice none 0 0),.val (.slice none 0 0),.val (.slice none 0 0)]),(3,.box [.sl 5 Bt n.devices,.osl 14,.sl 3 Cu n.links,.osl 20,.sl 4 Br n.statics,.osl 26,.osl 29,.sl 5 Du n.irbs]),(14,.row 7 Bj n.ports),(20,.row 6 A1 n.domains),(26,.row 4 Ca n.floods),(29,.row 5 C6 n.vrfs)]) []
  ⟨⟨rfl,rfl,rfl,rfl,rfl,rfl,rfl,rfl,trivial⟩,⟨.inl rfl,rfl,.inl rfl,rfl,.inl rfl,rfl,.inl rfl,rfl,.inl rfl,rfl,.inl rfl,rfl,trivial⟩,rfl,rfl⟩ ?_
 intro j hj
 refine rg ?_;conv=>whnf
 refine⟨fun h=>?_,fun h=>?_⟩
 ·have hlt:j<n.ports.length:=by simpa using h
  obtain ⟨p,hp⟩:∃ p,n.ports[(j:Int).toNat]'qn=p:=⟨_,rfl⟩
  have hne:n.ports≠[]:=fun e=>by rw[e]at hlt;cases hlt
  have hset:n.ports.set (j:Int).toNat p=n.ports:=by rw[← hp];exact List.set_getElem_self _
  have hpl:=h2.1 p (by rw[← hp];exact List.getElem_mem _)
  refine rg ?_;conv=>whnf
  refine⟨by omega,by show _<n.ports.length;omega,?_⟩
  conv=>whnf
  refine⟨hne,?_⟩
  conv=>whnf
  refine⟨E,by omega,?_⟩
  rw[hp]
  conv=>whnf
  refine Au (L5 p.tagged hpl) F95 E E E qy E ?_
  refine rd qy ?_;conv=>whnf
  refine⟨by omega,by show _<n.ports.length;omega,?_⟩
  conv=>whnf
  refine⟨hne,?_⟩
  conv=>whnf
  refine⟨E,by omega,p,(by rw[hp];rfl),(by rw[hp];rfl),?_⟩
  conv=>whnf
  refine⟨qy,?_⟩
  conv=>whnf
  refine⟨by unfold I64;omega,?_⟩
  conv=>whnf
  exact Aq [] hlt ⟨⟨E,E,E,E,E,E,E,E,Y⟩,⟨.inl E,E,.inl E,E,.inl (congrArg (Ob.row 7 Bj) hset.symm),E,.inl E,E,.inl E,E,.inl E,E,Y⟩,E,E⟩
 ·refine rg ?_;conv=>whnf
  refine At n.domains.length (fun j=>[(2,.ptr 2 0),(3,.ptr 3 0),(55,Aa n.domains.length),(56,Aa j)]) (fun _=>[(2,.box [.val (.slice none 0 0),.val (.slice none 0 0),.val (.slice none 0 0),.val (.slice none 0 0),.val (.slice none 0 0),.val (.slice none 0 0),.val (.slice none 0 0),.val (.slice none 0 0)]),(3,.box [.sl 5 Bt n.devices,.osl 14,.sl 3 Cu n.links,.osl 20,.sl 4 Br n.statics,.osl 26,.osl 29,.sl 5 Du n.irbs]),(14,.row 7 Bj n.ports),(20,.row 6 A1 n.domains),(26,.row 4 Ca n.floods),(29,.row 5 C6 n.vrfs)]) []
   ⟨⟨rfl,rfl,rfl,rfl,rfl,rfl,rfl,rfl,trivial⟩,⟨.inl rfl,rfl,.inl rfl,rfl,.inl rfl,rfl,.inl rfl,rfl,.inl rfl,rfl,.inl rfl,rfl,trivial⟩,rfl,rfl⟩ ?_
  intro j hj
  refine rg ?_;conv=>whnf
  refine⟨fun h=>?_,fun h=>?_⟩
  ·have hlt:j<n.domains.length:=by simpa using h
   obtain ⟨p,hp⟩:∃ p,n.domains[(j:Int).toNat]'qn=p:=⟨_,rfl⟩
   have hne:n.domains≠[]:=fun e=>by rw[e]at hlt;cases hlt
   have hset:n.domains.set (j:Int).toNat p=n.domains:=by rw[← hp];exact List.set_getElem_self _
   have hpl:=h2.2.1 p (by rw[← hp];exact List.getElem_mem _)
   refine rg ?_;conv=>whnf
   refine⟨by omega,by show _<n.domains.length;omega,?_⟩
   conv=>whnf
   refine⟨hne,?_⟩
   conv=>whnf
   refine⟨E,by omega,?_⟩
   rw[hp]
   conv=>whnf
   refine Au (L5 p.peers hpl) F95 E E E qy E ?_
   refine rd qy ?_;conv=>whnf
   refine⟨by omega,by show _<n.domains.length;omega,?_⟩
   conv=>whnf
   refine⟨hne,?_⟩
   conv=>whnf
   refine⟨E,by omega,p,(by rw[hp];rfl),(by rw[hp];rfl),?_⟩
   conv=>whnf
   refine⟨qy,?_⟩
   conv=>whnf
   refine⟨by unfold I64;omega,?_⟩
   conv=>whnf
   exact Aq [] hlt ⟨⟨E,E,E,E,E,E,E,E,Y⟩,⟨.inl E,E,.inl E,E,.inl E,E,.inl (congrArg (Ob.row 6 A1) hset.symm),E,.inl E,E,.inl E,E,Y⟩,E,E⟩
  ·refine rg ?_;conv=>whnf
   refine At n.floods.length (fun j=>[(2,.ptr 2 0),(3,.ptr 3 0),(74,Aa n.floods.length),(75,Aa j)]) (fun _=>[(2,.box [.val (.slice none 0 0),.val (.slice none 0 0),.val (.slice none 0 0),.val (.slice none 0 0),.val (.slice none 0 0),.val (.slice none 0 0),.val (.slice none 0 0),.val (.slice none 0 0)]),(3,.box [.sl 5 Bt n.devices,.osl 14,.sl 3 Cu n.links,.osl 20,.sl 4 Br n.statics,.osl 26,.osl 29,.sl 5 Du n.irbs]),(14,.row 7 Bj n.ports),(20,.row 6 A1 n.domains),(26,.row 4 Ca n.floods),(29,.row 5 C6 n.vrfs)]) []
    ⟨⟨rfl,rfl,rfl,rfl,rfl,rfl,rfl,rfl,trivial⟩,⟨.inl rfl,rfl,.inl rfl,rfl,.inl rfl,rfl,.inl rfl,rfl,.inl rfl,rfl,.inl rfl,rfl,trivial⟩,rfl,rfl⟩ ?_
   intro j hj
   refine rg ?_;conv=>whnf
   refine⟨fun h=>?_,fun h=>?_⟩
   ·have hlt:j<n.floods.length:=by simpa using h
    obtain ⟨p,hp⟩:∃ p,n.floods[(j:Int).toNat]'qn=p:=⟨_,rfl⟩
    have hne:n.floods≠[]:=fun e=>by rw[e]at hlt;cases hlt
    have hset:n.floods.set (j:Int).toNat p=n.floods:=by rw[← hp];exact List.set_getElem_self _
    have hpl:=h2.2.2.1 p (by rw[← hp];exact List.getElem_mem _)
    refine rg ?_;conv=>whnf
    refine⟨by omega,by show _<n.floods.length;omega,?_⟩
    conv=>whnf
    refine⟨hne,?_⟩
    conv=>whnf
    refine⟨E,by omega,?_⟩
    rw[hp]
    conv=>whnf
    refine Au (Amx p.addrs hpl) F96 E E E qy E ?_
    refine rd qy ?_;conv=>whnf
    refine⟨by omega,by show _<n.floods.length;omega,?_⟩
    conv=>whnf
    refine⟨hne,?_⟩
    conv=>whnf
    refine⟨E,by omega,p,(by rw[hp];rfl),(by rw[hp];rfl),?_⟩
    conv=>whnf
    refine⟨qy,?_⟩
    conv=>whnf
    refine⟨by unfold I64;omega,?_⟩
    conv=>whnf
    exact Aq [] hlt ⟨⟨E,E,E,E,E,E,E,E,Y⟩,⟨.inl E,E,.inl E,E,.inl E,E,.inl E,E,.inl (congrArg (Ob.row 4 Ca) hset.symm),E,.inl E,E,Y⟩,E,E⟩
   ·refine rg ?_;conv=>whnf
    refine At n.vrfs.length (fun j=>[(2,.ptr 2 0),(3,.ptr 3 0),(93,Aa n.vrfs.length),(94,Aa j)]) (fun _=>[(2,.box [.val (.slice none 0 0),.val (.slice none 0 0),.val (.slice none 0 0),.val (.slice none 0 0),.val (.slice none 0 0),.val (.slice none 0 0),.val (.slice none 0 0),.val (.slice none 0 0)]),(3,.box [.sl 5 Bt n.devices,.osl 14,.sl 3 Cu n.links,.osl 20,.sl 4 Br n.statics,.osl 26,.osl 29,.sl 5 Du n.irbs]),(14,.row 7 Bj n.ports),(20,.row 6 A1 n.domains),(26,.row 4 Ca n.floods),(29,.row 5 C6 n.vrfs)]) []
     ⟨⟨rfl,rfl,rfl,rfl,rfl,rfl,rfl,rfl,trivial⟩,⟨.inl rfl,rfl,.inl rfl,rfl,.inl rfl,rfl,.inl rfl,rfl,.inl rfl,rfl,.inl rfl,rfl,trivial⟩,rfl,rfl⟩ ?_
    intro j hj
    refine rg ?_;conv=>whnf
    refine⟨fun h=>?_,fun h=>?_⟩
    ·have hlt:j<n.vrfs.length:=by simpa using h
     obtain ⟨p,hp⟩:∃ p,n.vrfs[(j:Int).toNat]'qn=p:=⟨_,rfl⟩
     have hne:n.vrfs≠[]:=fun e=>by rw[e]at hlt;cases hlt
     have hset:n.vrfs.set (j:Int).toNat p=n.vrfs:=by rw[← hp];exact List.set_getElem_self _
     have hpl:=h2.2.2.2 p (by rw[← hp];exact List.getElem_mem _)
     refine rg ?_;conv=>whnf
     have hne2:n.vrfs.set (j:Int).toNat p≠[]:=by rw[hset];exact hne
     have hp2:(n.vrfs.set (j:Int).toNat p)[(j:Int).toNat]'(by rw[hset];omega)=p:=by simp
     have hset2:(n.vrfs.set (j:Int).toNat p).set (j:Int).toNat p=n.vrfs:=by rw[hset,hset]
     refine⟨by omega,by show _<n.vrfs.length;omega,?_⟩
     conv=>whnf
     refine Bn (Dr E (.inr (.inr (.inr ⟨29,5,_,0,E,fun κ w h=>Qo hne h,E⟩)))) qy E ?_
     refine rd qy ?_;conv=>whnf
     refine⟨hne,?_⟩
     conv=>whnf
     refine⟨E,by omega,?_⟩
     rw[hp]
     conv=>whnf
     refine Au (L5 p.imports hpl.1) F95 E E E qy E ?_
     refine rd qy ?_;conv=>whnf
     refine Bn (Dr E (.inr (.inr (.inr ⟨29,5,_,0,E,fun κ w h=>Qo hne h,E⟩)))) qy E ?_
     refine rd qy ?_;conv=>whnf
     refine⟨hne,?_⟩
     conv=>whnf
     refine⟨E,by omega,?_⟩
     rw[hp]
     conv=>whnf
     refine Au (L5 p.exports hpl.2) F95 E E E qy E ?_
     refine rd qy ?_;conv=>whnf
     refine Bn (Dr E (.inr (.inr (.inr ⟨29,5,_,0,E,fun κ w h=>Qo hne h,E⟩)))) qy E ?_
     refine rd qy ?_;conv=>whnf
     refine⟨hne,?_⟩
     conv=>whnf
     refine⟨E,by omega,p,(by rw[hp];rfl),(by rw[hp];rfl),?_⟩
     conv=>whnf
     refine Bn (Dr E (.inr (.inr (.inr ⟨29,5,_,0,E,fun κ w h=>Qo hne2 h,E⟩)))) qy E ?_
     refine rd qy ?_;conv=>whnf
     refine⟨hne2,?_⟩
     conv=>whnf
     refine⟨E,by rw[hset];omega,p,(by rw[hp2];rfl),(by rw[hp2];rfl),?_⟩
     conv=>whnf
     refine⟨qy,?_⟩
     conv=>whnf
     refine⟨by unfold I64;omega,?_⟩
     conv=>whnf
     exact Aq [] hlt ⟨⟨E,E,E,E,E,E,E,E,Y⟩,⟨.inl E,E,.inl E,E,.inl E,E,.inl E,E,.inl E,E,.inl (congrArg (Ob.row 5 C6) hset2.symm),E,Y⟩,E,E⟩
    ·refine rg ?_;conv=>whnf
     refine As 14 E ?_
     refine As 20 E ?_
     refine As 26 E ?_
     refine As 29 E ?_
     exact Ac E (.cons (.cell E E E E) .nil) E E
theorem Ix (l:List UInt8) (hl:l.length<2147483648):Sy.Spec Tryz.prog 63 [.sl 1 Aj l] [] (.sl 1 Aj l) []:=Ab Γ hm 100 F63 Tryz.ntmps63 rfl fun F hF=>by
 conv=>whnf
 refine D7 E (.inl E) E E E .sl E E ?_
 intro b hb
 cases b
 ·(refine rg ?_;(conv=>whnf);refine aF ?_;refine rg ?_;conv=>whnf)
  refine Ai (Ae Γ.toTy 7 E E E E E (.lit (e:=Aj) (l:=[]) E E) .sl za (by simp;omega) (by simp;omega)) E E ?_
  refine As 7 E ?_
  refine rg ?_;conv=>whnf
  exact Ac E (.cons .tmp .nil) E E
 ·have h0:l=[]:=List.eq_nil_of_length_eq_zero (hb rfl)
  subst h0
  (refine rg ?_;(conv=>whnf);refine aT ?_;refine rg ?_;conv=>whnf)
  refine An 2 1 Aj E ?_
  exact Ac E (.cons .tmp .nil) E E
theorem cut6 (b:List UInt8) (k j:Nat) (hj:j<6) (h:k+6≤b.length):E8 (((b.drop k).take 6).take (j+1))=E8 (((b.drop k).take 6).take j) * 256+(b[k+j]'qn).toNat:=by
 rw[Vi _ (by rw[List.length_take,List.length_drop];omega)]
 congr 2
 rw[List.getElem_take,List.getElem_drop]
theorem Afj (b:List UInt8) (k:Nat) (h:k+6≤b.length) (hb:b.length<100000):Sy.Spec Tryz.prog 237 [.sl 1 Aj b,Aa k] [] (.tup [Az (E8 ((b.drop k).take 6)),Ad true]) []:=Ab Γ hm 100 F237 Tryz.ntmps237 rfl fun F hF=>by
 ((conv=>whnf);refine aF ?_;refine rg ?_;conv=>whnf)
 refine⟨by unfold I64;omega,?_⟩
 conv=>whnf
 (refine⟨fun h=>False.elim (by simp at h;omega),fun _=>?_⟩;refine rg ?_;conv=>whnf)
 refine At 6 (fun j=>[(0,.sl 1 Aj b),(1,Aa k),(6,Az (E8 (((b.drop k).take 6).take j))),(17,Aa j)]) (fun _=>[]) [] ⟨⟨E,E,E,E,E,E,E,E,Y⟩,Y,E,E⟩ ?_
 intro j hj
 have hlt2:=Jp _ (((b.drop k).take 6).take j) rfl
 refine rg ?_;conv=>whnf
 refine⟨fun h2=>?_,fun h2=>?_⟩
 ·have hj6:j<6:=by have:=of_decide_eq_true h2;omega
  have hs:=cut6 b k j hj6 h
  have hll:(((b.drop k).take 6).take j).length=j:=by rw[List.length_take,List.length_take,List.length_drop];omega
  rw[hll]at hlt2
  have h5:E8 (((b.drop k).take 6).take j)<1099511627776:=Nat.lt_of_lt_of_le hlt2 (by
   have:(256:Nat) ^ j≤256 ^ 5:=Nat.pow_le_pow_right qz qn
   exact this)
  have hi0:((k:Int)+(j:Int)).toNat<b.length:=by omega
  obtain ⟨c,hc⟩:∃ c,b[((k:Int)+(j:Int)).toNat]'hi0=c:=⟨_,rfl⟩
  have hc':b[k+j]'qn=c:=by rw[← hc];congr 1
  rw[hc']at hs
  have hcat:=Aq0 _ c h5
  refine rg ?_;conv=>whnf
  refine⟨by decide,?_⟩
  conv=>whnf
  refine⟨by unfold I64;omega,?_⟩
  conv=>whnf
  refine⟨E,by omega,hi0,?_⟩
  rw[hc]
  conv=>whnf
  refine⟨by unfold I64;omega,?_⟩
  conv=>whnf
  exact Aq [] hj6 ⟨⟨E,E,E,E,congrArg (fun z:Int=>SV.val (.int .u64 z)) (hcat.trans (congrArg Int.ofNat hs.symm)).symm,E,E,E,Y⟩,Y,E,E⟩
 ·have hj6:j=6:=by have:=of_decide_eq_false h2;omega
  subst hj6
  rw[List.take_take,Nat.min_self]
  refine rg ?_;conv=>whnf
  exact Ac E (.cons .tmp (.cons .tmp .nil)) E E
theorem Acp (l:List UInt8) (h:l.length≤6):Sy.Spec Tryz.prog 208 [.sl 1 Aj l] [] (Az (E8 l)) []:=Ab Γ hm 100 F208 Tryz.ntmps208 rfl fun F hF=>by
 conv=>whnf
 refine At l.length (fun j=>[(0,.sl 1 Aj l),(3,Az (E8 (l.take j))),(4,Aa j)]) (fun _=>[]) [] ⟨⟨E,E,E,E,E,E,Y⟩,Y,E,E⟩ ?_
 intro j hj
 have hlt2:=Jp _ (l.take j) rfl
 refine rg ?_;conv=>whnf
 refine⟨fun h2=>?_,fun h2=>?_⟩
 ·have hlt:j<l.length:=by have:=of_decide_eq_true h2;omega
  have hj0:((j:Nat):Int).toNat<l.length:=by simpa using hlt
  have hs:=Vi l hlt
  have hll:(l.take j).length=j:=by rw[List.length_take];omega
  rw[hll]at hlt2
  have h5:E8 (l.take j)<1099511627776:=Nat.lt_of_lt_of_le hlt2 (by
   have:(256:Nat) ^ j≤256 ^ 5:=Nat.pow_le_pow_right qz qn
   exact this)
  obtain ⟨c,hc⟩:∃ c,l[((j:Nat):Int).toNat]'hj0=c:=⟨_,rfl⟩
  have hc':l[j]=c:=hc
  rw[hc']at hs
  have hcn:=c.toNat_lt
  generalize E8 (l.take j)=m at *
  refine rg ?_;conv=>whnf
  refine⟨E,by omega,hj0,?_⟩
  rw[hc]
  conv=>whnf
  refine⟨by unfold I64;omega,?_⟩
  conv=>whnf
  refine Aq [] hlt ⟨⟨E,E,congrArg (fun z:Int=>SV.val (.int .u64 z)) ?_,E,E,E,Y⟩,Y,E,E⟩
  rw[hs,IntKind.wrap_u64,IntKind.wrap_u64,IntKind.wrap_u64]
  omega
 ·have hje:j=l.length:=by have:=of_decide_eq_false h2;omega
  subst hje
  rw[List.take_length]
  refine rg ?_;conv=>whnf
  exact Ac E (.cons .tmp .nil) E E
theorem Yg (b:List UInt8) (k:Nat) (h:k+6≤b.length) (hb:b.length<100000):Sy.Spec Tryz.prog 140 [.sl 1 Aj b,Aa k] [] (.tup [Az (E8 ((b.drop k).take 6)),Ad true]) []:=Ab Γ hm 100 F140 Tryz.ntmps140 rfl fun F hF=>by
 have e:(b.take (k+6)).drop k=(b.drop k).take 6:=by rw[List.drop_take];congr 1;omega
 have q:=Acp ((b.take (k+6)).drop k) (by rw[e,List.length_take];omega)
 rw[← e]
 ((conv=>whnf);refine aF ?_;refine rg ?_;conv=>whnf)
 (refine⟨fun h=>False.elim (by simp at h;omega),fun _=>?_⟩;refine rg ?_;conv=>whnf)
 refine⟨by unfold I64;omega,?_⟩
 conv=>whnf
 (refine⟨fun h=>False.elim (by simp at h;omega),fun _=>?_⟩;refine rg ?_;conv=>whnf)
 refine⟨by unfold I64;omega,?_⟩
 conv=>whnf
 refine Ai (Bc (lo:=k) (hi:=k+6) Γ.toTy E E E E (.inr ⟨_,_,E,E⟩) (.inr ⟨_,_,E,E⟩) qn h) E E ?_
 refine rg ?_;conv=>whnf
 refine Ah q F208 E E E E E ?_
 refine rg ?_;conv=>whnf
 exact Ac E (.cons .tmp (.cons .tmp .nil)) E E
theorem Xt (a b:UInt8):E8 [a,b]=a.toNat * 256+b.toNat:=by simp[E8]
theorem M9 {b:List UInt8} {k:Nat} (h:k+2≤b.length):(b.drop k).take 2=[b[k]'qn,b[k+1]'qn]:=by
 rw[List.drop_eq_getElem_cons (by omega:k<b.length),List.drop_eq_getElem_cons (by omega:k+1<b.length)];rfl
theorem Tg (b:List UInt8) (hb:b.length<100000):Sy.Spec Tryz.prog 165 [.sl 1 Aj b] [] (.tup [Bh (takeF b).1,Aa (takeF b).2]) []:=Ab Γ hm 100 F165 Tryz.ntmps165 rfl fun F hF=>by
 have hres:=takeF.eq_1 b
 generalize takeF b=res at *
 conv=>whnf
 refine⟨fun h=>?_,fun h=>?_⟩
 ·rw[if_pos (by have:=of_decide_eq_true h;omega)]at hres
  subst hres
  refine rg ?_;conv=>whnf
  refine Av 2 [Az 0,Az 0,Aa 0,.sl 1 Aj []] E (.cons (.refl _) (.cons (.refl _) (.cons (.refl _) (.cons .nil .nil)))) ?_
  exact Ac E (.cons (.cell E E E E) (.cons .tmp .nil)) E E
 rw[if_neg (by have:=of_decide_eq_false h;omega)]at hres
 have h14:14≤b.length:=by have:=of_decide_eq_false h;omega
 refine rg ?_;conv=>whnf
 refine⟨fun h=>?_,fun h=>?_⟩
 ·rw[if_pos (by have:=of_decide_eq_true h;omega)]at hres
  subst hres
  refine rg ?_;conv=>whnf
  refine Av 2 [Az 0,Az 0,Aa 0,.sl 1 Aj []] E (.cons (.refl _) (.cons (.refl _) (.cons (.refl _) (.cons .nil .nil)))) ?_
  exact Ac E (.cons (.cell E E E E) (.cons .tmp .nil)) E E
 rw[if_neg (by have:=of_decide_eq_false h;omega)]at hres
 have q1:=Afj b 0 qn hb
 have q2:=Afj b 6 qn hb
 rw[M9 qn,Xt]at hres
 have hp:=E5 (b[12]'qn) (b[13]'qn)
 have hdl:(b.drop 14).length=b.length-14:=List.length_drop
 have hn:((b.length:Int)-14)=((b.length-14:Nat):Int):=by omega
 have hcp:(b.drop 14).take (List.replicate (b.length-14) (0:UInt8)).length++(List.replicate (b.length-14) (0:UInt8)).drop (b.drop 14).length=b.drop 14:=by
  have e1:(List.replicate (b.length-14) (0:UInt8)).drop (b.length-14)=[]:=List.drop_eq_nil_of_le za
  rw[List.length_replicate,hdl,e1,List.append_nil]
  exact List.take_of_length_le qn
 have etk:(b.take b.length).drop 14=b.drop 14:=by rw[List.take_length]
 have i12:(12:Int).toNat<b.length:=by show 12<_;omega
 have i13:(13:Int).toNat<b.length:=by show 13<_;omega
 refine rg ?_;conv=>whnf
 refine Ah q1 F237 E E E E E ?_
 refine rg ?_;conv=>whnf
 refine Ah q2 F237 E E E E E ?_
 refine rg ?_;conv=>whnf
 refine⟨by unfold I64;omega,?_⟩
 conv=>whnf
 refine Ai (B1 Γ.toTy (d:=32) (n:=b.length-14) Aj 0 E E E E E E (congrArg (fun z=>SV.val (.int .i64 z)) hn) (congrArg (fun z=>SV.val (.int .i64 z)) hn) qn qn E E E) E E ?_
 refine rg ?_;conv=>whnf
 refine Ai (Bc (lo:=14) (hi:=b.length) Γ.toTy E E E E (.inr ⟨_,_,E,E⟩) (.inl ⟨E,E⟩) qn (Nat.le_refl _)) E E ?_
 rw[etk]
 refine rg ?_;conv=>whnf
 refine Ai (V1 Γ.toTy E E E E E .sl) E E ?_
 rw[hcp]
 refine As 32 E ?_
 refine rg ?_;conv=>whnf
 refine⟨E,by decide,i12,?_⟩
 conv=>whnf
 refine⟨by decide,?_⟩
 conv=>whnf
 refine⟨E,by decide,i13,?_⟩
 conv=>whnf
 refine⟨qy,?_⟩
 conv=>whnf
 refine Ac E (.cons (.cell E E E E) (.cons .tmp .nil)) ?_ E
 rw[hres]
 show SV.tup [.agg [_,_,Aa ((b[12].toNat * 256+b[13].toNat:Nat):Int),_],_]=_
 rw[← hp]
 rfl
theorem Lv (m:Nat) (h:m<18446744073709551616):Sy.Spec Tryz.prog 162 [Az m] [] (Ad (D1 m)) []:=Ab Γ hm 100 F162 Tryz.ntmps162 rfl fun F hF=>by
 have e:=Aml m h
 conv=>whnf
 refine Ac E (.cons .tmp .nil) ?_ E
 exact congrArg Ad e.symm
theorem I7 (m:Nat) (h:m<18446744073709551616):Sy.Spec Tryz.prog 77 [Az m] [] (Ad (D1 m)) []:=Ab Γ hm 100 F77 Tryz.ntmps77 rfl fun F hF=>by
 have e:=App m
 have hl:(be 6 m).length=6:=A4 m 6
 have h0:(0:Int).toNat<(be 6 m).length:=by rw[hl];decide
 have hg:(be 6 m)[(0:Int).toNat]'h0=UInt8.ofNat (m / 256 ^ 5):=rfl
 conv=>whnf
 refine Ai (Ak [(0,4)] E F141 (Ajh m h) E Y E ⟨.inr E,Y⟩) E E ?_
 refine As 4 E ?_
 refine rg ?_;conv=>whnf
 refine⟨E,by decide,h0,?_⟩
 rw[hg]
 conv=>whnf
 refine⟨by decide,?_⟩
 conv=>whnf
 refine Ac E (.cons .tmp .nil) ?_ E
 refine congrArg Ad ?_
 rw[← e,Bool.eq_iff_iff]
 rw[Int.tmod_eq_emod_of_nonneg qn]
 simp
 omega
theorem Ql (f:FrameM):Sy.Spec Tryz.prog 166 [Bh f] [] (Ad (decide (f.typ=33024))) []:=Ab Γ hm 100 F166 Tryz.ntmps166 rfl fun F hF=>by
 conv=>whnf
 refine Ac E (.cons .tmp .nil) ?_ E
 refine congrArg Ad ?_
 rw[Bool.eq_iff_iff];simp;omega
theorem Mt (p:Port) (tg:Bool) (vid:Int) (hl:Ar p.tagged):Sy.Spec Tryz.prog 168 [Bj p,Ad tg,Aa vid] [] (.tup [Aa (vlanT p tg vid).1,Ad (vlanT p tg vid).2]) []:=Ab Γ hm 100 F168 Tryz.ntmps168 rfl fun F hF=>by
 have hres:=vlanT.eq_1 p tg vid
 generalize vlanT p tg vid=res at *
 have q:=D2 p.tagged vid hl
 have hz:decide (p.native≠0)=(p.native != 0):=by rw[Bool.eq_iff_iff];simp
 rw[hz]at hres
 cases tg
 ·rw[if_pos (.inl rfl)]at hres
  subst hres
  ((conv=>whnf);refine aT ?_;refine rg ?_;conv=>whnf)
  refine⟨qy,?_⟩
  conv=>whnf
  exact Ac E (.cons .tmp (.cons .tmp .nil)) E E
 ((conv=>whnf);refine aF ?_;refine rg ?_;conv=>whnf)
 refine⟨fun h=>?_,fun h=>?_⟩
 ·rw[if_pos (.inr (by simpa using h))]at hres
  subst hres
  refine rg ?_;conv=>whnf
  refine⟨qy,?_⟩
  conv=>whnf
  exact Ac E (.cons .tmp (.cons .tmp .nil)) E E
 rw[if_neg (by simpa using h)]at hres
 refine rg ?_;conv=>whnf
 refine Ah q F86 E E E E E ?_
 cases hi:inB p.tagged vid
 ·rw[if_neg (by simp[hi])]at hres
  subst hres
  (refine rg ?_;(conv=>whnf);refine aF ?_;refine rg ?_;conv=>whnf)
  exact Ac E (.cons .tmp (.cons .tmp .nil)) E E
 ·rw[if_pos hi]at hres
  subst hres
  (refine rg ?_;(conv=>whnf);refine aT ?_;refine rg ?_;conv=>whnf)
  exact Ac E (.cons .tmp (.cons .tmp .nil)) E E
theorem Yd (p:Port) (tg:Bool) (vid:Int) (hl:Ar p.tagged):Sy.Spec Tryz.prog 78 [Bj p,Ad tg,Aa vid] [] (.tup [Aa (vlanT p tg vid).1,Ad (vlanT p tg vid).2]) []:=Ab Γ hm 100 F78 Tryz.ntmps78 rfl fun F hF=>by
 have hres:=vlanT.eq_1 p tg vid
 generalize vlanT p tg vid=res at *
 have q:=Et p.tagged vid hl
 have hz:decide (p.native≠0)=(p.native != 0):=by rw[Bool.eq_iff_iff];simp
 rw[hz]at hres
 cases tg
 ·rw[if_pos (.inl rfl)]at hres
  subst hres
  ((conv=>whnf);refine aT ?_;refine rg ?_;(conv=>whnf);refine aT ?_;refine rg ?_;conv=>whnf)
  refine⟨qy,?_⟩
  conv=>whnf
  exact Ac E (.cons .tmp (.cons .tmp .nil)) E E
 ((conv=>whnf);refine aF ?_;refine rg ?_;conv=>whnf)
 refine⟨fun h=>?_,fun h=>?_⟩
 ·rw[if_pos (.inr (by simpa using h))]at hres
  subst hres
  refine rg ?_;conv=>whnf
  refine⟨qy,?_⟩
  conv=>whnf
  exact Ac E (.cons .tmp (.cons .tmp .nil)) E E
 rw[if_neg (by simpa using h)]at hres
 refine rg ?_;conv=>whnf
 refine Ah q F142 E E E E E ?_
 cases hi:inB p.tagged vid
 ·rw[if_neg (by simp[hi])]at hres
  subst hres
  (refine rg ?_;(conv=>whnf);refine aF ?_;refine rg ?_;conv=>whnf)
  exact Ac E (.cons .tmp (.cons .tmp .nil)) E E
 ·rw[if_pos hi]at hres
  subst hres
  (refine rg ?_;(conv=>whnf);refine aT ?_;refine rg ?_;conv=>whnf)
  exact Ac E (.cons .tmp (.cons .tmp .nil)) E E
theorem Lt (a b:UInt8):IntKind.i64.wrap (a.toNat:Int) * 256+IntKind.i64.wrap (b.toNat:Int)=((a.toNat * 256+b.toNat:Nat):Int):=by
 have h1:=a.toNat_lt
 have h2:=b.toNat_lt
 rw[IntKind.wrap_i64,IntKind.wrap_i64];omega
theorem S5 (b:List UInt8) (hb:b.length<100000):Sy.Spec Tryz.prog 75 [.sl 1 Aj b] [] (.tup [Bh (takeF b).1,Aa (takeF b).2]) []:=Ab Γ hm 100 F75 Tryz.ntmps75 rfl fun F hF=>by
 have hres:=takeF.eq_1 b
 generalize takeF b=res at *
 conv=>whnf
 refine⟨fun h=>?_,fun h=>?_⟩
 ·rw[if_pos (by have:=of_decide_eq_true h;omega)]at hres
  subst hres
  refine rg ?_;conv=>whnf
  refine Av 2 [Az 0,Az 0,Aa 0,.sl 1 Aj []] E (.cons (.refl _) (.cons (.refl _) (.cons (.refl _) (.cons .nil .nil)))) ?_
  exact Ac E (.cons (.cell E E E E) (.cons .tmp .nil)) E E
 rw[if_neg (by have:=of_decide_eq_false h;omega)]at hres
 have h14:14≤b.length:=by have:=of_decide_eq_false h;omega
 refine rg ?_;conv=>whnf
 refine⟨fun h=>?_,fun h=>?_⟩
 ·rw[if_pos (by have:=of_decide_eq_true h;omega)]at hres
  subst hres
  refine rg ?_;conv=>whnf
  refine Av 2 [Az 0,Az 0,Aa 0,.sl 1 Aj []] E (.cons (.refl _) (.cons (.refl _) (.cons (.refl _) (.cons .nil .nil)))) ?_
  exact Ac E (.cons (.cell E E E E) (.cons .tmp .nil)) E E
 rw[if_neg (by have:=of_decide_eq_false h;omega)]at hres
 have q1:=Yg b 0 qn hb
 have q2:=Yg b 6 qn hb
 rw[M9 qn,Xt]at hres
 have hp:=Lt (b[12]'qn) (b[13]'qn)
 have hx1:=(b[12]'qn).toNat_lt
 have hx2:=(b[13]'qn).toNat_lt
 have etk:(b.take b.length).drop 14=b.drop 14:=by rw[List.take_length]
 have hdl:(b.drop 14).length=b.length-14:=List.length_drop
 have i12:(12:Int).toNat<b.length:=by show 12<_;omega
 have i13:(13:Int).toNat<b.length:=by show 13<_;omega
 have e12:b[(12:Int).toNat]'i12=b[12]'qn:=rfl
 have e13:b[(13:Int).toNat]'i13=b[13]'qn:=rfl
 generalize b[12]'qn=x at *
 generalize b[13]'qn=y at *
 have w1:IntKind.i64.wrap (x.toNat:Int)=x.toNat:=by rw[IntKind.wrap_i64];omega
 refine rg ?_;conv=>whnf
 refine Ah q1 F140 E E E E E ?_
 refine rg ?_;conv=>whnf
 refine Ah q2 F140 E E E E E ?_
 refine rg ?_;conv=>whnf
 refine⟨E,by decide,i12,?_⟩
 rw[e12]
 conv=>whnf
 refine⟨by rw[w1];unfold I64;omega,?_⟩
 conv=>whnf
 refine⟨E,by decide,i13,?_⟩
 rw[e13]
 conv=>whnf
 refine⟨by rw[hp];unfold I64;omega,?_⟩
 rw[hp]
 conv=>whnf
 refine Bn (Bc (lo:=14) (hi:=b.length) Γ.toTy E E E E (.inr ⟨_,_,E,E⟩) (.inl ⟨E,E⟩) qn (Nat.le_refl _)) qy E ?_
 refine rd qy ?_;conv=>whnf
 refine Bn (Ae Γ.toTy 41 E E E E E (.lit (e:=Aj) (l:=[]) E E) .sl za (by simp;omega) (by simp;omega)) qy E ?_
 refine rd qy ?_;conv=>whnf
 refine⟨qy,?_⟩
 conv=>whnf
 refine As 41 E ?_
 refine Ac E (.cons (.cell E E E E) (.cons .tmp .nil)) ?_ E
 rw[hres]
 show SV.tup [.agg [_,_,_,.sl 1 Aj (b.drop 14)],_]=SV.tup [.agg [_,_,_,.sl 1 Aj ([]++(b.take b.length).drop 14)],_]
 rw[etk]
 rfl
theorem Aqj (n:Nat) (h:n<9223372036854775808):bits .and .i64 (n:Int) 4095=((n % 4096:Nat):Int):=by
 have:=Iy n 4095 h qz
 rw[show ((4095:Nat):Int)=4095 from rfl]at this
 rw[this]
 have h2:=Nat.and_two_pow_sub_one_eq_mod n 12
 rw[show 2 ^ 12-1=4095 from rfl,show 2 ^ 12=4096 from rfl]at h2
 rw[h2]
theorem Adw {b:List UInt8} (h:4≤b.length):b.take 2=[b[0]'qn,b[1]'qn]∧(b.drop 2).take 2=[b[2]'qn,b[3]'qn]:=by
 have h1:=M9 (b:=b) (k:=0) qn
 have h2:=M9 (b:=b) (k:=2) qn
 exact⟨h1,h2⟩
abbrev zF:List SV:=[Az 0,Az 0,Aa 0,.sl 1 Aj []]
theorem Aky (f:FrameM) (hb:f.body.length<100000):Sy.Spec Tryz.prog 167 [Bh f] [] (.tup [Bh (stripT f).1,Aa (stripT f).2.1,Aa (stripT f).2.2.1,Aa (stripT f).2.2.2]) []:=Ab Γ hm 100 F167 Tryz.ntmps167 rfl fun F hF=>by
 have hres:=stripT.eq_1 f
 generalize stripT f=res at *
 have q0:=Ql f
 obtain ⟨d,s,t,b⟩:=f
 dsimp only at hres hb q0
 conv=>whnf
 refine Ah q0 F166 E E E E E ?_
 by_cases ht:t=33024
 rotate_left
 ·rw[if_pos ht]at hres
  subst hres
  rw[decide_eq_false ht]
  (refine rg ?_;(conv=>whnf);refine aT ?_;refine rg ?_;conv=>whnf)
  refine Av 2 zF E (.cons (.refl _) (.cons (.refl _) (.cons (.refl _) (.cons .nil .nil)))) ?_
  exact Ac E (.cons (.cell E E E E) (.cons .tmp (.cons .tmp (.cons .tmp .nil)))) E E
 rw[if_neg (by simpa using ht)]at hres
 rw[decide_eq_true ht]
 (refine rg ?_;(conv=>whnf);refine aF ?_;refine rg ?_;conv=>whnf)
 refine⟨fun h=>?_,fun h=>?_⟩
 ·rw[if_pos (by have:=of_decide_eq_true h;dsimp only at this;omega)]at hres
  subst hres
  refine rg ?_;conv=>whnf
  refine Av 2 zF E (.cons (.refl _) (.cons (.refl _) (.cons (.refl _) (.cons .nil .nil)))) ?_
  exact Ac E (.cons (.cell E E E E) (.cons .tmp (.cons .tmp (.cons .tmp .nil)))) E E
 have h4:4≤b.length:=by have:=of_decide_eq_false h;dsimp only at this;omega
 rw[if_neg qn,(Adw h4).1,(Adw h4).2,Xt,Xt]at hres
 have c1:=Ix (b.drop 4) (by rw[List.length_drop];omega)
 have etk:(b.take b.length).drop 4=b.drop 4:=by rw[List.take_length]
 rw[← etk]at c1
 have i0:(0:Int).toNat<b.length:=by show 0<_;omega
 have i1:(1:Int).toNat<b.length:=by show 1<_;omega
 have i2:(2:Int).toNat<b.length:=by show 2<_;omega
 have i3:(3:Int).toNat<b.length:=by show 3<_;omega
 have e0:b[(0:Int).toNat]'i0=b[0]'qn:=rfl
 have e1:b[(1:Int).toNat]'i1=b[1]'qn:=rfl
 have e2:b[(2:Int).toNat]'i2=b[2]'qn:=rfl
 have e3:b[(3:Int).toNat]'i3=b[3]'qn:=rfl
 have hp1:=E5 (b[0]'qn) (b[1]'qn)
 have hp2:=E5 (b[2]'qn) (b[3]'qn)
 have l0:=(b[0]'qn).toNat_lt
 have l1:=(b[1]'qn).toNat_lt
 obtain ⟨P,hP⟩:∃ P,(b[0]'qn).toNat * 256+(b[1]'qn).toNat=P:=⟨_,rfl⟩
 obtain ⟨Q,hQ⟩:∃ Q,(b[2]'qn).toNat * 256+(b[3]'qn).toNat=Q:=⟨_,rfl⟩
 have hPl:P<65536:=by omega
 rw[hP]at hp1 hres
 rw[hQ]at hp2 hres
 have ha:=Aqj P qn
 have hs:(P:Int).fdiv (2 ^ (min (Int.toNat 12) IntKind.i64.bits))=((P / 4096:Nat):Int):=Ajw P 12 qz
 refine rg ?_;conv=>whnf
 refine⟨E,by decide,i0,?_⟩
 rw[e0]
 conv=>whnf
 refine⟨by decide,?_⟩
 conv=>whnf
 refine⟨E,by decide,i1,?_⟩
 rw[e1]
 conv=>whnf
 refine⟨qy,?_⟩
 rw[hp1]
 conv=>whnf
 refine⟨E,by decide,i2,?_⟩
 rw[e2]
 conv=>whnf
 refine⟨by decide,?_⟩
 conv=>whnf
 refine⟨E,by decide,i3,?_⟩
 rw[e3]
 conv=>whnf
 refine⟨qy,?_⟩
 rw[hp2]
 conv=>whnf
 refine⟨by decide,?_⟩
 rw[ha,hs]
 conv=>whnf
 refine⟨fun h=>?_,fun h=>?_⟩
 ·rw[if_pos (.inl (by have:=of_decide_eq_true h;omega))]at hres
  subst hres
  refine rg ?_;conv=>whnf
  refine Av 2 zF E (.cons (.refl _) (.cons (.refl _) (.cons (.refl _) (.cons .nil .nil)))) ?_
  exact Ac E (.cons (.cell E E E E) (.cons .tmp (.cons .tmp (.cons .tmp .nil)))) E E
 have h5:¬ 4094<P % 4096:=by have:=of_decide_eq_false h;omega
 refine rg ?_;conv=>whnf
 refine⟨fun h=>?_,fun h=>?_⟩
 ·rw[if_pos (.inr (by have:(Q:Int)=33024:=(by simpa using h);omega))]at hres
  subst hres
  refine rg ?_;conv=>whnf
  refine Av 2 zF E (.cons (.refl _) (.cons (.refl _) (.cons (.refl _) (.cons .nil .nil)))) ?_
  exact Ac E (.cons (.cell E E E E) (.cons .tmp (.cons .tmp (.cons .tmp .nil)))) E E
 have h6:¬ Q=33024:=fun e=>by rw[e]at h;simp at h
 rw[if_neg qn]at hres
 subst hres
 refine rg ?_;conv=>whnf
 refine Bn (Bc (lo:=4) (hi:=b.length) Γ.toTy E E E E (.inr ⟨_,_,E,E⟩) (.inl ⟨E,E⟩) h4 (Nat.le_refl _)) qy E ?_
 refine rd qy ?_;conv=>whnf
 refine Au c1 F63 E E E qy E ?_
 refine rd qy ?_;conv=>whnf
 refine⟨qy,?_⟩
 conv=>whnf
 refine Ac E (.cons (.cell E E E E) (.cons .tmp (.cons .tmp (.cons .tmp .nil)))) ?_ E
 show SV.tup [.agg [_,_,_,.sl 1 Aj (b.drop 4)],_,_,_]=SV.tup [.agg [_,_,_,.sl 1 Aj ((b.take b.length).drop 4)],_,_,_]
 rw[etk]
 rfl
theorem Ae2 (f:FrameM) (hb:f.body.length<100000):Sy.Spec Tryz.prog 76 [Bh f] [] (.tup [Bh (stripT f).1,Aa (stripT f).2.1,Aa (stripT f).2.2.1,Aa (stripT f).2.2.2]) []:=Ab Γ hm 100 F76 Tryz.ntmps76 rfl fun F hF=>by
 have hres:=stripT.eq_1 f
 generalize stripT f=res at *
 obtain ⟨d,s,t,b⟩:=f
 dsimp only at hres hb
 conv=>whnf
 by_cases ht:t=33024
 rotate_left
 ·rw[if_pos ht]at hres
  subst hres
  refine⟨fun _=>?_,fun h=>absurd (show (t:Int)=33024 by simpa using h) qn⟩
  refine rg ?_;conv=>whnf
  refine Av 2 zF E (.cons (.refl _) (.cons (.refl _) (.cons (.refl _) (.cons .nil .nil)))) ?_
  exact Ac E (.cons (.cell E E E E) (.cons .tmp (.cons .tmp (.cons .tmp .nil)))) E E
 rw[if_neg (by simpa using ht)]at hres
 refine⟨fun h=>absurd (show (t:Int)≠33024 by simpa using h) qn,fun _=>?_⟩
 refine rg ?_;conv=>whnf
 refine⟨fun h=>?_,fun h=>?_⟩
 ·rw[if_pos (by have:=of_decide_eq_true h;dsimp only at this;omega)]at hres
  subst hres
  refine rg ?_;conv=>whnf
  refine Av 2 zF E (.cons (.refl _) (.cons (.refl _) (.cons (.refl _) (.cons .nil .nil)))) ?_
  exact Ac E (.cons (.cell E E E E) (.cons .tmp (.cons .tmp (.cons .tmp .nil)))) E E
 have h4:4≤b.length:=by have:=of_decide_eq_false h;dsimp only at this;omega
 rw[if_neg qn,(Adw h4).1,(Adw h4).2,Xt,Xt]at hres
 have etk:(b.take b.length).drop 4=b.drop 4:=by rw[List.take_length]
 have hdl:(b.drop 4).length=b.length-4:=List.length_drop
 have i0:(0:Int).toNat<b.length:=by show 0<_;omega
 have i1:(1:Int).toNat<b.length:=by show 1<_;omega
 have i2:(2:Int).toNat<b.length:=by show 2<_;omega
 have i3:(3:Int).toNat<b.length:=by show 3<_;omega
 have e0:b[(0:Int).toNat]'i0=b[0]'qn:=rfl
 have e1:b[(1:Int).toNat]'i1=b[1]'qn:=rfl
 have e2:b[(2:Int).toNat]'i2=b[2]'qn:=rfl
 have e3:b[(3:Int).toNat]'i3=b[3]'qn:=rfl
 have hp1:=Lt (b[0]'qn) (b[1]'qn)
 have hp2:=Lt (b[2]'qn) (b[3]'qn)
 have l0:=(b[0]'qn).toNat_lt
 have l1:=(b[1]'qn).toNat_lt
 have l2:=(b[2]'qn).toNat_lt
 have l3:=(b[3]'qn).toNat_lt
 generalize b[0]'qn=x0 at *
 generalize b[1]'qn=x1 at *
 generalize b[2]'qn=x2 at *
 generalize b[3]'qn=x3 at *
 have w0:IntKind.i64.wrap (x0.toNat:Int)=x0.toNat:=by rw[IntKind.wrap_i64];omega
 have w2:IntKind.i64.wrap (x2.toNat:Int)=x2.toNat:=by rw[IntKind.wrap_i64];omega
 obtain ⟨P,hP⟩:∃ P,x0.toNat * 256+x1.toNat=P:=⟨_,rfl⟩
 obtain ⟨Q,hQ⟩:∃ Q,x2.toNat * 256+x3.toNat=Q:=⟨_,rfl⟩
 have hPl:P<65536:=by omega
 have hQl:Q<65536:=by omega
 rw[hP]at hp1 hres
 rw[hQ]at hp2 hres
 have hmm:(P:Int).tmod 4096=((P % 4096:Nat):Int):=by rw[Int.tmod_eq_emod_of_nonneg qn];omega
 have hd:IntKind.i64.wrap ((P:Int).tdiv 4096)=((P / 4096:Nat):Int):=by rw[Int.tdiv_eq_ediv_of_nonneg qn,IntKind.wrap_i64];omega
 refine rg ?_;conv=>whnf
 refine⟨E,by decide,i0,?_⟩
 rw[e0]
 conv=>whnf
 refine⟨by rw[w0];unfold I64;omega,?_⟩
 conv=>whnf
 refine⟨E,by decide,i1,?_⟩
 rw[e1]
 conv=>whnf
 refine⟨by rw[hp1];unfold I64;omega,?_⟩
 rw[hp1]
 conv=>whnf
 refine⟨qy,?_⟩
 conv=>whnf
 refine⟨E,by decide,i2,?_⟩
 rw[e2]
 conv=>whnf
 refine⟨by rw[w2];unfold I64;omega,?_⟩
 conv=>whnf
 refine⟨E,by decide,i3,?_⟩
 rw[e3]
 conv=>whnf
 refine⟨by rw[hp2];unfold I64;omega,?_⟩
 rw[hp2]
 conv=>whnf
 refine⟨qy,?_⟩
 conv=>whnf
 refine⟨by decide,?_⟩
 rw[hmm]
 conv=>whnf
 refine⟨fun h=>?_,fun h=>?_⟩
 ·rw[if_pos (.inl (by have:((P % 4096:Nat):Int)=4095:=(by simpa using h);omega))]at hres
  subst hres
  (refine rg ?_;(conv=>whnf);refine aT ?_;refine rg ?_;conv=>whnf)
  refine Av 2 zF E (.cons (.refl _) (.cons (.refl _) (.cons (.refl _) (.cons .nil .nil)))) ?_
  exact Ac E (.cons (.cell E E E E) (.cons .tmp (.cons .tmp (.cons .tmp .nil)))) E E
 have h5:¬ P % 4096=4095:=fun e=>by rw[e]at h;simp at h
 refine rg ?_;conv=>whnf
 refine⟨fun h=>?_,fun h=>?_⟩
 ·rw[if_pos (.inr (by have:(Q:Int)=33024:=(by simpa using h);omega))]at hres
  subst hres
  refine rg ?_;conv=>whnf
  refine Av 2 zF E (.cons (.refl _) (.cons (.refl _) (.cons (.refl _) (.cons .nil .nil)))) ?_
  exact Ac E (.cons (.cell E E E E) (.cons .tmp (.cons .tmp (.cons .tmp .nil)))) E E
 have h6:¬ Q=33024:=fun e=>by rw[e]at h;simp at h
 rw[if_neg qn]at hres
 subst hres
 refine rg ?_;conv=>whnf
 refine Bn (Bc (lo:=4) (hi:=b.length) Γ.toTy E E E E (.inr ⟨_,_,E,E⟩) (.inl ⟨E,E⟩) h4 (Nat.le_refl _)) qy E ?_
 refine rd qy ?_;conv=>whnf
 refine Bn (Ae Γ.toTy 58 E E E E E (.lit (e:=Aj) (l:=[]) E E) .sl za (by simp;omega) (by simp;omega)) qy E ?_
 refine rd qy ?_;conv=>whnf
 refine⟨by decide,?_⟩
 conv=>whnf
 refine⟨by decide,?_⟩
 conv=>whnf
 refine⟨qy,?_⟩
 conv=>whnf
 refine As 58 E ?_
 refine Ac E (.cons (.cell E E E E) (.cons .tmp (.cons .tmp (.cons .tmp .nil)))) ?_ E
 show SV.tup [.agg [_,_,_,.sl 1 Aj (b.drop 4)],Aa ((P % 4096:Nat):Int),Aa ((P / 4096:Nat):Int),_]=SV.tup [.agg [_,_,_,.sl 1 Aj ([]++(b.take b.length).drop 4)],Aa ((P:Int).tmod 4096),Aa (IntKind.i64.wrap ((P:Int).tdiv 4096)),_]
 rw[etk,hmm,hd]
 rfl
theorem Qz (f:FrameM) (h:FrameOK f):Sy.Spec Tryz.prog 33 [Bh f] [] (.tup [.osl 0,Aa 0]) [(0,.row 1 Aj (W5 f))]:=Aga f.dst f.src f.typ f.body h.dst h.src h.typ h.body
theorem Qq (f:FrameM) (h:FrameOK f):Sy.Spec Tryz.prog 220 [Bh f] [] (.tup [.osl 0,Aa 0]) [(0,.row 1 Aj (W5 f))]:=All f.dst f.src f.typ f.body h.dst h.src h.typ h.body
theorem Ano (f:FrameM) (v:Nat) (h:FrameOK f) (hv:v≤4094):Sy.Spec Tryz.prog 308 [Bh f,Aa v,Aa 0] [] (.tup [Bh (tagT f v).1,Aa (tagT f v).2]) []:=by
 have hres:=tagT.eq_1 f v
 have q0:=Ql f
 obtain ⟨d,s,t,b⟩:=f
 have h1:=h.typ
 have h2:=h.body
 dsimp only at hres q0 h1 h2
 by_cases ht:t=33024
 ·rw[if_pos ht]at hres
  rw[hres]
  rw[decide_eq_true ht]at q0
  refine Ab Γ hm 100 F308 Tryz.ntmps308 E fun F hF=>by
   conv=>whnf
   refine Ah q0 F166 E E E E E ?_
   (refine rg ?_;(conv=>whnf);refine aT ?_;refine rg ?_;(conv=>whnf);refine aT ?_;refine rg ?_;(conv=>whnf);refine aT ?_;refine rg ?_;(conv=>whnf);refine aT ?_;refine rg ?_;(conv=>whnf);refine aT ?_;refine rg ?_;conv=>whnf)
   refine Av 6 zF E (.cons (.refl _) (.cons (.refl _) (.cons (.refl _) (.cons .nil .nil)))) ?_
   exact Ac E (.cons (.cell E E E E) (.cons .tmp .nil)) E E
 rw[if_neg ht]at hres
 by_cases hb:1500<b.length
 ·rw[if_pos hb]at hres
  rw[hres]
  rw[decide_eq_false ht]at q0
  refine Ab Γ hm 100 F308 Tryz.ntmps308 E fun F hF=>by
   conv=>whnf
   refine Ah q0 F166 E E E E E ?_
   (refine rg ?_;(conv=>whnf);refine aF ?_;refine rg ?_;(conv=>whnf);refine aF ?_;refine rg ?_;conv=>whnf)
   (refine⟨fun h=>False.elim (by simp at h;omega),fun _=>?_⟩;refine rg ?_;(conv=>whnf);refine aF ?_;refine rg ?_;(conv=>whnf);refine aF ?_;refine rg ?_;(conv=>whnf);refine aF ?_;refine rg ?_;(conv=>whnf);refine⟨fun h=>False.elim (by simp at h;omega),fun _=>?_⟩;refine rg ?_;(conv=>whnf);refine⟨fun _=>?_,fun h=>False.elim (by simp at h;omega)⟩;refine rg ?_;conv=>whnf)
   refine Av 6 zF E (.cons (.refl _) (.cons (.refl _) (.cons (.refl _) (.cons .nil .nil)))) ?_
   exact Ac E (.cons (.cell E E E E) (.cons .tmp .nil)) E E
 rw[if_neg hb]at hres
 rw[hres]
 exact Aq3 d s t v b ht h1 hv qn
theorem Ahw (f:FrameM) (v:Nat) (h:FrameOK f) (hv:v≤4094):Sy.Spec Tryz.prog 221 [Bh f,Aa v,Aa 0] [] (.tup [Bh (tagT f v).1,Aa (tagT f v).2]) []:=by
 have hres:=tagT.eq_1 f v
 obtain ⟨d,s,t,b⟩:=f
 have h1:=h.typ
 have h2:=h.body
 dsimp only at hres h1 h2
 by_cases ht:t=33024
 ·subst ht
  rw[if_pos rfl]at hres
  rw[hres]
  refine Ab Γ hm 100 F221 Tryz.ntmps221 E fun F hF=>by
   ((conv=>whnf);refine aT ?_;refine rg ?_;(conv=>whnf);refine aT ?_;refine rg ?_;(conv=>whnf);refine aT ?_;refine rg ?_;(conv=>whnf);refine aT ?_;refine rg ?_;(conv=>whnf);refine aT ?_;refine rg ?_;conv=>whnf)
   (skip)
   refine Av 6 zF E (.cons (.refl _) (.cons (.refl _) (.cons (.refl _) (.cons .nil .nil)))) ?_
   exact Ac E (.cons (.cell E E E E) (.cons .tmp .nil)) E E
 rw[if_neg ht]at hres
 by_cases hb:1500<b.length
 ·rw[if_pos hb]at hres
  rw[hres]
  refine Ab Γ hm 100 F221 Tryz.ntmps221 E fun F hF=>by
   conv=>whnf
   (refine⟨fun h=>False.elim (by simp at h;omega),fun _=>?_⟩;refine rg ?_;(conv=>whnf);refine aF ?_;refine rg ?_;(conv=>whnf);refine⟨fun h=>False.elim (by simp at h;omega),fun _=>?_⟩;refine rg ?_;(conv=>whnf);refine aF ?_;refine rg ?_;(conv=>whnf);refine aF ?_;refine rg ?_;(conv=>whnf);refine aF ?_;refine rg ?_;(conv=>whnf);refine⟨fun h=>False.elim (by simp at h;omega),fun _=>?_⟩;refine rg ?_;(conv=>whnf);refine⟨fun _=>?_,fun h=>False.elim (by simp at h;omega)⟩;refine rg ?_;conv=>whnf)
   refine Av 6 zF E (.cons (.refl _) (.cons (.refl _) (.cons (.refl _) (.cons .nil .nil)))) ?_
   exact Ac E (.cons (.cell E E E E) (.cons .tmp .nil)) E E
 rw[if_neg hb]at hres
 rw[hres]
 exact Ahf d s t v b ht h1 hv qn
theorem takeF_bad {b:List UInt8} (h:(takeF b).2≠0):(takeF b).1=noF:=by
 unfold takeF at h ⊢
 split
 ·rfl
 rw[if_neg (by assumption)]at h
 split
 ·rfl
 rw[if_neg (by assumption)]at h
 exact absurd E h
theorem Aeb {b:List UInt8} (h:(takeF b).2=0):FrameOK (takeF b).1:=by
 unfold takeF at h ⊢
 split
 ·rw[if_pos (by assumption)]at h;cases h
 rw[if_neg (by assumption)]at h
 split
 ·rw[if_pos (by assumption)]at h;cases h
 rename_i h1 h2
 have l1:((b.take 6).length)=6:=by rw[List.length_take];omega
 have l2:(((b.drop 6).take 6).length)=6:=by rw[List.length_take,List.length_drop];omega
 have l3:(((b.drop 12).take 2).length)=2:=by rw[List.length_take,List.length_drop];omega
 have a1:=Jp _ _ l1
 have a2:=Jp _ _ l2
 have a3:=Jp _ _ l3
 refine⟨a1,a2,?_,?_⟩
 ·dsimp only;exact Nat.le_of_lt_succ a3
 ·dsimp only;rw[List.length_drop];omega
theorem Anr {f:FrameM} (hf:FrameOK f) (h:(stripT f).2.2.2=0):FrameOK (stripT f).1:=by
 unfold stripT at h ⊢
 split
 ·rw[if_pos (by assumption)]at h;cases h
 rw[if_neg (by assumption)]at h
 split
 ·rw[if_pos (by assumption)]at h;cases h
 rw[if_neg (by assumption)]at h
 split
 ·rw[if_pos (by assumption)]at h;cases h
 rename_i h1 h2 h3
 have l3:(((f.body.drop 2).take 2).length)=2:=by rw[List.length_take,List.length_drop];omega
 have a3:=Jp _ _ l3
 have hb:=hf.body
 refine⟨hf.dst,hf.src,?_,?_⟩
 ·dsimp only;exact Nat.le_of_lt_succ a3
 ·dsimp only;rw[List.length_drop];omega
theorem strip_bad {f:FrameM} (h:(stripT f).2.2.2≠0):(stripT f).1=noF∧(stripT f).2.1=0:=by
 unfold stripT at h ⊢
 split
 ·exact⟨E,E⟩
 rw[if_neg (by assumption)]at h
 split
 ·exact⟨E,E⟩
 rw[if_neg (by assumption)]at h
 split
 ·exact⟨E,E⟩
 rw[if_neg (by assumption)]at h
 exact absurd E h
theorem Agc (n:Net) (hn:n.Fin) (port:Int) (b:List UInt8) (hb:b.length<100000) :
  Sy.Spec Tryz.prog 100 [Ap n,Aa port,.sl 1 Aj b] [] (.tup [Aa (enterT n port b).1,Bh (enterT n port b).2.1,Aa (enterT n port b).2.2]) []:=Ab Γ hm 100 F100 Tryz.ntmps100 rfl fun F hF=>by
 have hres:=enterT.eq_1 n port b
 generalize enterT n port b=res at *
 have hr:=B5 n hn
 conv=>whnf
 by_cases hneg:port<0
 ·rw[if_pos (.inl (by rw[Al,decide_eq_false qn];rfl))]at hres
  subst hres
  (refine⟨fun _=>?_,fun h=>False.elim (by simp at h;omega)⟩;refine rg ?_;(conv=>whnf);refine aT ?_;refine rg ?_;(conv=>whnf);refine aT ?_;refine rg ?_;conv=>whnf)
  refine Av 7 zF E (.cons (.refl _) (.cons (.refl _) (.cons (.refl _) (.cons .nil .nil)))) ?_
  exact Ac E (.cons .tmp (.cons (.cell E E E E) (.cons .tmp .nil))) E E
 refine⟨fun h=>absurd (of_decide_eq_true h) hneg,fun _=>?_⟩
 refine Bg 3 8 (Ap n) E E E ?_
 by_cases hge:(n.ports.length:Int)≤port
 ·rw[if_pos (.inl (by rw[Al,decide_eq_false (by omega:¬ port<_),Bool.and_false]))]at hres
  subst hres
  refine rg ?_;conv=>whnf
  (refine⟨fun _=>?_,fun h=>False.elim (by simp at h;omega)⟩;refine rg ?_;(conv=>whnf);refine aT ?_;refine rg ?_;conv=>whnf)
  refine Av 7 zF E (.cons (.refl _) (.cons (.refl _) (.cons (.refl _) (.cons .nil .nil)))) ?_
  exact Ac E (.cons .tmp (.cons (.cell E E E E) (.cons .tmp .nil))) E E
 have hpl:Al port n.ports.length=true:=by rw[Al,decide_eq_true qn,decide_eq_true qn];rfl
 refine rg ?_;conv=>whnf
 (refine⟨fun h=>False.elim (by simp at h;omega),fun _=>?_⟩;refine rg ?_;conv=>whnf)
 refine Ah hr F67 E E E E E ?_
 cases hbn:Ag n
 ·rw[if_pos (.inr hbn)]at hres
  subst hres
  (refine rg ?_;(conv=>whnf);refine aT ?_;refine rg ?_;conv=>whnf)
  refine Av 7 zF E (.cons (.refl _) (.cons (.refl _) (.cons (.refl _) (.cons .nil .nil)))) ?_
  exact Ac E (.cons .tmp (.cons (.cell E E E E) (.cons .tmp .nil))) E E
 rw[if_neg (by simp[hbn,hpl])]at hres
 have hp0:0≤port:=by omega
 have hk:port.toNat<n.ports.length:=by omega
 have e1:nth n.ports port=n.ports[port.toNat]:=Ao hk
 have hsh:=hn.tagged _ (List.getElem_mem hk)
 obtain ⟨p,hp⟩:∃ p,n.ports[port.toNat]'hk=p:=⟨_,rfl⟩
 rw[hp]at e1 hsh
 have qt:=Tg b hb
 have hto:=@Aeb b
 have htb:=@takeF_bad b
 generalize takeF b=tf at *
 obtain ⟨f,e⟩:=tf
 dsimp only at hres qt hto htb
 have qi:=Ql f
 (refine rg ?_;(conv=>whnf);refine aF ?_;refine rg ?_;conv=>whnf)
 refine Ah qt F165 E E E E E ?_
 refine rg ?_;conv=>whnf
 refine Ah qi F166 E E E E E ?_
 by_cases he:e=0
 rotate_left
 ·rw[if_pos he]at hres
  subst hres
  obtain rfl:=htb he
  refine rg ?_;conv=>whnf
  (refine⟨fun h=>False.elim (by simp at h;omega),fun _=>?_⟩;refine rg ?_;(conv=>whnf);refine aF ?_;refine rg ?_;conv=>whnf)
  (refine⟨fun h=>False.elim (by simp at h;omega),fun _=>?_⟩;refine rg ?_;(conv=>whnf);refine aF ?_;refine rg ?_;conv=>whnf)
  refine⟨E,hp0,hk,?_⟩
  rw[hp]
  conv=>whnf
  refine Ah (Mt p false 0 hsh) F168 E E E E E ?_
  refine rg ?_;conv=>whnf
  (refine⟨fun h=>False.elim (by simp at h;omega),fun _=>?_⟩;refine rg ?_;(conv=>whnf);refine aF ?_;refine rg ?_;(conv=>whnf);refine⟨fun _=>?_,fun h=>False.elim (by simp at h;omega)⟩;refine rg ?_;conv=>whnf)
  refine Av 7 zF E (.cons (.refl _) (.cons (.refl _) (.cons (.refl _) (.cons .nil .nil)))) ?_
  exact Ac E (.cons .tmp (.cons (.cell E E E E) (.cons .tmp .nil))) E E
 subst he
 rw[if_neg qz]at hres
 have hfo:=hto rfl
 by_cases ht:f.typ=33024
 ·rw[if_pos ht]at hres
  rw[decide_eq_true ht]
  have qs:=Aky f (by have:=hfo.body;omega)
  have hso:=@Anr f hfo
  have hsb:=@strip_bad f
  generalize stripT f=st at *
  obtain ⟨g,vid,prio,e2⟩:=st
  dsimp only at hres qs hso hsb
  (refine rg ?_;(conv=>whnf);refine aT ?_;refine rg ?_;(conv=>whnf);refine aT ?_;refine rg ?_;conv=>whnf)
  refine Ah qs F167 E E E E E ?_
  by_cases he2:e2=0
  rotate_left
  ·rw[if_pos he2]at hres
   subst hres
   obtain ⟨rfl,rfl⟩:=hsb he2
   refine rg ?_;conv=>whnf
   (refine⟨fun h=>False.elim (by simp at h;omega),fun _=>?_⟩;refine rg ?_;(conv=>whnf);refine aF ?_;refine rg ?_;conv=>whnf)
   refine⟨E,hp0,hk,?_⟩
   rw[hp]
   conv=>whnf
   refine Ah (Mt p true 0 hsh) F168 E E E E E ?_
   refine rg ?_;conv=>whnf
   (refine⟨fun h=>False.elim (by simp at h;omega),fun _=>?_⟩;refine rg ?_;(conv=>whnf);refine aF ?_;refine rg ?_;(conv=>whnf);refine⟨fun _=>?_,fun h=>False.elim (by simp at h;omega)⟩;refine rg ?_;conv=>whnf)
   refine Av 7 zF E (.cons (.refl _) (.cons (.refl _) (.cons (.refl _) (.cons .nil .nil)))) ?_
   exact Ac E (.cons .tmp (.cons (.cell E E E E) (.cons .tmp .nil))) E E
  subst he2
  rw[if_neg qz]at hres
  have hgo:=hso rfl
  have hgs:=hgo.src
  have qg:=Lv g.src qn
  rw[Iw,e1]at hres
  have qv:=Mt p true vid hsh
  have qd:=Ul n hn p.dev (vlanT p true vid).1
  (refine rg ?_;(conv=>whnf);refine aT ?_;refine rg ?_;conv=>whnf)
  refine Ah qg F162 E E E E E ?_
  cases hgb:D1 g.src
  rotate_left
  ·rw[if_pos hgb]at hres
   subst hres
   (refine rg ?_;(conv=>whnf);refine aT ?_;refine rg ?_;conv=>whnf)
   refine⟨E,hp0,hk,?_⟩
   rw[hp]
   conv=>whnf
   refine Ah qv F168 E E E E E ?_
   (refine rg ?_;(conv=>whnf);refine aF ?_;refine rg ?_;(conv=>whnf);refine aF ?_;refine rg ?_;(conv=>whnf);refine aT ?_;refine rg ?_;conv=>whnf)
   (skip)
   refine Av 7 zF E (.cons (.refl _) (.cons (.refl _) (.cons (.refl _) (.cons .nil .nil)))) ?_
   exact Ac E (.cons .tmp (.cons (.cell E E E E) (.cons .tmp .nil))) E E
  rw[if_neg (by simp[hgb])]at hres
  (refine rg ?_;(conv=>whnf);refine aF ?_;refine rg ?_;conv=>whnf)
  refine⟨E,hp0,hk,?_⟩
  rw[hp]
  conv=>whnf
  refine Ah qv F168 E E E E E ?_
  generalize vlanT p true vid=vl at *
  obtain ⟨vl,vok⟩:=vl
  dsimp only at hres qd ⊢
  cases vok
  ·rw[if_pos rfl]at hres
   subst hres
   (refine rg ?_;(conv=>whnf);refine aT ?_;refine rg ?_;(conv=>whnf);refine aT ?_;refine rg ?_;(conv=>whnf);refine aT ?_;refine rg ?_;conv=>whnf)
   refine Av 7 zF E (.cons (.refl _) (.cons (.refl _) (.cons (.refl _) (.cons .nil .nil)))) ?_
   exact Ac E (.cons .tmp (.cons (.cell E E E E) (.cons .tmp .nil))) E E
  rw[if_neg za]at hres
  subst hres
  (refine rg ?_;(conv=>whnf);refine aT ?_;refine rg ?_;(conv=>whnf);refine aF ?_;refine rg ?_;(conv=>whnf);refine aF ?_;refine rg ?_;conv=>whnf)
  refine Au qd F169 E E E qy E ?_
  refine rd qy ?_;conv=>whnf
  refine⟨qy,?_⟩
  conv=>whnf
  exact Ac E (.cons .tmp (.cons (.cell E E E E) (.cons .tmp .nil))) E E
 ·rw[if_neg ht]at hres
  rw[decide_eq_false ht]
  have hgo:=hfo
  have hgs:=hgo.src
  have qg:=Lv f.src qn
  rw[Iw,e1]at hres
  have qv:=Mt p false 0 hsh
  have qd:=Ul n hn p.dev (vlanT p false 0).1
  (refine rg ?_;(conv=>whnf);refine aT ?_;refine rg ?_;(conv=>whnf);refine aF ?_;refine rg ?_;(conv=>whnf);refine aT ?_;refine rg ?_;conv=>whnf)
  refine Ah qg F162 E E E E E ?_
  cases hgb:D1 f.src
  rotate_left
  ·rw[if_pos hgb]at hres
   subst hres
   (refine rg ?_;(conv=>whnf);refine aT ?_;refine rg ?_;conv=>whnf)
   refine⟨E,hp0,hk,?_⟩
   rw[hp]
   conv=>whnf
   refine Ah qv F168 E E E E E ?_
   (refine rg ?_;(conv=>whnf);refine aF ?_;refine rg ?_;(conv=>whnf);refine aF ?_;refine rg ?_;(conv=>whnf);refine aT ?_;refine rg ?_;conv=>whnf)
   (skip)
   refine Av 7 zF E (.cons (.refl _) (.cons (.refl _) (.cons (.refl _) (.cons .nil .nil)))) ?_
   exact Ac E (.cons .tmp (.cons (.cell E E E E) (.cons .tmp .nil))) E E
  rw[if_neg (by simp[hgb])]at hres
  (refine rg ?_;(conv=>whnf);refine aF ?_;refine rg ?_;conv=>whnf)
  refine⟨E,hp0,hk,?_⟩
  rw[hp]
  conv=>whnf
  refine Ah qv F168 E E E E E ?_
  generalize vlanT p false 0=vl at *
  obtain ⟨vl,vok⟩:=vl
  dsimp only at hres qd ⊢
  cases vok
  ·rw[if_pos rfl]at hres
   subst hres
   (refine rg ?_;(conv=>whnf);refine aT ?_;refine rg ?_;(conv=>whnf);refine aT ?_;refine rg ?_;(conv=>whnf);refine aT ?_;refine rg ?_;conv=>whnf)
   refine Av 7 zF E (.cons (.refl _) (.cons (.refl _) (.cons (.refl _) (.cons .nil .nil)))) ?_
   exact Ac E (.cons .tmp (.cons (.cell E E E E) (.cons .tmp .nil))) E E
  rw[if_neg za]at hres
  subst hres
  (refine rg ?_;(conv=>whnf);refine aT ?_;refine rg ?_;(conv=>whnf);refine aF ?_;refine rg ?_;(conv=>whnf);refine aF ?_;refine rg ?_;conv=>whnf)
  refine Au qd F169 E E E qy E ?_
  refine rd qy ?_;conv=>whnf
  refine⟨qy,?_⟩
  conv=>whnf
  exact Ac E (.cons .tmp (.cons (.cell E E E E) (.cons .tmp .nil))) E E
theorem Bd {i:Int} {n:Nat} (h:Al i n=true):0≤i∧i<n:=by simpa [Al] using h
theorem Aew (n:Net) (hn:n.Fin) (port:Int) (b:List UInt8) (hb:b.length<100000) :
  Sy.Spec Tryz.prog 36 [Ap n,Aa port,.sl 1 Aj b] [] (.tup [Aa (enterT n port b).1,Bh (enterT n port b).2.1,Aa (enterT n port b).2.2]) []:=Ab Γ hm 100 F36 Tryz.ntmps36 rfl fun F hF=>by
 have hres:=enterT.eq_1 n port b
 generalize enterT n port b=res at *
 have hr:=Dq n hn
 have hpS:=A6 port n.ports.length
 conv=>whnf
 refine Ah hr F74 E E E E E ?_
 cases hbn:Ag n
 ·rw[if_pos (.inr hbn)]at hres
  subst hres
  (refine rg ?_;(conv=>whnf);refine aT ?_;refine rg ?_;(conv=>whnf);refine aT ?_;refine rg ?_;conv=>whnf)
  refine Av 7 zF E (.cons (.refl _) (.cons (.refl _) (.cons (.refl _) (.cons .nil .nil)))) ?_
  exact Ac E (.cons .tmp (.cons (.cell E E E E) (.cons .tmp .nil))) E E
 refine Bg 3 8 (Ap n) E E E ?_
 (refine rg ?_;(conv=>whnf);refine aF ?_;refine rg ?_;conv=>whnf)
 refine Ah hpS F35 E E E E E ?_
 cases hpl:Al port n.ports.length
 ·rw[if_pos (.inl hpl)]at hres
  subst hres
  (refine rg ?_;(conv=>whnf);refine aT ?_;refine rg ?_;conv=>whnf)
  refine Av 7 zF E (.cons (.refl _) (.cons (.refl _) (.cons (.refl _) (.cons .nil .nil)))) ?_
  exact Ac E (.cons .tmp (.cons (.cell E E E E) (.cons .tmp .nil))) E E
 rw[if_neg (by simp[hbn,hpl])]at hres
 have hpi:=Bd hpl
 have hp0:0≤port:=hpi.1
 have hk:port.toNat<n.ports.length:=by omega
 have e1:nth n.ports port=n.ports[port.toNat]:=Ao hk
 have hsh:=hn.tagged _ (List.getElem_mem hk)
 obtain ⟨p,hp⟩:∃ p,n.ports[port.toNat]'hk=p:=⟨_,rfl⟩
 rw[hp]at e1 hsh
 have qt:=S5 b hb
 have hto:=@Aeb b
 generalize takeF b=tf at *
 obtain ⟨f,e⟩:=tf
 dsimp only at hres qt hto
 (refine rg ?_;(conv=>whnf);refine aF ?_;refine rg ?_;conv=>whnf)
 refine Ah qt F75 E E E E E ?_
 refine rg ?_;conv=>whnf
 by_cases he:e=0
 rotate_left
 ·rw[if_pos he]at hres
  subst hres
  (refine⟨fun _=>?_,fun h=>False.elim (by simp at h;omega)⟩;refine rg ?_;conv=>whnf)
  refine Av 7 zF E (.cons (.refl _) (.cons (.refl _) (.cons (.refl _) (.cons .nil .nil)))) ?_
  exact Ac E (.cons .tmp (.cons (.cell E E E E) (.cons .tmp .nil))) E E
 subst he
 rw[if_neg qz]at hres
 have hfo:=hto rfl
 (refine⟨fun h=>False.elim (absurd h qz),fun _=>?_⟩;refine rg ?_;conv=>whnf)
 by_cases ht:f.typ=33024
 ·rw[if_pos ht]at hres
  have qs:=Ae2 f (by have:=hfo.body;omega)
  have hso:=@Anr f hfo
  generalize stripT f=st at *
  obtain ⟨g,vid,prio,e2⟩:=st
  dsimp only at hres qs hso
  rw[show ((f.typ:Int) == 33024)=true by rw[ht];rfl]
  refine⟨fun _=>?_,fun h=>absurd h qz⟩
  refine rg ?_;conv=>whnf
  refine Ah qs F76 E E E E E ?_
  refine rg ?_;conv=>whnf
  by_cases he2:e2=0
  rotate_left
  ·rw[if_pos he2]at hres
   subst hres
   (refine⟨fun _=>?_,fun h=>False.elim (by simp at h;omega)⟩;refine rg ?_;conv=>whnf)
   refine Av 7 zF E (.cons (.refl _) (.cons (.refl _) (.cons (.refl _) (.cons .nil .nil)))) ?_
   exact Ac E (.cons .tmp (.cons (.cell E E E E) (.cons .tmp .nil))) E E
  subst he2
  rw[if_neg qz]at hres
  have hgo:=hso rfl
  (refine⟨fun h=>False.elim (absurd h qz),fun _=>?_⟩;refine rg ?_;conv=>whnf)
  have hgs:=hgo.src
  have qg:=I7 g.src qn
  rw[Iw,e1]at hres
  have qv:=Yd p true vid hsh
  have qd:=Om n p.dev (vlanT p true vid).1 hn.domains
  have hdt:∀ x,K6 n p.dev x=Zq n p.dev x:=fun x=>by rw[K6,if_pos hbn]
  refine Ah qg F77 E E E E E ?_
  cases hgb:D1 g.src
  rotate_left
  ·rw[if_pos hgb]at hres
   subst hres
   (refine rg ?_;(conv=>whnf);refine aT ?_;refine rg ?_;conv=>whnf)
   refine Av 7 zF E (.cons (.refl _) (.cons (.refl _) (.cons (.refl _) (.cons .nil .nil)))) ?_
   exact Ac E (.cons .tmp (.cons (.cell E E E E) (.cons .tmp .nil))) E E
  rw[if_neg (by simp[hgb])]at hres
  (refine rg ?_;(conv=>whnf);refine aF ?_;refine rg ?_;conv=>whnf)
  refine⟨E,hp0,hk,?_⟩
  rw[hp]
  conv=>whnf
  refine Ah qv F78 E E E E E ?_
  generalize vlanT p true vid=vl at *
  obtain ⟨vl,vok⟩:=vl
  dsimp only at hres qd ⊢
  cases vok
  ·rw[if_pos rfl]at hres
   subst hres
   (refine rg ?_;(conv=>whnf);refine aT ?_;refine rg ?_;conv=>whnf)
   refine Av 7 zF E (.cons (.refl _) (.cons (.refl _) (.cons (.refl _) (.cons .nil .nil)))) ?_
   exact Ac E (.cons .tmp (.cons (.cell E E E E) (.cons .tmp .nil))) E E
  rw[if_neg za,hdt]at hres
  subst hres
  (refine rg ?_;(conv=>whnf);refine aF ?_;refine rg ?_;conv=>whnf)
  refine⟨E,hp0,hk,?_⟩
  rw[hp]
  conv=>whnf
  refine Au qd F79 E E E qy E ?_
  refine rd qy ?_;conv=>whnf
  refine⟨qy,?_⟩
  conv=>whnf
  exact Ac E (.cons .tmp (.cons (.cell E E E E) (.cons .tmp .nil))) E E
 ·rw[if_neg ht]at hres
  have hgo:=hfo
  rw[show ((f.typ:Int) == 33024)=false by simp;omega]
  refine⟨fun h=>absurd h qz,fun _=>?_⟩
  refine rg ?_;conv=>whnf
  have hgs:=hgo.src
  have qg:=I7 f.src qn
  rw[Iw,e1]at hres
  have qv:=Yd p false 0 hsh
  have qd:=Om n p.dev (vlanT p false 0).1 hn.domains
  have hdt:∀ x,K6 n p.dev x=Zq n p.dev x:=fun x=>by rw[K6,if_pos hbn]
  refine Ah qg F77 E E E E E ?_
  cases hgb:D1 f.src
  rotate_left
  ·rw[if_pos hgb]at hres
   subst hres
   (refine rg ?_;(conv=>whnf);refine aT ?_;refine rg ?_;conv=>whnf)
   refine Av 7 zF E (.cons (.refl _) (.cons (.refl _) (.cons (.refl _) (.cons .nil .nil)))) ?_
   exact Ac E (.cons .tmp (.cons (.cell E E E E) (.cons .tmp .nil))) E E
  rw[if_neg (by simp[hgb])]at hres
  (refine rg ?_;(conv=>whnf);refine aF ?_;refine rg ?_;conv=>whnf)
  refine⟨E,hp0,hk,?_⟩
  rw[hp]
  conv=>whnf
  refine Ah qv F78 E E E E E ?_
  generalize vlanT p false 0=vl at *
  obtain ⟨vl,vok⟩:=vl
  dsimp only at hres qd ⊢
  cases vok
  ·rw[if_pos rfl]at hres
   subst hres
   (refine rg ?_;(conv=>whnf);refine aT ?_;refine rg ?_;conv=>whnf)
   refine Av 7 zF E (.cons (.refl _) (.cons (.refl _) (.cons (.refl _) (.cons .nil .nil)))) ?_
   exact Ac E (.cons .tmp (.cons (.cell E E E E) (.cons .tmp .nil))) E E
  rw[if_neg za,hdt]at hres
  subst hres
  (refine rg ?_;(conv=>whnf);refine aF ?_;refine rg ?_;conv=>whnf)
  refine⟨E,hp0,hk,?_⟩
  rw[hp]
  conv=>whnf
  refine Au qd F79 E E E qy E ?_
  refine rd qy ?_;conv=>whnf
  refine⟨qy,?_⟩
  conv=>whnf
  exact Ac E (.cons .tmp (.cons (.cell E E E E) (.cons .tmp .nil))) E E
end Go.Sy.YtmelpejjondedaaGreat
namespace Go.Sy.YtmelpejjondedaaGreat
open Go.Proofs
attribute [local irreducible] Go.Sy.G Go.Sy.DR
set_option maxRecDepth 20000
set_option maxHeartbeats 8000000
theorem Cg {i:Int} {n:Nat} (h:0≤i∧i<n):Al i n=true:=by simp only[Al,Bool.and_eq_true,decide_eq_true_eq];exact h
theorem Cn {i:Int} {n:Nat} (h:¬ (0≤i∧i<n)):Al i n=false:=by simp only[Al,Bool.and_eq_false_iff,decide_eq_false_iff_not];omega
theorem Ku (n:Net) (hn:n.Fin) (hb:Ag n=true) (i:Int):Sy.Spec Tryz.prog 210 [Ap n,Aa i] [] (.sl 1 Aa (Ch n i)) []:=Ab Γ hm 100 F210 Tryz.ntmps210 rfl fun F hF=>by
 have hpl:=A6 i n.domains.length
 have hsp:=hn.ports
 unfold Ar at hsp
 conv=>whnf
 refine Bg 2 8 (Ap n) E E E ?_
 refine rg ?_;conv=>whnf
 refine Ah hpl F35 E E E E E ?_
 by_cases hi:0≤i∧i<n.domains.length
 rotate_left
 ·rw[Ch,if_neg (fun h=>hi h.1),Cn hi]
  (refine rg ?_;(conv=>whnf);refine aT ?_;refine rg ?_;conv=>whnf)
  refine An 4 1 Aa E ?_
  refine rg ?_;conv=>whnf
  exact Ac E (.cons .tmp .nil) E E
 rw[Ch,if_pos ⟨hi,hb⟩,Cg hi]
 have hk:i.toNat<n.domains.length:=by omega
 have e1:nth n.domains i=n.domains[i.toNat]:=Ao hk
 rw[A0,e1]
 obtain ⟨d,hd⟩:∃ d,n.domains[i.toNat]=d:=⟨_,rfl⟩
 rw[hd]
 (refine rg ?_;(conv=>whnf);refine aF ?_;refine rg ?_;conv=>whnf)
 refine⟨E,hi.1,hk,?_⟩
 rw[hd]
 conv=>whnf
 refine Bg 6 6 (A1 d) E E E ?_
 refine Bm 5 1000 1 Aa E E ?_
 refine At n.ports.length (fun j=>[(2,.ref 8 (Ap n) 0),(5,.osl 1000),(6,.ref 6 (A1 d) 0),(7,Aa j)]) (fun j=>[(1000,.row 1 Aa (El (Jd n d) j))]) []
  ⟨⟨rfl,rfl,rfl,rfl,rfl,rfl,rfl,rfl,trivial⟩,⟨.inl rfl,rfl,trivial⟩,rfl,rfl⟩ ?_
 intro j hj
 refine rg ?_;conv=>whnf
 refine⟨fun h=>?_,fun h=>?_⟩
 ·have hlt:j<n.ports.length:=by simpa using h
  have hsucc:=Ms (Jd n d) j
  have hfl:=Eh (Jd n d) j
  have hin:Jd n d j=((n.ports[j]).dev == d.dev && Ie n.ports[j] d.vlan):=by
   rw[Jd,Ao (l:=n.ports) (i:=(j:Int)) (by simpa using hlt)];rfl
  rw[hin]at hsucc
  have e1:n.ports[(j:Int).toNat]'qn=n.ports[j]:=rfl
  have hms:=Uc n.ports[j] d.vlan (hn.tagged _ (List.getElem_mem _))
  obtain ⟨p,hp⟩:∃ p,n.ports[j]=p:=⟨_,rfl⟩
  rw[hp]at e1 hsucc hms
  obtain ⟨u,hu⟩:∃ u,El (Jd n d) j=u:=⟨_,rfl⟩
  rw[hu]at hsucc hfl ⊢
  refine rg ?_;conv=>whnf
  refine⟨E,by omega,by omega,?_⟩
  rw[e1]
  conv=>whnf
  refine⟨fun h2=>?_,fun h2=>?_⟩
  ·rw[h2,Bool.true_and]at hsucc
   refine rd qy ?_;conv=>whnf
   refine⟨E,by omega,by omega,?_⟩
   rw[e1]
   conv=>whnf
   refine Au hms F207 E E E qy E ?_
   refine rd qy ?_;conv=>whnf
   refine⟨qy,?_⟩
   conv=>whnf
   refine⟨fun h4=>?_,fun h4=>?_⟩
   ·rw[if_pos h4]at hsucc
    refine rg ?_;conv=>whnf
    refine Ai (Ae Γ.toTy 48 E E E E E (.row E) (.lit (e:=Aa) (l:=[(j:Int)]) E E) za (by simp;omega) (by simp;omega)) E E ?_
    refine rg ?_;conv=>whnf
    refine⟨by unfold I64;omega,?_⟩
    conv=>whnf
    exact Aq [(1000,48)] hlt ⟨⟨E,E,E,E,E,E,E,E,Y⟩,⟨.inl (congrArg (Ob.row 1 Aa) hsucc),E,Y⟩,E,E⟩
   ·rw[if_neg (by simp[h4])]at hsucc
    refine rg ?_;conv=>whnf
    refine⟨by unfold I64;omega,?_⟩
    conv=>whnf
    exact Aq [] hlt ⟨⟨E,E,E,E,E,E,E,E,Y⟩,⟨.inl (congrArg (Ob.row 1 Aa) hsucc),E,Y⟩,E,E⟩
  ·rw[h2,Bool.false_and,if_neg za]at hsucc
   refine rd qy ?_;conv=>whnf
   refine⟨qy,?_⟩
   ((conv=>whnf);refine aF ?_;refine rg ?_;conv=>whnf)
   refine⟨by unfold I64;omega,?_⟩
   conv=>whnf
   exact Aq [] hlt ⟨⟨E,E,E,E,E,E,E,E,Y⟩,⟨.inl (congrArg (Ob.row 1 Aa) hsucc),E,Y⟩,E,E⟩
 ·have:j=n.ports.length:=by have:=of_decide_eq_false h;omega
  subst this
  refine As 1000 E ?_
  refine rg ?_;conv=>whnf
  exact Ac E (.cons .tmp .nil) E E
end Go.Sy.YtmelpejjondedaaGreat
namespace Go.Sy.YtmelpejjondedaaGreat
open Go.Proofs
attribute [local irreducible] Go.Sy.G Go.Sy.DR
set_option maxRecDepth 100000
set_option maxHeartbeats 4000000
theorem K0 (i:Int) (n:Nat):Sy.Spec Tryz.prog 250 [Aa i,Aa n] [] (Ad (Al i n)) []:=Ab Γ hm 100 F250 Tryz.ntmps250 rfl fun F hF=>by
 conv=>whnf
 (repeat' (first | (refine⟨fun h=>?_,fun h=>?_⟩<;>(repeat (first | simp only[decide_eq_true_eq]at h | simp only[decide_eq_false_iff_not]at h))<;>((refine rg ?_);(conv=>whnf))) | (refine Ac rfl (.cons .tmp .nil) ?_ rfl)))
 all_goals (refine congrArg Ad ?_)
 all_goals grind [Al]
theorem Aiq (n:Net) (f:FrameM) (h:FrameOK f) (v:Int):Sy.Spec Tryz.prog 252 [Ap n,Bh f,Aa v] [] (.tup [.sl 1 Aj (W5 f),Aa 0]) []:=Ab Γ hm 100 F252 Tryz.ntmps252 rfl fun F hF=>by
 conv=>whnf
 refine Ai (Ak [(0,55)] E F33 (Qz f h) E Y E ⟨.inr E,Y⟩) E E ?_
 refine As 55 E ?_
 refine rg ?_;conv=>whnf
 exact Ac E (.cons .tmp (.cons .tmp .nil)) E E
theorem Ann {f:FrameM} (hf:FrameOK f) (v:Nat) (hv:v≤4094) (h:(tagT f v).2=0):FrameOK (tagT f v).1:=by
 unfold tagT at h ⊢
 split
 ·rw[if_pos (by assumption)]at h;cases h
 rw[if_neg (by assumption)]at h
 split
 ·rw[if_pos (by assumption)]at h;cases h
 refine⟨hf.dst,hf.src,?_,?_⟩
 ·show (33024:Nat)≤65535;decide
 ·dsimp only;simp;omega
theorem Ac5 (n:Net) (f:FrameM) (h:FrameOK f) (v:Nat) (hv:v≤4094) :
  Sy.Spec Tryz.prog 251 [Ap n,Bh f,Aa v] [] (.tup [.sl 1 Aj (if (tagT f v).2≠0 then [] else W5 (tagT f v).1),Aa (if (tagT f v).2≠0 then (tagT f v).2 else 0)]) []:=by
 have q:=Ano f v h hv
 have ho:=Ann h v hv
 generalize tagT f v=t at *
 obtain ⟨g,e⟩:=t
 dsimp only at q ho ⊢
 refine Ab Γ hm 100 F251 Tryz.ntmps251 E fun F hF=>by
  conv=>whnf
  refine Ah q F308 E E E E E ?_
  refine rg ?_;conv=>whnf
  by_cases he:e=0
  ·subst he
   (refine⟨fun h=>False.elim (absurd h qz),fun _=>?_⟩;refine rg ?_;conv=>whnf)
   refine Bg 8 4 (Bh g) E E E ?_
   refine rg ?_;conv=>whnf
   refine Ai (Ak [(0,55)] E F33 (Qz g (ho E)) E Y E ⟨.inr E,Y⟩) E E ?_
   refine As 55 E ?_
   refine rg ?_;conv=>whnf
   exact Ac E (.cons .tmp (.cons .tmp .nil)) E E
  ·rw[if_pos he,if_pos he]
   (refine⟨fun _=>?_,fun h=>False.elim (by simp at h;omega)⟩;refine rg ?_;conv=>whnf)
   refine An 6 1 Aj E ?_
   exact Ac E (.cons .tmp (.cons .tmp .nil)) E E
theorem Zl {n:Net} (h:Ag n=true) {i:Nat} (hi:i<n.domains.length):1≤n.domains[i].vlan∧n.domains[i].vlan≤4094:=by
 simp only[Ag,Bool.and_eq_true]at h
 have hb:C8 (Io n) n.domains=true:=h.1.1.1.1.1.1.1.2
 have:=allB_iff.1 hb i hi
 simp only[Io,Bool.and_eq_true,decide_eq_true_eq]at this
 omega
theorem Apc (n:Net) (hn:n.Fin) (port dom:Int) (f:FrameM) (h:FrameOK f) :
  Sy.Spec Tryz.prog 177 [Ap n,Aa port,Aa dom,Bh f] [] (.tup [.sl 1 Aj (leaveT n port dom f).1,Aa (leaveT n port dom f).2]) []:=Ab Γ hm 100 F177 Tryz.ntmps177 rfl fun F hF=>by
 have hres:=leaveT.eq_1 n port dom f
 generalize leaveT n port dom f=res at *
 have hr:=B5 n hn
 have hpS:=K0 port n.ports.length
 have hdS:=K0 dom n.domains.length
 conv=>whnf
 refine Ah hpS F250 E E E E E ?_
 cases hpl:Al port n.ports.length
 ·rw[if_pos (.inl hpl)]at hres
  subst hres
  (refine rg ?_;(conv=>whnf);refine aT ?_;refine rg ?_;(conv=>whnf);refine aT ?_;refine rg ?_;(conv=>whnf);refine aT ?_;refine rg ?_;conv=>whnf)
  refine An 8 1 Aj E ?_
  exact Ac E (.cons .tmp (.cons .tmp .nil)) E E
 (refine rg ?_;(conv=>whnf);refine aF ?_;refine rg ?_;conv=>whnf)
 refine Ah hdS F250 E E E E E ?_
 cases hdl:Al dom n.domains.length
 ·rw[if_pos (.inr (.inl hdl))]at hres
  subst hres
  (refine rg ?_;(conv=>whnf);refine aT ?_;refine rg ?_;(conv=>whnf);refine aT ?_;refine rg ?_;conv=>whnf)
  refine An 8 1 Aj E ?_
  exact Ac E (.cons .tmp (.cons .tmp .nil)) E E
 (refine rg ?_;(conv=>whnf);refine aF ?_;refine rg ?_;conv=>whnf)
 refine Ah hr F67 E E E E E ?_
 cases hbn:Ag n
 ·rw[if_pos (.inr (.inr hbn))]at hres
  subst hres
  (refine rg ?_;(conv=>whnf);refine aT ?_;refine rg ?_;conv=>whnf)
  refine An 8 1 Aj E ?_
  exact Ac E (.cons .tmp (.cons .tmp .nil)) E E
 rw[if_neg (by simp[hbn,hpl,hdl])]at hres
 have hpi:=Bd hpl
 have hdi:=Bd hdl
 have hp0:0≤port:=hpi.1
 have hd0:0≤dom:=hdi.1
 have hk:port.toNat<n.ports.length:=by omega
 have hkd:dom.toNat<n.domains.length:=by omega
 have e1:nth n.ports port=n.ports[port.toNat]:=Ao hk
 have e2:nth n.domains dom=n.domains[dom.toNat]:=Ao hkd
 have hsh:=hn.tagged _ (List.getElem_mem hk)
 have hv:=Zl hbn hkd
 obtain ⟨p,hp⟩:∃ p,n.ports[port.toNat]'hk=p:=⟨_,rfl⟩
 obtain ⟨d,hd⟩:∃ d,n.domains[dom.toNat]'hkd=d:=⟨_,rfl⟩
 rw[hp]at e1 hsh
 rw[hd]at e2 hv
 rw[e1,e2]at hres
 have qm:=Ac2 p d.vlan hsh
 (refine rg ?_;(conv=>whnf);refine aF ?_;refine rg ?_;conv=>whnf)
 refine⟨E,hp0,hk,E,hd0,hkd,?_⟩
 rw[hp,hd]
 conv=>whnf
 refine⟨qy,?_⟩
 conv=>whnf
 refine⟨fun h1=>?_,fun h1=>?_⟩
 ·rw[if_pos (.inl (by simpa using h1))]at hres
  subst hres
  (refine rg ?_;(conv=>whnf);refine aT ?_;refine rg ?_;conv=>whnf)
  refine An 8 1 Aj E ?_
  exact Ac E (.cons .tmp (.cons .tmp .nil)) E E
 refine Bg 10 7 (Bj p) E E E ?_
 refine rg ?_;conv=>whnf
 refine Ah qm F198 E E E E E ?_
 cases hm1:Ie p d.vlan
 ·rw[if_pos (.inr hm1)]at hres
  subst hres
  (refine rg ?_;(conv=>whnf);refine aT ?_;refine rg ?_;conv=>whnf)
  refine An 8 1 Aj E ?_
  exact Ac E (.cons .tmp (.cons .tmp .nil)) E E
 rw[if_neg (by simp at h1;simp[hm1,h1])]at hres
 have qt:=Ql f
 by_cases ht:f.typ=33024
 ·rw[if_pos ht]at hres
  subst hres
  rw[decide_eq_true ht]at qt
  (refine rg ?_;(conv=>whnf);refine aF ?_;refine rg ?_;conv=>whnf)
  refine Ah qt F166 E E E E E ?_
  (refine rg ?_;(conv=>whnf);refine aT ?_;refine rg ?_;conv=>whnf)
  refine An 8 1 Aj E ?_
  exact Ac E (.cons .tmp (.cons .tmp .nil)) E E
 rw[if_neg ht]at hres
 rw[decide_eq_false ht]at qt
 (refine rg ?_;(conv=>whnf);refine aF ?_;refine rg ?_;conv=>whnf)
 refine Ah qt F166 E E E E E ?_
 (refine rg ?_;(conv=>whnf);refine aF ?_;refine rg ?_;conv=>whnf)
 refine⟨fun h2=>?_,fun h2=>?_⟩
 ·rw[if_pos (by simpa using h2)]at hres
  subst hres
  refine rg ?_;conv=>whnf
  refine Ex ⟨⟨_,_,F252⟩,Aiq n f h d.vlan⟩ E E E E E E ?_
  refine rg ?_;conv=>whnf
  exact Ac E (.cons .tmp (.cons .tmp .nil)) E E
 rw[if_neg (by simpa using h2)]at hres
 refine rg ?_;conv=>whnf
 have hv0:(d.vlan.toNat:Int)=d.vlan:=by omega
 have qg:=Ac5 n f h d.vlan.toNat qn
 rw[hv0]at qg
 refine Ex ⟨⟨_,_,F251⟩,qg⟩ E E E E E E ?_
 refine rg ?_;conv=>whnf
 by_cases he:(tagT f d.vlan).2=0
 ·rw[if_neg (by simpa using he)]at hres
  subst hres
  rw[if_neg (by simpa using he),if_neg (by simpa using he)]
  exact Ac E (.cons .tmp (.cons .tmp .nil)) E E
 ·rw[if_pos he]at hres
  subst hres
  rw[if_pos he,if_pos he]
  exact Ac E (.cons .tmp (.cons .tmp .nil)) E E
theorem inB_mem {l:List Int} {x:Int}:inB l x=true↔x∈l:=by
 simp[inB]
theorem Aii {n:Net} {dom port:Int} (hk:Al port n.ports.length=true):inB (A0 n dom) port=((nth n.ports port).dev == (nth n.domains dom).dev && Ie (nth n.ports port) (nth n.domains dom).vlan):=by
 have hp:=Bd hk
 rw[Bool.eq_iff_iff,inB_mem,A0,filtI_mem,Jd]
 rw[show ((port.toNat:Nat):Int)=port by omega]
 exact⟨fun h=>h.2.2,fun h=>⟨hp.1,hp.2,h⟩⟩
theorem dm_iff {a b:Int} {c:Bool}:(a == b && c)=false↔(a≠b∨c=false):=by
 cases c<;>simp
theorem Yc (n:Net) (hn:n.Fin) (port dom:Int) (f:FrameM) (h:FrameOK f) :
  Sy.Spec Tryz.prog 148 [Ap n,Aa port,Aa dom,Bh f] [] (.tup [.sl 1 Aj (leaveT n port dom f).1,Aa (leaveT n port dom f).2]) []:=Ab Γ hm 100 F148 Tryz.ntmps148 rfl fun F hF=>by
 have hres:=leaveT.eq_1 n port dom f
 generalize leaveT n port dom f=res at *
 have hr:=Dq n hn
 have hpS:=A6 port n.ports.length
 have hdS:=A6 dom n.domains.length
 conv=>whnf
 refine Ah hr F74 E E E E E ?_
 cases hbn:Ag n
 ·rw[if_pos (.inr (.inr hbn))]at hres
  subst hres
  (refine rg ?_;(conv=>whnf);refine aT ?_;refine rg ?_;(conv=>whnf);refine aT ?_;refine rg ?_;(conv=>whnf);refine aT ?_;refine rg ?_;conv=>whnf)
  refine An 8 1 Aj E ?_
  exact Ac E (.cons .tmp (.cons .tmp .nil)) E E
 (refine rg ?_;(conv=>whnf);refine aF ?_;refine rg ?_;conv=>whnf)
 refine Ah hpS F35 E E E E E ?_
 cases hpl:Al port n.ports.length
 ·rw[if_pos (.inl hpl)]at hres
  subst hres
  (refine rg ?_;(conv=>whnf);refine aT ?_;refine rg ?_;(conv=>whnf);refine aT ?_;refine rg ?_;conv=>whnf)
  refine An 8 1 Aj E ?_
  exact Ac E (.cons .tmp (.cons .tmp .nil)) E E
 (refine rg ?_;(conv=>whnf);refine aF ?_;refine rg ?_;conv=>whnf)
 refine Ah hdS F35 E E E E E ?_
 cases hdl:Al dom n.domains.length
 ·rw[if_pos (.inr (.inl hdl))]at hres
  subst hres
  (refine rg ?_;(conv=>whnf);refine aT ?_;refine rg ?_;conv=>whnf)
  refine An 8 1 Aj E ?_
  exact Ac E (.cons .tmp (.cons .tmp .nil)) E E
 rw[if_neg (by simp[hbn,hpl,hdl])]at hres
 have hin:=Aii (dom:=dom) hpl
 have hpi:=Bd hpl
 have hdi:=Bd hdl
 have hp0:0≤port:=hpi.1
 have hd0:0≤dom:=hdi.1
 have hk:port.toNat<n.ports.length:=by omega
 have hkd:dom.toNat<n.domains.length:=by omega
 have e1:nth n.ports port=n.ports[port.toNat]:=Ao hk
 have e2:nth n.domains dom=n.domains[dom.toNat]:=Ao hkd
 have hv:=Zl hbn hkd
 have qm:=Ku n hn hbn dom
 have qi:=Et (Ch n dom) port (Id n hn dom)
 have hmt:Ch n dom=A0 n dom:=by rw[Ch,if_pos ⟨⟨hdi.1,hdi.2⟩,hbn⟩]
 rw[hmt]at qm qi
 obtain ⟨p,hp⟩:∃ p,n.ports[port.toNat]'hk=p:=⟨_,rfl⟩
 obtain ⟨d,hd⟩:∃ d,n.domains[dom.toNat]'hkd=d:=⟨_,rfl⟩
 rw[hp]at e1
 rw[hd]at e2 hv
 rw[e1,e2]at hres hin
 generalize A0 n dom=ml at *
 (refine rg ?_;(conv=>whnf);refine aF ?_;refine rg ?_;conv=>whnf)
 refine Ah qm F210 E E E E E ?_
 refine rg ?_;conv=>whnf
 refine Ah qi F142 E E E E E ?_
 cases hi:inB ml port
 ·rw[hi]at hin
  rw[if_pos (dm_iff.1 hin.symm)]at hres
  subst hres
  (refine rg ?_;(conv=>whnf);refine aT ?_;refine rg ?_;conv=>whnf)
  refine An 8 1 Aj E ?_
  exact Ac E (.cons .tmp (.cons .tmp .nil)) E E
 rw[hi]at hin
 rw[if_neg (fun h=>by rw[dm_iff.2 h]at hin;cases hin)]at hres
 (refine rg ?_;(conv=>whnf);refine aF ?_;refine rg ?_;conv=>whnf)
 refine⟨fun h1=>?_,fun h1=>?_⟩
 ·rw[if_pos (by simp at h1;omega)]at hres
  subst hres
  refine rg ?_;conv=>whnf
  refine An 8 1 Aj E ?_
  exact Ac E (.cons .tmp (.cons .tmp .nil)) E E
 rw[if_neg (by simp at h1;omega)]at hres
 refine rg ?_;conv=>whnf
 refine⟨E,hd0,hkd,?_⟩
 rw[hd]
 conv=>whnf
 refine⟨E,hp0,hk,?_⟩
 rw[hp]
 conv=>whnf
 refine⟨fun h2=>?_,fun h2=>?_⟩
 ·rw[if_pos (by simp at h2;omega)]at hres
  subst hres
  refine rg ?_;conv=>whnf
  refine Ai (Ak [(0,55)] E F220 (Qq f h) E Y E ⟨.inr E,Y⟩) E E ?_
  refine As 55 E ?_
  refine rg ?_;conv=>whnf
  exact Ac E (.cons .tmp (.cons .tmp .nil)) E E
 rw[if_neg (by simp at h2;omega)]at hres
 have hv0:(d.vlan.toNat:Int)=d.vlan:=by omega
 have qg:=Ahw f d.vlan.toNat h qn
 have ho:=Ann h d.vlan.toNat qn
 rw[hv0]at qg ho
 generalize tagT f d.vlan=t at *
 obtain ⟨g,e⟩:=t
 dsimp only at qg ho hres
 refine rg ?_;conv=>whnf
 refine Ah qg F221 E E E E E ?_
 refine rg ?_;conv=>whnf
 by_cases he:e=0
 ·subst he
  rw[if_neg qz]at hres
  subst hres
  (refine⟨fun h=>False.elim (absurd h qz),fun _=>?_⟩;refine rg ?_;conv=>whnf)
  refine Bg 11 4 (Bh g) E E E ?_
  refine rg ?_;conv=>whnf
  refine Ai (Ak [(0,55)] E F220 (Qq g (ho E)) E Y E ⟨.inr E,Y⟩) E E ?_
  refine As 55 E ?_
  refine rg ?_;conv=>whnf
  exact Ac E (.cons .tmp (.cons .tmp .nil)) E E
 ·rw[if_pos he]at hres
  subst hres
  (refine⟨fun _=>?_,fun h=>False.elim (by simp at h;omega)⟩;refine rg ?_;conv=>whnf)
  refine An 8 1 Aj E ?_
  exact Ac E (.cons .tmp (.cons .tmp .nil)) E E
theorem Aio (n:Net) (hn:n.Fin) (port:Int) (b:List UInt8) (hb:b.length<100000) :
  Sy.Spec Tryz.prog 182 [Ap n,Aa port,.sl 1 Aj b] [] (.tup [Aa (linkT n port b).1,Aa (linkT n port b).2.1,Bh (linkT n port b).2.2.1,Aa (linkT n port b).2.2.2]) []:=Ab Γ hm 100 F182 Tryz.ntmps182 rfl fun F hF=>by
 have hres:=linkT.eq_1 n port b
 generalize linkT n port b=res at *
 have qo:=Ac4 n hn port
 have qe:=Agc n hn (Eb n port) b hb
 generalize Eb n port=o at *
 conv=>whnf
 refine Ah qo F258 E E E E E ?_
 refine rg ?_;conv=>whnf
 refine⟨fun h1=>?_,fun h1=>?_⟩
 ·rw[if_pos (by simpa using h1)]at hres
  subst hres
  refine rg ?_;conv=>whnf
  refine Av 8 zF E (.cons (.refl _) (.cons (.refl _) (.cons (.refl _) (.cons .nil .nil)))) ?_
  exact Ac E (.cons .tmp (.cons .tmp (.cons (.cell E E E E) (.cons .tmp .nil)))) E E
 rw[if_neg (by simpa using h1)]at hres
 refine rg ?_;conv=>whnf
 refine Ah qe F100 E E E E E ?_
 generalize enterT n o b=en at *
 obtain ⟨x1,g,x2⟩:=en
 subst hres
 refine rg ?_;conv=>whnf
 refine⟨qy,?_⟩
 conv=>whnf
 exact Ac E (.cons .tmp (.cons .tmp (.cons (.cell E E E E) (.cons .tmp .nil)))) E E
theorem Aho (n:Net) (hn:n.Fin) (port:Int) (b:List UInt8) (hb:b.length<100000) :
  Sy.Spec Tryz.prog 151 [Ap n,Aa port,.sl 1 Aj b] [] (.tup [Aa (linkT n port b).1,Aa (linkT n port b).2.1,Bh (linkT n port b).2.2.1,Aa (linkT n port b).2.2.2]) []:=Ab Γ hm 100 F151 Tryz.ntmps151 rfl fun F hF=>by
 have hres:=linkT.eq_1 n port b
 generalize linkT n port b=res at *
 have hr:=Dq n hn
 conv=>whnf
 refine Ah hr F74 E E E E E ?_
 cases hbn:Ag n
 ·have ho:Eb n port=-1:=by
   rw[Eb,if_neg (by simp[hbn])]
  rw[if_pos (by rw[ho];decide)]at hres
  subst hres
  (refine rg ?_;(conv=>whnf);refine aT ?_;refine rg ?_;(conv=>whnf);refine aT ?_;refine rg ?_;conv=>whnf)
  refine Av 8 zF E (.cons (.refl _) (.cons (.refl _) (.cons (.refl _) (.cons .nil .nil)))) ?_
  exact Ac E (.cons .tmp (.cons .tmp (.cons (.cell E E E E) (.cons .tmp .nil)))) E E
 have qo:=Alm n hn hbn port
 have qe:=Aew n hn (Eb n port) b hb
 generalize Eb n port=o at *
 (refine rg ?_;(conv=>whnf);refine aF ?_;refine rg ?_;conv=>whnf)
 refine Ah qo F204 E E E E E ?_
 refine rg ?_;conv=>whnf
 refine⟨fun h1=>?_,fun h1=>?_⟩
 ·rw[if_pos (by simpa using h1)]at hres
  subst hres
  refine rg ?_;conv=>whnf
  refine Av 8 zF E (.cons (.refl _) (.cons (.refl _) (.cons (.refl _) (.cons .nil .nil)))) ?_
  exact Ac E (.cons .tmp (.cons .tmp (.cons (.cell E E E E) (.cons .tmp .nil)))) E E
 rw[if_neg (by simpa using h1)]at hres
 refine rg ?_;conv=>whnf
 refine Ah qo F204 E E E E E ?_
 refine rg ?_;conv=>whnf
 refine Ah qe F36 E E E E E ?_
 generalize enterT n o b=en at *
 obtain ⟨x1,g,x2⟩:=en
 subst hres
 refine rg ?_;conv=>whnf
 refine⟨qy,?_⟩
 conv=>whnf
 exact Ac E (.cons .tmp (.cons .tmp (.cons (.cell E E E E) (.cons .tmp .nil)))) E E
end Go.Sy.YtmelpejjondedaaGreat
namespace Go.Sy.YtmelpejjondedaaGreat
open Go.Proofs
theorem I0 (l:List Nat):(B9 l).length=2 * l.length:=by
 induction l with
 | nil=>rfl
 | cons a l ih=>simp only[B9,List.flatMap_cons,List.length_append,List.length_cons,List.length_nil]at ih ⊢;omega
theorem I4 (l:List Nat) (n:Nat):B9 (l++[n])=B9 l++[UInt8.ofNat (n / 256),UInt8.ofNat n]:=by simp[B9]
theorem Hg (b:List UInt8) (k m:Nat):numAt b k m<256 ^ m:=by
 have h:=Jp _ ((b.drop k).take m) rfl
 have h2:((b.drop k).take m).length≤m:=by rw[List.length_take];omega
 exact Nat.lt_of_lt_of_le h (Nat.pow_le_pow_right qz h2)
theorem Kg {b:List UInt8} {k:Nat} (h:k+2≤b.length):numAt b k 2=(b[k]'qn).toNat * 256+(b[k+1]'qn).toNat:=by
 rw[numAt,M9 h,Xt]
theorem Qe {b:List UInt8} {k:Nat} (h:k<b.length):bAt b k=b[k]:=Zg h
theorem Anm {b:List UInt8} {k:Nat} (h:k+3≤b.length):(b.drop k).take 3=[b[k]'qn,b[k+1]'qn,b[k+2]'qn]:=by
 rw[List.drop_eq_getElem_cons qn,List.drop_eq_getElem_cons (i:=k+1) qn,List.drop_eq_getElem_cons (i:=k+2) qn]
 rfl
theorem Xw {b:List UInt8} {k:Nat} (h:k+4≤b.length):(b.drop k).take 4=[b[k]'qn,b[k+1]'qn,b[k+2]'qn,b[k+3]'qn]:=by
 rw[List.drop_eq_getElem_cons qn,List.drop_eq_getElem_cons (i:=k+1) qn,List.drop_eq_getElem_cons (i:=k+2) qn,List.drop_eq_getElem_cons (i:=k+3) qn]
 rfl
theorem Aig {b:List UInt8} {k:Nat} (h:k+3≤b.length):numAt b k 3=((b[k]'qn).toNat * 256+(b[k+1]'qn).toNat) * 256+(b[k+2]'qn).toNat:=by
 rw[numAt,Anm h]
 simp[E8]
theorem numAt4 {b:List UInt8} {k:Nat} (h:k+4≤b.length):numAt b k 4=numAt b k 2 * 65536+numAt b (k+2) 2:=by
 have e:b[k+2+1]'qn=b[k+3]'qn:=rfl
 rw[numAt,Xw h,Kg qn,Kg qn,e]
 simp[E8]
 omega
theorem I9 (f:FrameM):(W5 f).length=14+f.body.length:=by
 simp[W5,frame,A4]
 omega
theorem Lf (p:PacketM) (s:Nat):(Ht p s).length=20:=by rw[Ht,I0];rfl
theorem Oz (p:PacketM):(Ur p).length=20+p.body.length:=by rw[Ur,List.length_append,Lf]
theorem Ad9 (s d:Nat) (b:List UInt8):(Aea s d b).length=8+b.length:=by rw[Aea,List.length_append,I0];rfl
theorem Ed (v:Nat):(Ih v).length=8:=rfl
theorem Dz:FrameOK noF:=⟨by decide,by decide,by decide,by decide⟩
theorem Za (ip:Nat) (h:ip<4294967296):Es ip<281474976710656:=by rw[Es,Int.toNat_natCast];omega
theorem Aaa (n:Net) (port dom:Int) (f:FrameM) (hf:FrameOK f):(leaveT n port dom f).1.length≤1518:=by
 have h4:=hf.body
 unfold leaveT
 split
 ·simp
 split
 ·simp
 split
 ·simp
 split
 ·rw[I9];omega
 split
 ·simp
 ·rw[I9]
  rename_i h
  have h2:(tagT f (nth n.domains dom).vlan).2=0:=Classical.byContradiction h
  unfold tagT at h2 ⊢
  split
  ·rw[if_pos (by assumption)]at h2;cases h2
  rw[if_neg (by assumption)]at h2
  split
  ·rw[if_pos (by assumption)]at h2;cases h2
  ·dsimp only
   simp
   omega
theorem Y6 {b:List UInt8} (h:(ipTakeT b).2=0):PacketOK (ipTakeT b).1∧(ipTakeT b).1.body.length+20≤b.length:=by
 unfold ipTakeT at h ⊢
 split
 ·rw[if_pos (by assumption)]at h;cases h
 rw[if_neg (by assumption)]at h
 split
 ·rw[if_pos (by assumption)]at h;cases h
 rw[if_neg (by assumption)]at h
 split
 ·rw[if_pos (by assumption)]at h;cases h
 rw[if_neg (by assumption)]at h
 split
 ·rw[if_pos (by assumption)]at h;cases h
 rw[if_neg (by assumption)]at h
 split
 ·rw[if_pos (by assumption)]at h;cases h
 have l1:=(bAt b 1).toNat_lt
 have l8:=(bAt b 8).toNat_lt
 have l9:=(bAt b 9).toNat_lt
 have n4:=Hg b 4 2
 have n12:=Hg b 12 4
 have n16:=Hg b 16 4
 refine⟨⟨?_,?_,?_,?_,?_,?_⟩,?_⟩
 ·show (bAt b 1).toNat≤255;omega
 ·show numAt b 4 2≤65535;omega
 ·show (bAt b 8).toNat≤255;omega
 ·show (bAt b 9).toNat≤255;omega
 ·exact n12
 ·exact n16
 ·show ((b.take (numAt b 2 2)).drop 20).length+20≤b.length
  rw[List.length_drop,List.length_take]
  omega
theorem Asr {b:List UInt8} (h:(ipTakeT b).2≠0):(ipTakeT b).1=noP:=by
 unfold ipTakeT at h ⊢
 split
 ·rfl
 rw[if_neg (by assumption)]at h
 split
 ·rfl
 rw[if_neg (by assumption)]at h
 split
 ·rfl
 rw[if_neg (by assumption)]at h
 split
 ·rfl
 rw[if_neg (by assumption)]at h
 split
 ·rfl
 rw[if_neg (by assumption)]at h
 exact absurd E h
theorem Aih:PacketOK noP:=⟨by decide,by decide,by decide,by decide,by decide,by decide⟩
theorem Sq:∀ (l:List Nat) (j:Nat),j≤l.length→(∀ n∈l,n<4294967296)→Il (B9 l) j=((l.take j).map (· % 65536)).sum
 | l,0,_,_=>by simp[Il]
 | l,j+1,h,hl=>by
  have ih:=Sq l j qn hl
  have hj:j<l.length:=by omega
  have e1:(B9 l).getD (2 * j) 0=UInt8.ofNat (l[j] / 256)∧(B9 l).getD (2 * j+1) 0=UInt8.ofNat l[j]:=by
   clear ih hl
   induction l generalizing j with
   | nil=>simp at hj
   | cons a l ih2 =>
    cases j with
    | zero=>simp[B9]
    | succ j =>
     have:=ih2 j (by simpa using h) (by simpa using hj)
     rw[B9,List.flatMap_cons,show 2 * (j+1)+1=(2 * j+1)+1+1 by omega,show 2 * (j+1)=2 * j+1+1 by omega]
     simpa [B9] using this
  rw[Il,ih,e1.1,e1.2,List.take_succ_eq_append_getElem hj,List.map_append,List.sum_append]
  have hx:=hl l[j] (List.getElem_mem hj)
  generalize l[j]=x at *
  simp only[List.map_cons,List.map_nil,List.sum_cons,List.sum_nil,Ky]
  omega
def Qx (p:PacketM):List UInt8:=[69,UInt8.ofNat p.tos]++be 2 (20+p.body.length)++be 2 p.id++[0,0,UInt8.ofNat p.ttl,UInt8.ofNat p.proto]++(be 4 p.src++be 4 p.dst)
theorem Oy (p:PacketM):(Qx p).length=18:=by simp[Qx,A4]
theorem be2 (m:Nat):be 2 m=B9 [m]:=by simp[be,B9]
theorem be4 (m:Nat):be 4 m=B9 [m / 65536,m]:=by simp[be,B9,Nat.div_div_eq_div_mul]
theorem Aac {p:PacketM} (hp:PacketOK p):Qx p=B9 [17664+p.tos,20+p.body.length,p.id,0,p.ttl * 256+p.proto,p.src / 65536,p.src,p.dst / 65536,p.dst]:=by
 have h1:=hp.tos
 have h2:=hp.proto
 have h3:=hp.ttl
 have e1:(17664+p.tos) / 256=69:=by omega
 have e2:UInt8.ofNat (17664+p.tos)=UInt8.ofNat p.tos:=by apply UInt8.toNat_inj.1;simp
 have e3:(p.ttl * 256+p.proto) / 256=p.ttl:=by omega
 have e4:UInt8.ofNat (p.ttl * 256+p.proto)=UInt8.ofNat p.proto:=by apply UInt8.toNat_inj.1;simp
 rw[Qx,be2,be2,be4,be4]
 simp only[B9,List.flatMap_cons,List.flatMap_nil,List.cons_append,List.nil_append,List.append_nil,e1,e2,e3,e4]
 rfl
theorem Aef {p:PacketM} (hp:PacketOK p) (hb:p.body.length≤1480) (s:Nat) (hs:s≤65535):∀ n∈[17664+p.tos,20+p.body.length,p.id,0,p.ttl * 256+p.proto,s,p.src / 65536,p.src,p.dst / 65536,p.dst],n<4294967296:=by
 have h1:=hp.tos
 have h2:=hp.proto
 have h3:=hp.ttl
 have h4:=hp.id
 have h5:=hp.src
 have h6:=hp.dst
 intro n hn
 simp only[List.mem_cons,List.not_mem_nil,or_false]at hn
 rcases hn with rfl | rfl | rfl | rfl | rfl | rfl | rfl | rfl | rfl | rfl<;>omega
theorem Afw {p:PacketM} (hp:PacketOK p) (hb:p.body.length≤1480):Tw (Qx p)=Ly p:=by
 have hw:=Aef hp hb 0 qz
 rw[Ly,Tw,Tw,Oy,Lf,Aac hp,Ht]
 rw[show 18 / 2=9 from rfl,show 20 / 2=10 from rfl,Sq _ 9 za (fun n hn=>hw n (by
  simp only[List.mem_cons,List.not_mem_nil,or_false]at hn ⊢
  rcases hn with h | h | h | h | h | h | h | h | h<;>simp[h])),Sq _ 10 za hw]
 simp
theorem Afx {p:PacketM} (hp:PacketOK p):[69,UInt8.ofNat p.tos]++be 2 (20+p.body.length)++be 2 p.id++[0,0,UInt8.ofNat p.ttl,UInt8.ofNat p.proto]++be 2 (Ly p)++(be 4 p.src++be 4 p.dst)=Ht p (Ly p):=by
 have h1:=hp.tos
 have h2:=hp.proto
 have h3:=hp.ttl
 have e1:(17664+p.tos) / 256=69:=by omega
 have e2:UInt8.ofNat (17664+p.tos)=UInt8.ofNat p.tos:=by apply UInt8.toNat_inj.1;simp
 have e3:(p.ttl * 256+p.proto) / 256=p.ttl:=by omega
 have e4:UInt8.ofNat (p.ttl * 256+p.proto)=UInt8.ofNat p.proto:=by apply UInt8.toNat_inj.1;simp
 rw[Ht,be2,be2,be2,be4,be4]
 simp only[B9,List.flatMap_cons,List.flatMap_nil,List.cons_append,List.nil_append,List.append_nil,e1,e2,e3,e4]
 rfl
theorem Aiw (p:PacketM) (s:Nat):((Ht p 0).set 10 (UInt8.ofNat (s / 256))).set 11 (UInt8.ofNat s)=Ht p s:=by
 simp only[Ht,B9,List.flatMap_cons,List.flatMap_nil,List.cons_append,List.nil_append,List.set_cons_succ,List.set_cons_zero]
theorem Adx (a b v:Nat) (f:FrameM) (ha:a<4294967296) (hb:b<4294967296):PacketOK (M5 a b v f):=⟨Nat.zero_le _,Nat.zero_le _,by show (64:Nat)≤255;decide,by show (17:Nat)≤255;decide,ha,hb⟩
theorem H6 (a b v:Nat) (f:FrameM):(M5 a b v f).body.length=30+f.body.length:=by
 simp only[M5,Ad9,List.length_append,Ed,I9];omega
theorem Ab5 (a b:Nat) (v:Int) (f:FrameM):(wrapT a b v f).1.length≤1514:=by
 unfold wrapT
 split
 ·simp
 split
 ·simp
 split
 ·simp
 ·simp only[frame,List.length_append,A4,Oz,H6,List.length_cons,List.length_nil];omega
theorem Ac1 (n:Net) (dom peer:Int) (f:FrameM):(meshT n dom peer f).1.length≤1514:=by
 unfold meshT
 split
 ·simp
 split
 ·simp
 ·exact Ab5 _ _ _ _
theorem Aqs {b:List UInt8}:(udpTakeT b).2.2.1.length≤b.length:=by
 unfold udpTakeT
 repeat' split
 all_goals first | (simp;done) | (simp only[List.length_drop,List.length_take];omega)
theorem vniT_body {b:List UInt8}:(vniT b).2.1.length≤b.length:=by
 unfold vniT
 repeat' split
 all_goals first | (simp;done) | (simp only[List.length_drop];omega)
theorem Vr (b:List UInt8):PacketOK (outerT b).1∧(outerT b).1.body.length≤b.length:=by
 unfold outerT
 split
 ·exact⟨Aih,by simp[noP]⟩
 split
 ·exact⟨Aih,by simp[noP]⟩
 split
 ·exact⟨Aih,by simp[noP]⟩
 ·rename_i h1 h2 h3
  have h4:(takeF b).2=0:=Classical.byContradiction h1
  have h5:(ipTakeT (takeF b).1.body).2=0:=Classical.byContradiction h3
  obtain ⟨h6,h7⟩:=Y6 h5
  refine⟨h6,?_⟩
  have h8:(takeF b).1.body.length≤b.length:=by
   unfold takeF
   repeat' split
   all_goals simp[noF]
  dsimp only
  omega
theorem Abo (b:List UInt8):FrameOK (innerT b).2.1∧0≤(innerT b).1:=by
 unfold innerT
 repeat' split
 all_goals first | exact⟨Dz,Int.le_refl _⟩ | skip
 rename_i h1 h2 h3 h4 h5
 refine⟨Aeb (Classical.byContradiction h4),?_⟩
 show 0≤(vniT (udpTakeT b).2.2.1).1
 unfold vniT
 repeat' split
 all_goals omega
theorem Sr (b:List UInt8):(unwrapT b).1<4294967296∧(unwrapT b).2.1<4294967296∧0≤(unwrapT b).2.2.1∧FrameOK (unwrapT b).2.2.2.1:=by
 unfold unwrapT
 split
 ·exact⟨Nat.zero_lt_succ _,Nat.zero_lt_succ _,Int.le_refl _,Dz⟩
 split
 ·exact⟨Nat.zero_lt_succ _,Nat.zero_lt_succ _,Int.le_refl _,Dz⟩
 ·exact⟨(Vr b).1.src,(Vr b).1.dst,(Abo _).2,(Abo _).1⟩
theorem Abw (n:Net) (port:Int) (f:FrameM) (hf:FrameOK f) (tg:Bool) (vid:Int):FrameOK (Iw n port f tg vid).2.1:=by
 unfold Iw
 split
 ·exact Dz
 split
 ·exact Dz
 ·exact hf
theorem Q0 (n:Net) (port:Int) (b:List UInt8):FrameOK (enterT n port b).2.1:=by
 unfold enterT
 split
 ·exact Dz
 split
 ·exact Dz
 rename_i h1 h2
 have h3:=Aeb (Classical.byContradiction h2)
 split
 ·split
  ·exact Dz
  ·rename_i h5
   exact Abw _ _ _ (Anr h3 (Classical.byContradiction h5)) _ _
 ·exact Abw _ _ _ h3 _ _
theorem Yx (n:Net) (port:Int) (b:List UInt8):FrameOK (linkT n port b).2.2.1:=by
 unfold linkT
 split
 ·exact Dz
 ·exact Q0 _ _ _
theorem Zs (n:Net) (b:List UInt8):FrameOK (comeT n b).2.2.1:=by
 unfold comeT
 split
 ·exact Dz
 split
 ·exact Dz
 split
 ·exact Dz
 split
 ·exact Dz
 ·exact(Sr b).2.2.2
theorem Arz (n:Net) (hm:n.Num) (irb:Int) (f:FrameM) (hin:∀ (d:Int),(lookT n irb d).2=true→0≤(lookT n irb d).1∧(lookT n irb d).1.toNat<n.irbs.length):FrameOK (hopT n irb f).2.1:=by
 unfold hopT
 split
 ·exact Dz
 split
 ·exact Dz
 split
 ·exact Dz
 split
 ·exact Dz
 split
 ·exact Dz
 split
 ·exact Dz
 rename_i h1 h2 h3 h4 h5 h6
 have hp:=(Y6 (Classical.byContradiction h3)).1
 have hl:=hin ((ipTakeT f.body).1.dst:Int) (by simpa using h5)
 have ha:=hm.addr _ (List.getElem_mem hl.2)
 rw[← Ao hl.2]at ha
 refine⟨Za _ hp.dst,?_,?_,?_⟩
 ·show Es (nth n.irbs _).addr<_
  rw[Es];omega
 ·show (2048:Nat)≤65535;decide
 ·show (Ur (Afz (ipTakeT f.body).1)).length≤1504
  rw[Oz]
  show 20+(ipTakeT f.body).1.body.length≤1504
  omega
end Go.Sy.YtmelpejjondedaaGreat
namespace Go.Sy
structure Meth (P:Program) (t:TypeId) (name:String) (f:FuncId) (pr:Bool) (e:TypeId):Prop where
 row:∃ i m,P.info? t=some i∧i.methods.find? (·.name == name)=some m∧m.path=#[]∧m.func=some (f,pr)
 under:P.underlying t=some (.pointer e)
theorem X5 {P:Program} {t:TypeId} {name:String} {f:FuncId} {e:TypeId} (hm:Meth P t name f true e) (w:World) (v:Value):(Go.method (P.types.size+Made.depth) t v name).run P w=.ok (f,v) w:=by
 obtain ⟨⟨i,m,h1,h2,h3,h4⟩,hu⟩:=hm
 show (Go.method (P.types.size+99+1) t v name).run P w=_
 rw[Go.method]
 simp only[Sem.run_bind,run_typeInfo w h1,Result.andThen_ok,h2,h3,Go.follow,Sem.run_pure,h4,Go.receiverAt,run_underlying hu,Go.Place.get]
theorem X4 {P:Program} {t:TypeId} {name:String} {f:FuncId} {e:TypeId} (hm:Meth P t name f false e) (w:World) (a:Addr) {v:Value} (hv:(loadVar e a).run P w=.ok v w):(Go.method (P.types.size+Made.depth) t (.pointer (some a)) name).run P w=.ok (f,v) w:=by
 obtain ⟨⟨i,m,h1,h2,h3,h4⟩,hu⟩:=hm
 show (Go.method (P.types.size+99+1) t (.pointer (some a)) name).run P w=_
 rw[Go.method]
 have he:(#[]:Array FieldStep).isEmpty=true:=rfl
 simp only[Sem.run_bind,run_typeInfo w h1,Result.andThen_ok,h2,h3,Go.follow,Sem.run_pure,h4,Go.receiverAt,run_underlying hu,Go.Place.get,he,if_true]
 have hs : ∀ n : String, (Builtin.ssaWrapNilChk_ #[t] t #[.pointer (some a), strVal "", strVal n]).run P w = .ok (.pointer (some a)) w := fun n => rfl
 simp only[hs,Result.andThen_ok,asAddr,Sem.run_pure,hv]
theorem Sm {P:Program} {o:Oper} {s:SS} {rd:List Nat} {f:FuncId} {fn:Func} {c:Code} {t e:TypeId} {name:String} {x:Operand} {xs:List Operand} {ts:Array TypeId} {y:SV} (hm:Meth P t name f true e) (hf:Fun P f fn c) (h:o.op=.call ⟨.invoke x name,xs.toArray,ts⟩) (hx:ev s x=.ifc t y) :
  Mx P o s rd f (y::xs.map (ev s)) :=
 fun κ a w hr _=>by
  have h1:=hr x (by simp[h,Op.operands,Call.operands])
  rw[hx]at h1
  simp only[Rd]at h1
  obtain ⟨u,e1,e2⟩:=h1
  refine⟨u::xs.map a.eval,?_,?_⟩
  ·have hcall:=Jq hf (u::xs.map a.eval).toArray w
   have hmeth:=X5 hm w u
   simp only[execOp,h,resolve,invoke,e1,Sem.run_bind,Sem.run_pure,Result.andThen_ok]at hcall ⊢
   simp only[callMethod]
   rw[← hcall]
   have htk:(xs.map a.eval).take xs.length=xs.map a.eval:=List.take_of_length_le za
   simp[hmeth,Sem.run_bind,htk]
  ·simp only[RdL]
   exact⟨_,_,E,e2,K8 xs (fun y hy=>hr y (by simp[h,Op.operands,Call.operands,hy]))⟩
theorem Bp {P:Program} (Γ:Ty P) {o:Oper} {s:SS} {f:FuncId} {fn:Func} {c:Code} {t e:TypeId} {ti:TI} {name:String} {x:Operand} {xs:List Operand} {ts:Array TypeId} {k off:Nat} {l:List SV} {z:SV} (hm:Meth P t name f false e) (hf:Fun P f fn c) (h:o.op=.call ⟨.invoke x name,xs.toArray,ts⟩)
  (hx:ev s x=.ifc t (.ptr k off)) (hk:s.h k=.box l) (ht:Γ.get e=some ti) (hz:Hr ti l off=some z):Mx P o s [k] f (z::xs.map (ev s)) :=
 fun κ a w hr ho=>by
  have h1:=hr x (by simp[h,Op.operands,Call.operands])
  rw[hx]at h1
  simp only[Rd]at h1
  obtain ⟨u,e1,e2⟩:=h1
  have hob:=ho k za
  rw[hk]at hob
  obtain ⟨b,f1,f2⟩:=hob.cellsAt
  rw[f1]at e2
  simp only at e2
  subst e2
  obtain ⟨v,g1,g2⟩:=J4 (P:=P) Γ ht f2 hz
  rw[Nat.zero_add]at g1
  refine⟨v::xs.map a.eval,?_,?_⟩
  ·have hcall:=Jq hf (v::xs.map a.eval).toArray w
   have hmeth:=X4 hm w ⟨b,off,none⟩ g1
   simp only[execOp,h,resolve,invoke,e1,Sem.run_bind,Sem.run_pure,Result.andThen_ok]at hcall ⊢
   simp only[callMethod]
   rw[← hcall]
   have htk:(xs.map a.eval).take xs.length=xs.map a.eval:=List.take_of_length_le za
   simp[hmeth,Sem.run_bind,htk]
  ·simp only[RdL]
   exact⟨_,_,E,g2,K8 xs (fun y hy=>hr y (by simp[h,Op.operands,Call.operands,hy]))⟩
theorem Ww {P:Program} (Γ:Ty P) {o:Oper} {s:SS} {x:Operand} {xt t:TypeId} {ti:TI} {y:SV} {ok:Bool} (h:o.op=.typeAssert x xt t ok) (hx:ev s x=.ifc t y) (ht:Γ.get t=some ti) (hk:ti.k matches .bool | .int _ | .string | .slice .. | .struct _ | .ptr | .func) :
  Good P o s ⟨if ok then .tup [y,Ad true] else y,[],[]⟩ :=
 Good.pure fun κ a w _ hr _=>by
  have h1:=hr x (by simp[h,Op.operands])
  rw[hx]at h1
  simp only[Rd]at h1
  obtain ⟨u,e1,e2⟩:=h1
  obtain ⟨d,info,z,k1,k2,_⟩:=Γ.ok t ti ht
  have hni:∀ ms,d≠.interface ms:=by
   obtain ⟨k,n,zz⟩:=ti
   intro ms hd
   subst hd
   cases k<;>simp_all[TK.ok]
  have hrun:(Instr.typeAssert (.iface t u) xt t ok).run P w=.ok (if ok then .tuple #[u,.bool true] else u) w:=by
   cases d<;>first
    | exact absurd rfl (hni _)
    | (cases ok<;>simp[Instr.typeAssert,run_underlying k1])
  refine⟨if ok then .tuple #[u,.bool true] else u,by simp[execOp,h,e1,hrun],?_⟩
  cases ok
  ·exact e2
  ·simp only[if_true,Rd,RdL]
   exact⟨[u,.bool true],E,_,_,E,e2,_,_,E,by simp[Ad,Rd],E⟩
def Asq (P:Program) (t:TypeId) (name:String) (f:FuncId) (pr:Bool):Bool :=
 match P.info? t with
 | some i=>(match i.methods.find? (·.name == name) with
  | some m=>m.path.isEmpty && (match m.func with | some (g,b)=>Nat.beq g f && (b == pr) | none=>false)
  | none=>false)
 | none=>false
theorem Meth.of {P:Program} {t:TypeId} {name:String} {f:FuncId} {pr:Bool} {e:TypeId} (h:Asq P t name f pr=true) (hu:P.underlying t=some (.pointer e)):Meth P t name f pr e:=by
 refine⟨?_,hu⟩
 unfold Asq at h
 split at h
 ·rename_i i hi
  split at h
  ·rename_i m hm
   simp only[Bool.and_eq_true]at h
   obtain ⟨h1,h2⟩:=h
   split at h2
   ·rename_i g b hf
    simp only[Bool.and_eq_true,beq_iff_eq]at h2
    obtain ⟨h3,rfl⟩:=h2
    have h3:=Nat.eq_of_beq_eq_true h3
    subst h3
    exact⟨i,m,hi,hm,by simpa using h1,hf⟩
   ·cases h2
  ·cases h
 ·cases h
end Go.Sy
namespace Go.Sy.YtmelpejjondedaaGreat
open Go.Proofs
attribute [local irreducible] Go.Sy.G Go.Sy.DR
set_option maxRecDepth 20000
set_option maxHeartbeats 4000000
structure Item where
 (root cost dev:Int)
instance:Inhabited Item:=⟨⟨0,0,0⟩⟩
def Bs (x:Item):SV:=.agg [Aa x.root,Aa x.cost,Aa x.dev]
def B8 (x y:Item):Bool:=decide (x.root<y.root) || (x.root == y.root && decide (x.cost<y.cost))
theorem Vo (q:List Item):Sy.Spec Tryz.prog 234 [.sl 3 Bs q] [] (Aa q.length) []:=Ab Γ hm 100 F234 Tryz.ntmps234 rfl fun F hF=>by
 conv=>whnf
 exact Ac E (.cons .tmp .nil) E E
theorem Kb (q:List Item) (i j:Nat) (hi:i<q.length) (hj:j<q.length):Sy.Spec Tryz.prog 384 [.sl 3 Bs q,Aa i,Aa j] [] (Ad (B8 q[i] q[j])) []:=Ab Γ hm 100 F384 Tryz.ntmps384 rfl fun F hF=>by
 have e1:q[(i:Int).toNat]'qn=q[i]:=rfl
 have e2:q[(j:Int).toNat]'qn=q[j]:=rfl
 conv=>whnf
 (repeat' (first | (refine⟨fun h=>?_,fun h=>?_⟩<;>(repeat (first | simp only[decide_eq_true_eq]at h | simp only[decide_eq_false_iff_not]at h | simp only[beq_iff_eq]at h | simp only[beq_eq_false_iff_ne]at h))<;>((refine rd qy ?_);(conv=>whnf))) | (refine Ac rfl (.cons .tmp .nil) ?_ rfl) | (refine⟨qy,?_⟩;((conv=>whnf))) | (refine⟨by (omega),by (omega),?_⟩;((conv=>whnf)))))
 all_goals (refine congrArg Ad ?_;clear hF;grind [B8])
theorem J9 (q:List Item) (i j:Nat) (hi:i<q.length) (hj:j<q.length):Sy.Spec Tryz.prog 387 [.osl 0,Aa i,Aa j] [(0,.row 3 Bs q)] (.tup []) [(0,.row 3 Bs ((q.set i q[j]).set j q[i]))]:=Ab Γ hm 100 F387 Tryz.ntmps387 rfl fun F hF=>by
 have e1:q[(i:Int).toNat]'qn=q[i]:=rfl
 have e2:q[(j:Int).toNat]'qn=q[j]:=rfl
 conv=>whnf
 refine⟨by omega,by omega,?_⟩
 conv=>whnf
 refine⟨E,by omega,?_⟩
 rw[e2]
 conv=>whnf
 refine⟨by omega,by omega,?_⟩
 conv=>whnf
 refine⟨E,by omega,?_⟩
 rw[e1]
 conv=>whnf
 refine⟨by omega,by omega,?_⟩
 conv=>whnf
 refine⟨E,by omega,q[j],E,E,?_⟩
 conv=>whnf
 refine⟨by omega,by simp;omega,?_⟩
 conv=>whnf
 refine⟨E,by simp;omega,q[i],E,E,?_⟩
 conv=>whnf
 refine⟨qy,?_⟩
 conv=>whnf
 exact Bw E .nil [] [(0,.row 3 Bs ((q.set i q[j]).set j q[i]))] (fun _ h=>h) E E ⟨Y,⟨.inl E,E,Y⟩,E,E⟩
theorem Ahz (q:List Item) (x:Item) (hq:q.length<1000000):Sy.Spec Tryz.prog 386 [.ptr 0 0,.ifc 345 (Bs x)] [(0,.box [.osl 1]),(1,.row 3 Bs q)] (.tup []) [(0,.box [.osl 2]),(1,.non),(2,.row 3 Bs (q++[x]))]:=Ab Γ hm 100 F386 Tryz.ntmps386 rfl fun F hF=>by
 conv=>whnf
 refine Ai (Ww Γ.toTy E E E E) E E ?_
 (refine rg ?_;(conv=>whnf);refine aT ?_;refine rg ?_;conv=>whnf)
 refine Bn (Ae Γ.toTy 18 E E E E E (.row E) (.lit (l:=[x]) E E) za (by simp;omega) (by simp;omega)) qy E ?_
 refine rd qy ?_;conv=>whnf
 refine⟨qy,?_⟩
 conv=>whnf
 exact Bw E .nil [(2,18)] [(0,.box [.osl 2]),(1,.non),(2,.row 3 Bs (q++[x]))] (fun _ h=>h) E E ⟨Y,⟨.inl E,E,.inl E,E,.inl E,E,Y⟩,E,E⟩
theorem Alv (q:List Item) (hq:q≠[]) (hl:q.length<1000000):Sy.Spec Tryz.prog 385 [.ptr 0 0] [(0,.box [.osl 1]),(1,.row 3 Bs q)] (.ifc 345 (Bs (q.getLast hq))) [(0,.box [.osl 2]),(1,.non),(2,.row 3 Bs q.dropLast)]:=Ab Γ hm 100 F385 Tryz.ntmps385 rfl fun F hF=>by
 have h0:0<q.length:=List.length_pos_iff.2 hq
 have e1:q[((q.length:Int)-1).toNat]'qn=q.getLast hq:=by
  rw[List.getLast_eq_getElem]
  congr 1
  omega
 conv=>whnf
 refine⟨by unfold I64;omega,?_⟩
 conv=>whnf
 refine⟨by omega,by omega,?_⟩
 conv=>whnf
 refine⟨E,by omega,?_⟩
 rw[e1]
 conv=>whnf
 refine⟨qy,?_⟩
 conv=>whnf
 refine⟨by unfold I64;omega,?_⟩
 conv=>whnf
 refine Bn (Zd Γ.toTy (d:=23) (hi:=q.length-1) E E E E E qz E (.inl ⟨E,E⟩) (.inr ⟨_,_,E,congrArg (fun z=>SV.val (.int .i64 z)) qn⟩) qn) qy E ?_
 rw[← List.dropLast_eq_take]
 refine rd qy ?_;conv=>whnf
 refine⟨qy,?_⟩
 conv=>whnf
 exact done E (.cons .tmp .nil) [(2,23)] [(0,.box [.osl 2]),(1,.non),(2,.row 3 Bs q.dropLast)] (fun _ h=>h) E E ⟨Y,⟨.inl E,E,.inl E,E,.inl E,E,Y⟩,E,E⟩
end Go.Sy.YtmelpejjondedaaGreat
namespace Go.Sy.YtmelpejjondedaaGreat
open Go.Proofs
attribute [local irreducible] Go.Sy.G Go.Sy.DR
set_option maxRecDepth 100000
set_option maxHeartbeats 4000000
theorem mLen : Meth Tryz.prog 340 "Len" 234 false 342 := .of (by kernel_rfl) Tryz.underlying340
theorem Afl : Meth Tryz.prog 340 "Less" 384 false 342 := .of (by kernel_rfl) Tryz.underlying340
theorem Afk : Meth Tryz.prog 340 "Swap" 387 false 342 := .of (by kernel_rfl) Tryz.underlying340
theorem mPush : Meth Tryz.prog 340 "Push" 386 true 342 := .of (by kernel_rfl) Tryz.underlying340
theorem mPop : Meth Tryz.prog 340 "Pop" 385 true 342 := .of (by kernel_rfl) Tryz.underlying340
def Dx (q:List Item) (i j:Nat):List Item:=(q.set i (q.getD j default)).set j (q.getD i default)
theorem A8 (q:List Item) (i j:Nat):(Dx q i j).length=q.length:=by simp[Dx]
def upF:Nat→List Item→Nat→List Item
 | 0,q,_=>q
 | n+1,q,j=>if j=0 then q else if B8 (q.getD j default) (q.getD ((j-1) / 2) default) then upF n (Dx q ((j-1) / 2) j) ((j-1) / 2) else q
theorem Ad7:∀ (n m:Nat) (q:List Item) (j:Nat),j≤n→j≤m→upF n q j=upF m q j
 | 0,m,q,j,h,_=>by
  have:j=0:=by omega
  subst this
  cases m<;>simp[upF]
 | n+1,0,q,j,_,h=>by
  have:j=0:=by omega
  subst this
  simp[upF]
 | n+1,m+1,q,j,h1,h2=>by
  rw[upF,upF]
  split
  ·rfl
  ·split
   ·exact Ad7 n m _ _ qn qn
   ·rfl
theorem Ane (r:List Item):∀ (i:Nat),i≠0→upF i r i=if B8 (r.getD i default) (r.getD ((i-1) / 2) default) then upF ((i-1) / 2) (Dx r ((i-1) / 2) i) ((i-1) / 2) else r
 | 0,h=>absurd rfl h
 | m+1,_=>by
  rw[upF,if_neg qn]
  split
  ·exact Ad7 _ _ _ _ qn qn
  ·rfl
theorem upS (q:List Item) (j:Nat) (hj:j<q.length) (hl:q.length<1000000) :
  Sy.Spec Tryz.prog 285 [.ifc 340 (.ptr 0 0),Aa j] [(0,.box [.osl 1]),(1,.row 3 Bs q)] (.tup []) [(0,.box [.osl 1]),(1,.row 3 Bs (upF j q j))]:=Ab Γ hm 100 F285 Tryz.ntmps285 rfl fun F hF=>by
 conv=>whnf
 refine Qi (α:={p:List Item × Nat // upF p.2 p.1 p.2=upF j q j∧p.1.length=q.length∧p.2<p.1.length}) (fun p=>[(0,.ifc 340 (.ptr 0 0)),(1,Aa p.1.2)]) (fun p=>[(0,.box [.osl 1]),(1,.row 3 Bs p.1.1)]) (fun p=>p.1.2) ⟨(q,j),E,E,hj⟩ []
  ⟨⟨rfl,rfl,rfl,rfl,trivial⟩,⟨.inl rfl,rfl,.inl rfl,rfl,trivial⟩,rfl,rfl⟩ ?_
 rintro ⟨⟨r,i⟩,h1,h2,h3⟩
 simp only at h1 h2 h3
 dsimp only
 have hw:IntKind.i64.wrap (((i:Int)-1).tdiv 2)=(((i-1) / 2:Nat):Int):=by
  rcases Nat.eq_zero_or_pos i with h0 | h0
  ·subst h0;rfl
  ·have:((i:Int)-1)=((i-1:Nat):Int):=by omega
   rw[this,Int.tdiv_eq_ediv_of_nonneg qn,IntKind.wrap_i64]
   omega
 refine rg ?_;conv=>whnf
 refine⟨by unfold I64;omega,?_⟩
 conv=>whnf
 refine⟨by decide,?_⟩
 rw[hw]
 conv=>whnf
 refine⟨fun h=>?_,fun h=>?_⟩
 ·have h0:i=0:=by
   have:(((i-1) / 2:Nat):Int)=i:=by simpa using h
   omega
  subst h0
  have e:upF j q j=r:=by rw[← h1];rfl
  rw[e]
  (refine rg ?_;(conv=>whnf);refine aT ?_;refine rg ?_;conv=>whnf)
  exact Bw E .nil [] [(0,.box [.osl 1]),(1,.row 3 Bs r)] (fun _ h=>h) E E ⟨Y,⟨.inl E,E,.inl E,E,Y⟩,E,E⟩
 have h0:i≠0:=by
  intro h0
  subst h0
  exact absurd h qz
 have hp:(i-1) / 2<r.length:=by omega
 have hless:=Kb r i ((i-1) / 2) h3 hp
 refine rg ?_;conv=>whnf
 refine Ai (D5 [1] (Bp Γ.toTy Afl F384 E E E E E) hless (.cons (.row E E) (.cons (.refl _) (.cons (.refl _) .nil))) E E) E E ?_
 refine rg ?_;conv=>whnf
 have hu:upF i r i=if B8 r[i] r[(i-1) / 2] then upF ((i-1) / 2) (Dx r ((i-1) / 2) i) ((i-1) / 2) else r:=by
  rw[Ane r i h0,Bb h3,Bb hp]
 refine⟨fun h=>?_,fun h=>?_⟩
 ·have hlt:B8 r[i] r[(i-1) / 2]=false:=by simpa using h
  have e:upF j q j=r:=by rw[← h1,hu,hlt];rfl
  rw[e]
  refine rg ?_;conv=>whnf
  exact Bw E .nil [] [(0,.box [.osl 1]),(1,.row 3 Bs r)] (fun _ h=>h) E E ⟨Y,⟨.inl E,E,.inl E,E,Y⟩,E,E⟩
 have hlt:B8 r[i] r[(i-1) / 2]=true:=by simpa using h
 rw[hlt,if_pos rfl]at hu
 have hsw:=J9 r ((i-1) / 2) i hp h3
 have e:(r.set ((i-1) / 2) r[i]).set i r[(i-1) / 2]=Dx r ((i-1) / 2) i:=by
  rw[Dx,Bb h3,Bb hp]
 rw[e]at hsw
 refine rg ?_;conv=>whnf
 refine Ai (C5 [(0,1)] (Bp Γ.toTy Afk F387 E E E E E) hsw E ⟨E,Y⟩ E ⟨.inl E,Y⟩) E E ?_
 refine rg ?_;conv=>whnf
 exact Sp (α:={p:List Item × Nat // upF p.2 p.1 p.2=upF j q j∧p.1.length=q.length∧p.2<p.1.length}) (L:=fun p=>[(0,.ifc 340 (.ptr 0 0)),(1,Aa p.1.2)]) (O:=fun p=>[(0,.box [.osl 1]),(1,.row 3 Bs p.1.1)]) (μ:=fun p=>p.1.2) (x:=⟨(r,i),h1,h2,h3⟩)
  ⟨(Dx r ((i-1) / 2) i,(i-1) / 2),by rw[← h1,hu],by rw[A8];exact h2,by rw[A8];exact hp⟩ [] (by simp only;omega)
  ⟨⟨rfl,rfl,rfl,rfl,trivial⟩,⟨.inl rfl,rfl,.inl rfl,rfl,trivial⟩,rfl,rfl⟩
theorem Xs:∀ (n:Nat) (q:List Item) (j:Nat),(upF n q j).length=q.length
 | 0,q,j=>rfl
 | n+1,q,j=>by
  rw[upF]
  split
  ·rfl
  ·split
   ·rw[Xs n,A8]
   ·rfl
def Se (q:List Item) (x:Item):List Item:=upF q.length (q++[x]) q.length
theorem Abp (q:List Item) (x:Item) (hl:q.length<999999) :
  Sy.Spec Tryz.prog 233 [.ifc 340 (.ptr 0 0),.ifc 345 (Bs x)] [(0,.box [.osl 1]),(1,.row 3 Bs q)] (.tup []) [(0,.box [.osl 2]),(1,.non),(2,.row 3 Bs (Se q x))]:=Ab Γ hm 100 F233 Tryz.ntmps233 rfl fun F hF=>by
 have hpush:=Ahz q x qn
 have hlen:=Vo (q++[x])
 have hup:=upS (q++[x]) q.length za (by simp;omega)
 have hln:(((q++[x]).length:Nat):Int)-1=(q.length:Int):=by simp
 conv=>whnf
 refine Ai (C5 (rd:=[]) [(2,6)] (Sm mPush F386 E E) hpush E ⟨E,E,Y⟩ E ⟨.inl E,.inl E,.inr E,Y⟩) E E ?_
 refine rg ?_;conv=>whnf
 refine Ai (D5 [6] (Bp Γ.toTy mLen F234 E E E E E) hlen (.cons (.row E E) .nil) E E) E E ?_
 refine rg ?_;conv=>whnf
 refine⟨by unfold I64;simp;omega,?_⟩
 rw[hln]
 conv=>whnf
 refine Ai (Ak [(1,6)] E F285 hup E ⟨E,E,Y⟩ E ⟨.inl E,.inl E,Y⟩) E E ?_
 refine rg ?_;conv=>whnf
 exact Bw E .nil [(2,6)] [(0,.box [.osl 2]),(1,.non),(2,.row 3 Bs (Se q x))] (fun _ h=>h) E E ⟨Y,⟨.inl E,E,.inl E,E,.inl E,E,Y⟩,E,E⟩
def Ds (q:List Item) (i n:Nat):Nat:=if 2 * i+2<n∧B8 (q.getD (2 * i+2) default) (q.getD (2 * i+1) default)=true then 2 * i+2 else 2 * i+1
theorem L6 (q:List Item) (i n:Nat) (h:2 * i+1<n):Ds q i n<n∧i<Ds q i n:=by
 unfold Ds
 split<;>omega
def Dv:Nat→List Item→Nat→Nat→List Item × Nat
 | 0,q,i,_=>(q,i)
 | f+1,q,i,n=>if 2 * i+1<n then (if B8 (q.getD (Ds q i n) default) (q.getD i default) then Dv f (Dx q i (Ds q i n)) (Ds q i n) n else (q,i)) else (q,i)
theorem Tj:∀ (f g:Nat) (q:List Item) (i n:Nat),n≤f+i→n≤g+i→Dv f q i n=Dv g q i n
 | 0,g,q,i,n,h1,h2=>by
  cases g with
  | zero=>rfl
  | succ g=>rw[Dv,Dv,if_neg qn]
 | f+1,0,q,i,n,h1,h2=>by rw[Dv,Dv,if_neg qn]
 | f+1,g+1,q,i,n,h1,h2=>by
  rw[Dv,Dv]
  split
  ·rename_i h
   have:=L6 q i n h
   split
   ·exact Tj f g _ _ n qn qn
   ·rfl
  ·rfl
theorem Ajb (r:List Item) (i n:Nat):Dv (n-i) r i n=if 2 * i+1<n then (if B8 (r.getD (Ds r i n) default) (r.getD i default) then Dv (n-Ds r i n) (Dx r i (Ds r i n)) (Ds r i n) n else (r,i)) else (r,i):=by
 rw[Tj (n-i) (n-i+1) r i n qn qn,Dv]
 split
 ·rename_i h
  have:=L6 r i n h
  split
  ·exact Tj _ _ _ _ _ qn qn
  ·rfl
 ·rfl
theorem U4:∀ (f:Nat) (q:List Item) (i n:Nat),(Dv f q i n).1.length=q.length
 | 0,_,_,_=>rfl
 | f+1,q,i,n=>by
  rw[Dv]
  split
  ·split
   ·rw[U4 f,A8]
   ·rfl
  ·rfl
theorem downS (q:List Item) (i0 n:Nat) (hn:n≤q.length) (hi:i0<q.length) (hl:q.length<1000000) :
  Sy.Spec Tryz.prog 286 [.ifc 340 (.ptr 0 0),Aa i0,Aa n] [(0,.box [.osl 1]),(1,.row 3 Bs q)] (Ad (decide (((Dv (n-i0) q i0 n).2:Int)>i0))) [(0,.box [.osl 1]),(1,.row 3 Bs (Dv (n-i0) q i0 n).1)]:=Ab Γ hm 100 F286 Tryz.ntmps286 rfl fun F hF=>by
 generalize hD:Dv (n-i0) q i0 n=D
 conv=>whnf
 refine Qi (α:={p:List Item × Nat // Dv (n-p.2) p.1 p.2 n=D∧p.1.length=q.length∧p.2<p.1.length}) (fun p=>[(0,.ifc 340 (.ptr 0 0)),(1,Aa i0),(2,Aa n),(7,Aa p.1.2)]) (fun p=>[(0,.box [.osl 1]),(1,.row 3 Bs p.1.1)]) (fun p=>n-p.1.2) ⟨(q,i0),hD,E,hi⟩ []
  ⟨⟨rfl,rfl,rfl,rfl,rfl,rfl,rfl,rfl,trivial⟩,⟨.inl rfl,rfl,.inl rfl,rfl,trivial⟩,rfl,rfl⟩ ?_
 rintro ⟨⟨r,i⟩,h1,h2,h3⟩
 simp only at h1 h2 h3
 dsimp only
 have h10:=h1
 rw[Ajb]at h1
 have hj1:(2:Int) * i+1=((2 * i+1:Nat):Int):=by omega
 have hj2:((2 * i+1:Nat):Int)+1=((2 * i+2:Nat):Int):=by omega
 refine rg ?_;conv=>whnf
 refine⟨by unfold I64;omega,?_⟩
 conv=>whnf
 refine⟨by unfold I64;omega,?_⟩
 rw[hj1]
 conv=>whnf
 refine⟨fun h=>?_,fun h=>?_⟩
 ·have hge:¬ 2 * i+1<n:=by have:=of_decide_eq_true h;omega
  rw[if_neg hge]at h1
  rw[← h1]
  (refine rg ?_;(conv=>whnf);refine aT ?_;refine rg ?_;conv=>whnf)
  exact done E (.cons .tmp .nil) [] [(0,.box [.osl 1]),(1,.row 3 Bs r)] (fun _ h=>h) E E ⟨Y,⟨.inl E,E,.inl E,E,Y⟩,E,E⟩
 have hlt:2 * i+1<n:=by have:=of_decide_eq_false h;omega
 rw[if_pos hlt]at h1
 (refine rg ?_;(conv=>whnf);refine aF ?_;refine rg ?_;conv=>whnf)
 refine⟨by unfold I64;omega,?_⟩
 rw[hj2]
 conv=>whnf
 refine⟨fun h=>?_,fun h=>?_⟩
 ·have h2n:2 * i+2<n:=by have:=of_decide_eq_true h;omega
  have hA:2 * i+2<r.length:=by omega
  have hB:2 * i+1<r.length:=by omega
  have hlc:=Kb r (2 * i+2) (2 * i+1) hA hB
  refine rg ?_;conv=>whnf
  refine Ai (D5 [1] (Bp Γ.toTy Afl F384 E E E E E) hlc (.cons (.row E E) (.cons (.refl _) (.cons (.refl _) .nil))) E E) E E ?_
  refine rg ?_;conv=>whnf
  refine⟨fun h=>?_,fun h=>?_⟩
  ·have hc:Ds r i n=2 * i+2:=by rw[Ds,if_pos ⟨h2n,by rw[Bb hA,Bb hB];exact h⟩]
   have hJ:=hA
   refine rg ?_;conv=>whnf
   rw[hc,Bb hJ,Bb h3]at h1
   have hls:=Kb r (2 * i+2) i hJ h3
   refine Ai (D5 [1] (Bp Γ.toTy Afl F384 E E E E E) hls (.cons (.row E E) (.cons (.refl _) (.cons (.refl _) .nil))) E E) E E ?_
   refine rg ?_;conv=>whnf
   refine⟨fun h=>?_,fun h=>?_⟩
   ·have hf:B8 r[2 * i+2] r[i]=false:=by simpa using h
    rw[hf]at h1
    have e:D=(r,i):=h1.symm
    rw[e]
    refine rg ?_;conv=>whnf
    exact done E (.cons .tmp .nil) [] [(0,.box [.osl 1]),(1,.row 3 Bs r)] (fun _ h=>h) E E ⟨Y,⟨.inl E,E,.inl E,E,Y⟩,E,E⟩
   have hf:B8 r[2 * i+2] r[i]=true:=by simpa using h
   rw[hf,if_pos rfl]at h1
   have hsw:=J9 r i (2 * i+2) h3 hJ
   have e:(r.set i r[2 * i+2]).set (2 * i+2) r[i]=Dx r i (2 * i+2):=by
    rw[Dx,Bb h3,Bb hJ]
   rw[e]at hsw
   refine rg ?_;conv=>whnf
   refine Ai (C5 [(0,1)] (Bp Γ.toTy Afk F387 E E E E E) hsw E ⟨E,Y⟩ E ⟨.inl E,Y⟩) E E ?_
   refine rg ?_;conv=>whnf
   exact Sp (α:={p:List Item × Nat // Dv (n-p.2) p.1 p.2 n=D∧p.1.length=q.length∧p.2<p.1.length}) (L:=fun p=>[(0,.ifc 340 (.ptr 0 0)),(1,Aa i0),(2,Aa n),(7,Aa p.1.2)]) (O:=fun p=>[(0,.box [.osl 1]),(1,.row 3 Bs p.1.1)]) (μ:=fun p=>n-p.1.2) (x:=⟨(r,i),h10,h2,h3⟩)
    ⟨(Dx r i (2 * i+2),2 * i+2),h1,by rw[A8];exact h2,by rw[A8];exact hJ⟩ [] (by simp only;omega)
    ⟨⟨rfl,rfl,rfl,rfl,rfl,rfl,rfl,rfl,trivial⟩,⟨.inl rfl,rfl,.inl rfl,rfl,trivial⟩,rfl,rfl⟩
  ·have hc:Ds r i n=2 * i+1:=by rw[Ds,if_neg (fun hh=>by rw[Bb hA,Bb hB,h]at hh;exact absurd hh.2 za)]
   have hJ:=hB
   refine rg ?_;conv=>whnf
   rw[hc,Bb hJ,Bb h3]at h1
   have hls:=Kb r (2 * i+1) i hJ h3
   refine Ai (D5 [1] (Bp Γ.toTy Afl F384 E E E E E) hls (.cons (.row E E) (.cons (.refl _) (.cons (.refl _) .nil))) E E) E E ?_
   refine rg ?_;conv=>whnf
   refine⟨fun h=>?_,fun h=>?_⟩
   ·have hf:B8 r[2 * i+1] r[i]=false:=by simpa using h
    rw[hf]at h1
    have e:D=(r,i):=h1.symm
    rw[e]
    refine rg ?_;conv=>whnf
    exact done E (.cons .tmp .nil) [] [(0,.box [.osl 1]),(1,.row 3 Bs r)] (fun _ h=>h) E E ⟨Y,⟨.inl E,E,.inl E,E,Y⟩,E,E⟩
   have hf:B8 r[2 * i+1] r[i]=true:=by simpa using h
   rw[hf,if_pos rfl]at h1
   have hsw:=J9 r i (2 * i+1) h3 hJ
   have e:(r.set i r[2 * i+1]).set (2 * i+1) r[i]=Dx r i (2 * i+1):=by
    rw[Dx,Bb h3,Bb hJ]
   rw[e]at hsw
   refine rg ?_;conv=>whnf
   refine Ai (C5 [(0,1)] (Bp Γ.toTy Afk F387 E E E E E) hsw E ⟨E,Y⟩ E ⟨.inl E,Y⟩) E E ?_
   refine rg ?_;conv=>whnf
   exact Sp (α:={p:List Item × Nat // Dv (n-p.2) p.1 p.2 n=D∧p.1.length=q.length∧p.2<p.1.length}) (L:=fun p=>[(0,.ifc 340 (.ptr 0 0)),(1,Aa i0),(2,Aa n),(7,Aa p.1.2)]) (O:=fun p=>[(0,.box [.osl 1]),(1,.row 3 Bs p.1.1)]) (μ:=fun p=>n-p.1.2) (x:=⟨(r,i),h10,h2,h3⟩)
    ⟨(Dx r i (2 * i+1),2 * i+1),h1,by rw[A8];exact h2,by rw[A8];exact hJ⟩ [] (by simp only;omega)
    ⟨⟨rfl,rfl,rfl,rfl,rfl,rfl,rfl,rfl,trivial⟩,⟨.inl rfl,rfl,.inl rfl,rfl,trivial⟩,rfl,rfl⟩
 ·have h2n:¬ 2 * i+2<n:=by have:=of_decide_eq_false h;omega
  have hJ:2 * i+1<r.length:=by omega
  have hc:Ds r i n=2 * i+1:=by rw[Ds,if_neg (fun hh=>h2n hh.1)]
  (refine rg ?_;(conv=>whnf);refine aF ?_;refine rg ?_;conv=>whnf)
  rw[hc,Bb hJ,Bb h3]at h1
  have hls:=Kb r (2 * i+1) i hJ h3
  refine Ai (D5 [1] (Bp Γ.toTy Afl F384 E E E E E) hls (.cons (.row E E) (.cons (.refl _) (.cons (.refl _) .nil))) E E) E E ?_
  refine rg ?_;conv=>whnf
  refine⟨fun h=>?_,fun h=>?_⟩
  ·have hf:B8 r[2 * i+1] r[i]=false:=by simpa using h
   rw[hf]at h1
   have e:D=(r,i):=h1.symm
   rw[e]
   refine rg ?_;conv=>whnf
   exact done E (.cons .tmp .nil) [] [(0,.box [.osl 1]),(1,.row 3 Bs r)] (fun _ h=>h) E E ⟨Y,⟨.inl E,E,.inl E,E,Y⟩,E,E⟩
  have hf:B8 r[2 * i+1] r[i]=true:=by simpa using h
  rw[hf,if_pos rfl]at h1
  have hsw:=J9 r i (2 * i+1) h3 hJ
  have e:(r.set i r[2 * i+1]).set (2 * i+1) r[i]=Dx r i (2 * i+1):=by
   rw[Dx,Bb h3,Bb hJ]
  rw[e]at hsw
  refine rg ?_;conv=>whnf
  refine Ai (C5 [(0,1)] (Bp Γ.toTy Afk F387 E E E E E) hsw E ⟨E,Y⟩ E ⟨.inl E,Y⟩) E E ?_
  refine rg ?_;conv=>whnf
  exact Sp (α:={p:List Item × Nat // Dv (n-p.2) p.1 p.2 n=D∧p.1.length=q.length∧p.2<p.1.length}) (L:=fun p=>[(0,.ifc 340 (.ptr 0 0)),(1,Aa i0),(2,Aa n),(7,Aa p.1.2)]) (O:=fun p=>[(0,.box [.osl 1]),(1,.row 3 Bs p.1.1)]) (μ:=fun p=>n-p.1.2) (x:=⟨(r,i),h10,h2,h3⟩)
   ⟨(Dx r i (2 * i+1),2 * i+1),h1,by rw[A8];exact h2,by rw[A8];exact hJ⟩ [] (by simp only;omega)
   ⟨⟨rfl,rfl,rfl,rfl,rfl,rfl,rfl,rfl,trivial⟩,⟨.inl rfl,rfl,.inl rfl,rfl,trivial⟩,rfl,rfl⟩
def C4 (q:List Item):List Item:=(Dv (q.length-1-0) (Dx q 0 (q.length-1)) 0 (q.length-1)).1
theorem D3 (q:List Item):(C4 q).length=q.length:=by rw[C4,U4,A8]
theorem Dw {q:List Item} (h:q≠[]):C4 q≠[]:=fun e=>h (List.eq_nil_of_length_eq_zero (by rw[← D3,e];rfl))
theorem Apl (q:List Item) (hq:q≠[]) (hl:q.length<1000000) :
  Sy.Spec Tryz.prog 235 [.ifc 340 (.ptr 0 0)] [(0,.box [.osl 1]),(1,.row 3 Bs q)] (.ifc 345 (Bs ((C4 q).getLast (Dw hq)))) [(0,.box [.osl 2]),(1,.non),(2,.row 3 Bs (C4 q).dropLast)]:=Ab Γ hm 100 F235 Tryz.ntmps235 rfl fun F hF=>by
 have h0:0<q.length:=List.length_pos_iff.2 hq
 have hlen:=Vo q
 have hsw:=J9 q 0 (q.length-1) h0 qn
 have e:(q.set 0 q[q.length-1]).set (q.length-1) q[0]=Dx q 0 (q.length-1):=by
  rw[Dx,Bb (show q.length-1<q.length by omega),Bb h0]
 rw[e]at hsw
 have hdn:=downS (Dx q 0 (q.length-1)) 0 (q.length-1) (by rw[A8];omega) (by rw[A8];exact h0) (by rw[A8];exact hl)
 have hpop:=Alv (C4 q) (Dw hq) (by rw[D3];exact hl)
 have hln:(q.length:Int)-1=((q.length-1:Nat):Int):=by omega
 conv=>whnf
 refine Ai (D5 [1] (Bp Γ.toTy mLen F234 E E E E E) hlen (.cons (.row E E) .nil) E E) E E ?_
 refine rg ?_;conv=>whnf
 refine⟨by unfold I64;omega,?_⟩
 rw[hln]
 conv=>whnf
 refine Ai (C5 [(0,1)] (Bp Γ.toTy Afk F387 E E E E E) hsw E ⟨E,Y⟩ E ⟨.inl E,Y⟩) E E ?_
 refine rg ?_;conv=>whnf
 refine Ai (Ak [] E F286 hdn E ⟨E,E,Y⟩ E ⟨.inl E,.inl E,Y⟩) E E ?_
 refine rg ?_;conv=>whnf
 refine Ai (C5 (rd:=[]) [(2,14)] (Sm mPop F385 E E) hpop E ⟨E,E,Y⟩ E ⟨.inl E,.inl E,.inr E,Y⟩) E E ?_
 refine rg ?_;conv=>whnf
 exact done E (.cons .tmp .nil) [(2,14)] [(0,.box [.osl 2]),(1,.non),(2,.row 3 Bs (C4 q).dropLast)] (fun _ h=>h) E E ⟨Y,⟨.inl E,E,.inl E,E,.inl E,E,Y⟩,E,E⟩
end Go.Sy.YtmelpejjondedaaGreat
