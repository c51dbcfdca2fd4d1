/-
  K25 Sy30 Sy20 Sy21 Sy31 Sy32 Sy33 S3 K1 K2 K3 K4 K5 D0 K6 K7 K26 Sy24 T1 T2 T3 T4 V6 V7 V8 T5 T6 T7: parts of a proof, joined by program.
-/
import Derived.Test.YteinjapglfkamaaGreatXD4
import Derived.Test.YteinjapglfkamaaGreatXD2
import Derived.ProofKit
import Derived.OpenShut
import Derived.Test.YteinjapglfkamaaGreatXD3
namespace Go.Sy.YteinjapglfkamaaGreat
open Go.Proofs
def bAt (b:List UInt8) (i:Nat):UInt8:=b.getD i 0
def numAt (b:List UInt8) (k m:Nat):Nat:=Hl ((b.drop k).take m)
def Cb (l:List Nat):List UInt8:=l.flatMap fun n=>[UInt8.ofNat (n / 256),UInt8.ofNat n]
def udpPort (a b:Nat):Nat:=49152+(a ^^^ b) % 16384
def Afo (src dst:Nat) (body:List UInt8):List UInt8:=Cb [src,dst,8+body.length,0]++body
def udpTakeT (b:List UInt8):Int × Int × List UInt8 × Int :=
 if b.length<8 then (0,0,[],10) else if numAt b 4 2<8 then (0,0,[],11) else if b.length<numAt b 4 2 then (0,0,[],10)
 else if numAt b 6 2≠0 then (0,0,[],12) else (numAt b 0 2,numAt b 2 2,(b.take (numAt b 4 2)).drop 8,0)
structure PacketM where
 tos:Nat
 id:Nat
 ttl:Nat
 proto:Nat
 src:Nat
 dst:Nat
 body:List UInt8
def noP:PacketM:=⟨0,0,0,0,0,0,[]⟩
def Jp (p:PacketM):SV:=.agg [Aa p.tos,Aa p.id,Aa p.ttl,Aa p.proto,B4 p.src,B4 p.dst,.sl 1 Ag p.body]
structure PacketOK (p:PacketM):Prop where
 tos:p.tos≤255
 id:p.id≤65535
 ttl:p.ttl≤255
 proto:p.proto≤255
 src:p.src<4294967296
 dst:p.dst<4294967296
def Ia (p:PacketM) (s:Nat):List UInt8:=Cb [17664+p.tos,20+p.body.length,p.id,0,p.ttl * 256+p.proto,s,p.src / 65536,p.src,p.dst / 65536,p.dst]
def Mh (p:PacketM):Nat:=Hj (Ia p 0)
def U8 (p:PacketM):List UInt8:=Ia p (Mh p)++p.body
def ipPutT (p:PacketM):List UInt8 × Int:=if 1480<p.body.length then ([],14) else (U8 p,0)
def ipTakeT (b:List UInt8):PacketM × Int :=
 if b.length<20 then (noP,10) else if bAt b 0≠69∨numAt b 2 2<20 then (noP,11) else if b.length<numAt b 2 2 then (noP,10)
 else if numAt b 6 2≠0 then (noP,11) else if Df (Hq (b.take 20) 10)≠65535 then (noP,12)
 else (⟨(bAt b 1).toNat,numAt b 4 2,(bAt b 8).toNat,(bAt b 9).toNat,numAt b 12 4,numAt b 16 4,(b.take (numAt b 2 2)).drop 20⟩,0)
def Iw (v:Nat):List UInt8:=[8,0,0,0,UInt8.ofNat (v / 65536),UInt8.ofNat (v / 256),UInt8.ofNat v,0]
def Mr (v:Int):Bool:=decide (v<1) || decide (16777215<v)
def vniT (b:List UInt8):Int × List UInt8 × Int :=
 if b.length<8 then (0,[],10) else if numAt b 4 3=0∨b.take 8≠Iw (numAt b 4 3) then (0,[],11) else (numAt b 4 3,b.drop 8,0)
def Ou (from_ to:Nat) (v:Nat) (f:FrameM):PacketM:=⟨0,0,64,17,from_,to,Afo (udpPort f.dst f.src) 4789 (Iw v++X1 f)⟩
def wrapT (from_ to:Nat) (v:Int) (f:FrameM):List UInt8 × Int :=
 if f.typ=33024 then ([],15) else if Mr v=true then ([],17) else if 1450<f.body.length then ([],14)
 else (frame (Ec to) (Ec from_) 2048 (U8 (Ou from_ to v.toNat f)),0)
def outerT (b:List UInt8):PacketM × Int :=
 if (takeF b).2≠0 then (noP,(takeF b).2) else if (takeF b).1.typ≠2048 then (noP,11)
 else if (ipTakeT (takeF b).1.body).2≠0 then (noP,(ipTakeT (takeF b).1.body).2)
 else ((ipTakeT (takeF b).1.body).1,if (ipTakeT (takeF b).1.body).1.proto≠17 then 11 else 0)
def innerT (b:List UInt8):Int × FrameM × Int :=
 if (udpTakeT b).2.2.2≠0 then (0,noF,(udpTakeT b).2.2.2) else if (udpTakeT b).2.1≠4789 then (0,noF,11)
 else if (vniT (udpTakeT b).2.2.1).2.2≠0 then (0,noF,(vniT (udpTakeT b).2.2.1).2.2)
 else if (takeF (vniT (udpTakeT b).2.2.1).2.1).2≠0 then (0,noF,(takeF (vniT (udpTakeT b).2.2.1).2.1).2)
 else if (takeF (vniT (udpTakeT b).2.2.1).2.1).1.typ=33024 then (0,noF,15)
 else ((vniT (udpTakeT b).2.2.1).1,(takeF (vniT (udpTakeT b).2.2.1).2.1).1,0)
def unwrapT (b:List UInt8):Nat × Nat × Int × FrameM × Int :=
 if (outerT b).2≠0 then (0,0,0,noF,(outerT b).2) else if (innerT (outerT b).1.body).2.2≠0 then (0,0,0,noF,(innerT (outerT b).1.body).2.2)
 else ((outerT b).1.src,(outerT b).1.dst,(innerT (outerT b).1.body).1,(innerT (outerT b).1.body).2.1,0)
structure Net.Num (n:Net):Prop where
 vtep:∀ d∈n.devices,0≤d.vtep∧d.vtep<4294967296
 addr:∀ i∈n.irbs,0≤i.addr∧i.addr<4294967296
def E7 (n:Net) (dom:Int):Int:=(nth n.devices (nth n.domains dom).dev).vtep
def meshT (n:Net) (dom peer:Int) (f:FrameM):List UInt8 × Int :=
 if Ai peer n.domains.length=false∨Ai dom n.domains.length=false∨Ae n=false then ([],2)
 else if inB (nth n.domains dom).peers peer=false then ([],17)
 else wrapT (E7 n dom).toNat (E7 n peer).toNat (nth n.domains dom).vni f
def endsT (n:Net) (src dst:Nat) (vni:Int):Int × Int :=
 let dev:=Dq (fun d:Device=>decide (d.vtep=(dst:Int))) n.devices
 let dom:=Dq (fun d:Domain=>decide (d.dev=dev) && decide (d.vni=vni)) n.domains
 if dev<0∨dom<0 then (-1,-1)
 else
  let i:=Dq (fun k:Int=>decide (E7 n k=(src:Int))) (nth n.domains dom).peers
  if i<0 then (-1,-1) else (nth (nth n.domains dom).peers i,dom)
def comeT (n:Net) (b:List UInt8):Int × Int × FrameM × Int :=
 if Ae n=false then (0,0,noF,2)
 else if (unwrapT b).2.2.2.2≠0 then (0,0,noF,(unwrapT b).2.2.2.2)
 else if (endsT n (unwrapT b).1 (unwrapT b).2.1 (unwrapT b).2.2.1).1<0 then (0,0,noF,17)
 else if Ed (unwrapT b).2.2.2.1.src=true then (0,0,noF,11)
 else ((endsT n (unwrapT b).1 (unwrapT b).2.1 (unwrapT b).2.2.1).1,(endsT n (unwrapT b).1 (unwrapT b).2.1 (unwrapT b).2.2.1).2,(unwrapT b).2.2.2.1,0)
def routerT (n:Net) (dom:Int) (m:Nat):Int × Bool :=
 if Ai dom n.domains.length=false∨Ae n=false then (0,false)
 else if (nth n.domains dom).irb<0∨Ec (nth n.irbs (nth n.domains dom).irb).addr≠m then (0,false)
 else ((nth n.domains dom).irb,true)
def Ahe (p:PacketM):PacketM:=⟨p.tos,p.id,p.ttl-1,p.proto,p.src,p.dst,p.body⟩
def hopT (n:Net) (irb:Int) (f:FrameM):Int × FrameM × Int :=
 if Ai irb n.irbs.length=false∨Ae n=false then (0,noF,2)
 else if f.typ≠2048 then (0,noF,11)
 else if (ipTakeT f.body).2≠0 then (0,noF,(ipTakeT f.body).2)
 else if (ipTakeT f.body).1.ttl≤1 then (0,noF,13)
 else if (lookT n irb (ipTakeT f.body).1.dst).2=false then (0,noF,31)
 else if 1480<(ipTakeT f.body).1.body.length then (0,noF,14)
 else ((nth n.irbs (lookT n irb (ipTakeT f.body).1.dst).1).domain,
  ⟨Ec (ipTakeT f.body).1.dst,Ec (nth n.irbs (lookT n irb (ipTakeT f.body).1.dst).1).addr,2048,U8 (Ahe (ipTakeT f.body).1)⟩,0)
structure OutM where
 kind:Int
 port:Int
 domain:Int
 bytes:List UInt8
 frame:FrameM
 error:Int
def Bl (o:OutM):SV:=.agg [Aa o.kind,Aa o.port,Aa o.domain,.sl 1 Ag o.bytes,As o.frame.dst,As o.frame.src,Aa o.frame.typ,.sl 1 Ag o.frame.body,Aa o.error]
def learnQ (t:List EntryM) (q:QueuedM) (now:Int):List EntryM :=
 if q.from_=-2 then t else learnT t q.frame.src (if q.from_=-1 then -1-q.peer else q.from_) now
def D5 (o:OutM) (r:List UInt8 × Int):OutM:=if r.2≠0 then ⟨5,o.port,o.domain,[],o.frame,r.2⟩ else ⟨o.kind,o.port,o.domain,r.1,o.frame,o.error⟩
def E8 (n:Net) (dom:Int) (f:FrameM) (p:Int):OutM:=D5 ⟨if (nth n.ports p).link<0 then 1 else 2,p,0,[],noF,0⟩ (leaveT n p dom f)
def H7 (n:Net) (dom:Int) (f:FrameM) (p:Int):OutM:=D5 ⟨3,0,p,[],noF,0⟩ (meshT n dom p f)
def bridgeT (n:Net) (fw:List Bool) (t:List EntryM) (dom:Int) (q:QueuedM) (now:Int):List EntryM × List OutM × Int :=
 if roomB n fw dom q.from_=false∨tableB t=false then ([],[],2)
 else if (routerT n dom q.frame.dst).2=true then
  (if (hopT n (routerT n dom q.frame.dst).1 q.frame).2.2≠0 then (learnQ t q now,[],(hopT n (routerT n dom q.frame.dst).1 q.frame).2.2)
   else (learnQ t q now,[⟨4,0,(hopT n (routerT n dom q.frame.dst).1 q.frame).1,[],(hopT n (routerT n dom q.frame.dst).1 q.frame).2.1,0⟩],0))
 else (learnQ t q now,(decideT n fw (learnQ t q now) dom q.from_ q.frame.dst).1.map (E8 n dom q.frame)++(decideT n fw (learnQ t q now) dom q.from_ q.frame.dst).2.1.map (H7 n dom q.frame),0)
end Go.Sy.YteinjapglfkamaaGreat
namespace Go.Sy
theorem Good.dataT {P:Program} {o:Oper} {s:SS} {d sz:Nat} {ks:List Nat} {k:Option Nat} {α:Type} {e:α→SV} {l:List α} (h:Good P o s ⟨.osl d,ks,Hh k d (.row sz e l)⟩) :
  Good P o s ⟨.sl sz e l,ks,Hh k d .non⟩:=fun κ a w hi hr ho N Q hN=>by
 have hws:Up.ws ⟨SV.osl d,ks,Hh k d (.row sz e l)⟩=Up.ws ⟨SV.sl sz e l,ks,Hh k d .non⟩:=by
  cases k<;>rfl
 refine h κ a w hi hr (fun j hj=>ho j (by rw[← hws];exact hj)) N Q fun v κ' w' st inv hv hob=>?_
 have hmem:d∈Up.ws ⟨SV.sl sz e l,ks,Hh k d .non⟩:=by cases k<;>simp[Up.ws,Hh]
 have hrow:ObOK κ' w' d (.row sz e l):=hob (d,.row sz e l) (by cases k<;>simp[Hh])
 have st2:=Id (κ:=κ') (w:=w') (some d)
 have inv2:=Js inv (some d)
 have hx:Rd (Dl κ' d .dead) w' (.sl sz e l) v:=by
  rcases hrow with ⟨h1,rfl⟩ | h1
  ·simp only[Rd,h1]at hv
   simp only[Rd,RdD]
   exact .inl ⟨by simp,none,0,hv⟩
  ·refine h1.freeze hv st2.keeps.out (fun b hb=>⟨inv.bnd d b hb,?_⟩)
   rintro (⟨q,hq⟩ | hq)
   ·by_cases hqd:q=d
    ·subst hqd;rw[Az]at hq;cases hq
    ·rw[Ce _ _ hqd]at hq
     exact hqd (inv.inj q d b hq hb)
   ·exact inv.apart d b hb hq
 refine hN v _ w' ((st.weaken (fun j hj=>by rw[← hws];exact hj)).trans (st2.weaken (fun j hj=>by cases hj;exact hmem))) inv2 hx (fun x hxm=>?_)
 have:x.2=.non:=by
  cases k with
  | none=>have:=List.mem_singleton.1 hxm;rw[this]
  | some j =>
   rcases List.mem_cons.1 hxm with h1 | h1
   ·rw[h1]
   ·have:=List.mem_singleton.1 h1;rw[this]
 rw[this]
 trivial
end Go.Sy
namespace Go.Sy
open Go.ChangeShapes Go.WideShapes Go.ChangeAt Go.RowKit
def κ0:Ka:=⟨fun _=>.new,fun _=>False⟩
theorem inv0 (w:World):Inv κ0 w :=
 ⟨fun i j b h=>(by cases h),fun k b h=>(by cases h),fun k b h=>(by cases h),fun b h=>False.elim h⟩
theorem Ae9 {w w':World} {κ':Ka} (c:Ctx ⟨w,κ0⟩ κ' w'):Below w.heap.size w w' :=
 ⟨c.os,c.tape,c.output,c.size,fun k hk=>c.old k hk (fun j h=>by cases h)⟩
section
variable {H:Type} {enc:TypeId × Value→H} {P:Program}
theorem Sr {W W':World} (hl:laidOutB P=true) (hb:Below W.heap.size W W'):∀ {ts:List TypeId} {vs:List Value} {ds:List (DataW H)} {ps:List MemPlace},(∀ t∈ts,P.readableRec t=true∧t<P.types.size) →
  (∀ x∈ps,x.block<W.heap.size)→DataW.TrodAll enc P W 0 (fun _=>true) true ts vs ds ps→DataW.TrodAll enc P W' 0 (fun b=>decide (b<W.heap.size)) true ts vs ds ps
 | [],_,_,_,_,_,h=>by
  obtain ⟨rfl,rfl,rfl⟩:=trodAll_nil h
  rfl
 | t::ts,_,_,_,ht,hp,h=>by
  obtain ⟨v,vs,d,ds,p,q,rfl,rfl,rfl,h1,h2⟩:=trodAll_cons h
  have:=ht t qz
  exact⟨p,q,Below.trod hl this.1 this.2 h1 hb (fun x hx=>hp x (by simp[hx])),Sr hl hb (fun t h=>ht t (by simp[h])) (fun x hx=>hp x (by simp[hx])) h2,E⟩
theorem An0 {f:FuncId} {fn:Func} {s:ChangeSpec} {W:World} {args:Array Value} {ds gs:List (DataW H)} {before:List MemPlace} {tb:TypeId} {A:List SV} (hv:s.vars=[]) (hl:laidOutB P=true)
  (hW:DataW.Whole enc P fn.params.toList s.vars false W args.toList ds gs before) (hts:∀ t∈fn.params.toList,P.readableRec t=true∧t<P.types.size) (hrt:fn.resultTypes=#[tb]) (hbt:P.underlying tb=some .bool)
  (hfn:∀ gs:List (DataW H),gs=[]→s.fn H (ds++gs)={ results:=[.lit (.bool true)],args:=ds }) (hA:RdL κ0 W A args.toList) (hs:Sy.Spec P f A [] (Ab true) []) :
  Calls P f args W fun e W'=>∃ v,e=.returned v∧s.post enc P fn false true false false W args v W':=by
 have hc:=hs κ0 W args.toList (inv0 W) (fun k hk=>absurd rfl hk) hA (fun p hp=>by cases hp)
 simp only[Array.toArray_toList]at hc
 refine hc.mono ?_
 rintro e W' ⟨v,κ',rfl,ctx,inv,hR,_⟩
 have hvv:v=.bool true:=by simpa [Ab,Rd] using hR
 subst hvv
 have hb:=Ae9 ctx
 have hW':=hW
 obtain ⟨p,q,h1,h2,h3,h4,h5⟩:=hW
 have hgs:gs=[]∧q=[]:=by
  rw[hv]at h2
  exact trodVars_none h2
 obtain ⟨rfl,rfl⟩:=hgs
 rw[List.append_nil]at h3
 subst h3
 have hlt:∀ x∈before,x.block<W.heap.size:=fun x hx=>by simpa using hW'.lt x hx
 refine⟨_,rfl,ds,[],before,[],before,[],hW',?_,?_,?_,?_,fun h=>by cases h⟩
 ·rw[hfn [] rfl,hrt]
  exact trodAll_mk1 (shut_bool hbt true)
 ·rw[hfn [] rfl]
  exact Sr hl hb hts hlt h1
 ·rw[hv,hfn [] rfl]
  rfl
 ·exact hb.frame _
end
end Go.Sy
namespace Go.Sy
theorem Om {P:Program} (Γ:Ty P) {o:Oper} {s:SS} {t:TypeId} {ti:TI} {et:TypeId} {len esz sz g:Nat} {y:Operand} {ik:IntKind} {n:Int} {z:SV} (k:Nat)
  (h:o.op=.indexAddr t (.global g) y) (ht:Γ.get t=some ti) (hk:ti.k=.array et len esz) (hb:s.h k=.glob sz z g) (hy:ev s y=.val (.int ik n)) (h0:0≤n) (hn:n.toNat<len) :
  Good P o s ⟨.ref sz z (n.toNat * esz),[k],[]⟩ :=
 Good.pure fun κ a w _ hr ho=>by
  have h1:=ho k qz
  have h2:=hr y (by simp[h,Op.operands])
  rw[hb]at h1
  rw[hy]at h2
  simp only[ObOK,Rd,RdD]at h1
  obtain ⟨b,oo,u,e1,e2,e3,e4,e5⟩:=h1
  obtain ⟨hu,i,q1,q2⟩:=Qz Γ ht hk
  simp only[Nat.add_zero,Value.pointer.injEq,Option.some.injEq,Addr.mk.injEq,and_true]at e1
  obtain ⟨rfl,rfl⟩:=e1
  refine⟨.pointer (some ⟨g,0+n.toNat * esz,none⟩),?_,?_⟩
  ·have hg:a.eval (.global g)=.pointer (some ⟨g,0,none⟩):=rfl
   simp only[execOp,h,hg,h2.val]
   simp[Mv w hu q1 q2 h0 hn]
  ·simp only[Rd,RdD]
   exact⟨g,0,u,E,e2,e3,e4,e5⟩
theorem Ob.shp_glob {x:Ob} {sz g:Nat} {z:SV} (h:x.shp=(Ob.glob sz z g).shp):x=.glob sz z g:=by
 cases x<;>simp_all[Ob.shp]
theorem GoodX.glob {P:Program} (Γ:Ty P) {o:Oper} {s:SS} {t:TypeId} {ti:TI} {et:TypeId} {len esz sz g:Nat} {y:Operand} {ik:IntKind} {n:Int} {z:SV} (k:Nat)
  (h:o.op=.indexAddr t (.global g) y) (ht:Γ.get t=some ti) (hk:ti.k=.array et len esz) (hb:s.h k=.glob sz z g) (hy:ev s y=.val (.int ik n)) (h0:0≤n) (hn:n.toNat<len) :
  GoodX P o s ⟨.ref sz z (n.toNat * esz),[k],[]⟩ where
 good:=(Om Γ k h ht hk hb hy h0 hn).two
 idx _:=⟨rfl,fun s' h1 h2=>Om Γ k h ht hk (Ob.shp_glob ((h2 k qz).trans (congrArg Ob.shp hb))) ((h1 y (by simp[h,Op.operands])).trans hy) h0 hn⟩
 st hs:=by simp[Ot,h]at hs
section
open Go.ChangeShapes Go.WideShapes Go.ChangeAt Go.RowKit
variable {H:Type} {enc:TypeId × Value→H} {P:Program}
end
end Go.Sy
namespace Go.Sy
theorem H1 {P:Program} (Γ:Ty P) {o:Oper} {s:SS} {t:TypeId} {ti:TI} {et:TypeId} {len:Nat} {x y:Operand} {ik:IntKind} {n:Int} {l:List SV} {z:SV} {k:EK} (h:o.op=.index t x y) (ht:Γ.get t=some ti) (hk:ti.k=.array et len 1)
  (he:P.underlying et=some (EK.desc k)) (hx:ev s x=.agg l) (hy:ev s y=.val (.int ik n)) (h0:0≤n) (hn:n.toNat<len) (hz:Et l n.toNat=some z):Good P o s ⟨z,[],[]⟩ :=
 Good.pure fun κ a w _ hr _=>by
  have h1:=hr x (by simp[h,Op.operands])
  have h2:=hr y (by simp[h,Op.operands])
  rw[hx]at h1
  rw[hy]at h2
  simp only[Rd]at h1
  obtain ⟨cs,e1,_,e2⟩:=h1
  obtain ⟨v,e3,e4⟩:=e2.getT hz
  obtain ⟨hu,i,q1,q2⟩:=Qz Γ ht hk
  have hp:=Y8 (P:=P) w he cs.toArray e3
  have hlt:n<len:=by omega
  refine⟨v,?_,e4⟩
  simp[execOp,h,e1,h2.val,Instr.index,run_underlying hu,asIntOf,h0,hlt,sizeOf,typeInfo,q1,q2,hp]
theorem Ar {C:Cx} {k:List KI} {s:SS} (d:Nat) (l':List SV) {l:List SV} (h:s.h d=.box l) (hv:VwL s [] l l') (hg:G C k ⟨s.σ,upd s.h d (.box l')⟩):G C k s:=fun κ a w hs =>
 hg κ a w ⟨hs.defers,hs.size,hs.inv,hs.ctx,hs.slot,fun i=>by
  show ObOK κ w i (upd s.h d (.box l') i)
  by_cases hi:i=d
  ·subst hi
   rw[By]
   have:=hs.obj i
   rw[h]at this
   obtain ⟨b,cs,T,fr,e1,e2,e3,e4,e5⟩:=this
   exact⟨b,cs,T,fr,e1,e2,e3,e4,VwL.rd hs.inv (fun _ hn=>by cases hn) hv e5⟩
  ·rw[Ck _ _ hi];exact hs.obj i⟩
end Go.Sy
namespace Go.Sy.YteinjapglfkamaaGreat
open Go.Proofs
attribute [local irreducible] Go.Sy.G Go.Sy.DR
set_option maxRecDepth 100000
set_option maxHeartbeats 4000000
theorem Q7 {κ:Ka} {w:World} {k sz:Nat} {α:Type} {e:α→SV} {l:List α} (hne:l≠[]) (h:ObOK κ w k (.row sz e l)):∃ b n c,κ k=.row b n c:=by
 rcases h with ⟨_,h⟩ | ⟨b,cap,_,_,_,h,_⟩
 ·exact absurd h hne
 ·exact⟨b,_,cap,h⟩
theorem Ae6 (l:List Device) (hl:l.length<2147483648):Sy.Spec Tryz.prog 162 [.sl 5 Bs l] [] (.sl 5 Bs l) []:=cT F162 Tryz.ntmps162 fun F hF=>by
 conv=>whnf
 refine Ej E (.inl E) E E E .sl E E ?_
 intro b hb
 cases b
 ·refine oF ?_
  refine Ad (Ac Γ.toTy 7 E E E E E (.lit (e:=Bs) (l:=[]) E E) .sl qz (by simp;omega) (by simp;omega)) E E ?_
  refine Ao 7 E ?_
  refine oO ?_
  exact dN
 ·have h0:l=[]:=List.eq_nil_of_length_eq_zero (hb rfl)
  subst h0
  refine oT ?_
  refine Am 2 5 Bs E ?_
  exact dN
theorem Akx (l:List Link) (hl:l.length<2147483648):Sy.Spec Tryz.prog 164 [.sl 3 Cs l] [] (.sl 3 Cs l) []:=cT F164 Tryz.ntmps164 fun F hF=>by
 conv=>whnf
 refine Ej E (.inl E) E E E .sl E E ?_
 intro b hb
 cases b
 ·refine oF ?_
  refine Ad (Ac Γ.toTy 7 E E E E E (.lit (e:=Cs) (l:=[]) E E) .sl qz (by simp;omega) (by simp;omega)) E E ?_
  refine Ao 7 E ?_
  refine oO ?_
  exact dN
 ·have h0:l=[]:=List.eq_nil_of_length_eq_zero (hb rfl)
  subst h0
  refine oT ?_
  refine Am 2 3 Cs E ?_
  exact dN
theorem Ae2 (l:List Static) (hl:l.length<2147483648):Sy.Spec Tryz.prog 166 [.sl 4 Bp l] [] (.sl 4 Bp l) []:=cT F166 Tryz.ntmps166 fun F hF=>by
 conv=>whnf
 refine Ej E (.inl E) E E E .sl E E ?_
 intro b hb
 cases b
 ·refine oF ?_
  refine Ad (Ac Γ.toTy 7 E E E E E (.lit (e:=Bp) (l:=[]) E E) .sl qz (by simp;omega) (by simp;omega)) E E ?_
  refine Ao 7 E ?_
  refine oO ?_
  exact dN
 ·have h0:l=[]:=List.eq_nil_of_length_eq_zero (hb rfl)
  subst h0
  refine oT ?_
  refine Am 2 4 Bp E ?_
  exact dN
theorem Aok (l:List Irb) (hl:l.length<2147483648):Sy.Spec Tryz.prog 169 [.sl 5 Dp l] [] (.sl 5 Dp l) []:=cT F169 Tryz.ntmps169 fun F hF=>by
 conv=>whnf
 refine Ej E (.inl E) E E E .sl E E ?_
 intro b hb
 cases b
 ·refine oF ?_
  refine Ad (Ac Γ.toTy 7 E E E E E (.lit (e:=Dp) (l:=[]) E E) .sl qz (by simp;omega) (by simp;omega)) E E ?_
  refine Ao 7 E ?_
  refine oO ?_
  exact dN
 ·have h0:l=[]:=List.eq_nil_of_length_eq_zero (hb rfl)
  subst h0
  refine oT ?_
  refine Am 2 5 Dp E ?_
  exact dN
theorem Mn (l:List Int) (hl:l.length<2147483648):Sy.Spec Tryz.prog 170 [.sl 1 Aa l] [] (.sl 1 Aa l) []:=cT F170 Tryz.ntmps170 fun F hF=>by
 conv=>whnf
 refine Ej E (.inl E) E E E .sl E E ?_
 intro b hb
 cases b
 ·refine oF ?_
  refine Ad (Ac Γ.toTy 7 E E E E E (.lit (e:=Aa) (l:=[]) E E) .sl qz (by simp;omega) (by simp;omega)) E E ?_
  refine Ao 7 E ?_
  refine oO ?_
  exact dN
 ·have h0:l=[]:=List.eq_nil_of_length_eq_zero (hb rfl)
  subst h0
  refine oT ?_
  refine Am 2 1 Aa E ?_
  exact dN
theorem Aoj (l:List Int) (hl:l.length<2147483648):Sy.Spec Tryz.prog 171 [.sl 1 B4 l] [] (.sl 1 B4 l) []:=cT F171 Tryz.ntmps171 fun F hF=>by
 conv=>whnf
 refine Ej E (.inl E) E E E .sl E E ?_
 intro b hb
 cases b
 ·refine oF ?_
  refine Ad (Ac Γ.toTy 7 E E E E E (.lit (e:=B4) (l:=[]) E E) .sl qz (by simp;omega) (by simp;omega)) E E ?_
  refine Ao 7 E ?_
  refine oO ?_
  exact dN
 ·have h0:l=[]:=List.eq_nil_of_length_eq_zero (hb rfl)
  subst h0
  refine oT ?_
  refine Am 2 1 B4 E ?_
  exact dN
theorem Aky (l:List Bool) (hl:l.length<2147483648):Sy.Spec Tryz.prog 118 [.sl 1 Ab l] [] (.sl 1 Ab l) []:=cT F118 Tryz.ntmps118 fun F hF=>by
 conv=>whnf
 refine Ej E (.inl E) E E E .sl E E ?_
 intro b hb
 cases b
 ·refine oF ?_
  refine Ad (Ac Γ.toTy 7 E E E E E (.lit (e:=Ab) (l:=[]) E E) .sl qz (by simp;omega) (by simp;omega)) E E ?_
  refine Ao 7 E ?_
  refine oO ?_
  exact dN
 ·have h0:l=[]:=List.eq_nil_of_length_eq_zero (hb rfl)
  subst h0
  refine oT ?_
  refine Am 2 1 Ab E ?_
  exact dN
theorem Akw (l:List Port) (hl:l.length<2147483648):Sy.Spec Tryz.prog 163 [.sl 7 Bh l] [] (.osl 0) [(0,.row 7 Bh l)]:=cT F163 Tryz.ntmps163 fun F hF=>by
 conv=>whnf
 refine Ej E (.inl E) E E E .sl E E ?_
 intro b hb
 cases b
 ·refine oF ?_
  refine Ad (Ac Γ.toTy 7 E E E E E (.lit (e:=Bh) (l:=[]) E E) .sl qz (by simp;omega) (by simp;omega)) E E ?_
  refine oO ?_
  exact done E (.cons .tmp .nil) [(0,7)] [(0,.row 7 Bh l)] (fun _ h=>h) E E ⟨Y,⟨.inl E,E,Y⟩,E,E⟩
 ·have h0:l=[]:=List.eq_nil_of_length_eq_zero (hb rfl)
  subst h0
  refine oT ?_
  refine Bm 2 1000 7 Bh E E ?_
  exact done E (.cons .tmp .nil) [(0,1000)] [(0,.row 7 Bh [])] (fun _ h=>h) E E ⟨Y,⟨.inl E,E,Y⟩,E,E⟩
theorem Ae5 (l:List Domain) (hl:l.length<2147483648):Sy.Spec Tryz.prog 165 [.sl 6 Aw l] [] (.osl 0) [(0,.row 6 Aw l)]:=cT F165 Tryz.ntmps165 fun F hF=>by
 conv=>whnf
 refine Ej E (.inl E) E E E .sl E E ?_
 intro b hb
 cases b
 ·refine oF ?_
  refine Ad (Ac Γ.toTy 7 E E E E E (.lit (e:=Aw) (l:=[]) E E) .sl qz (by simp;omega) (by simp;omega)) E E ?_
  refine oO ?_
  exact done E (.cons .tmp .nil) [(0,7)] [(0,.row 6 Aw l)] (fun _ h=>h) E E ⟨Y,⟨.inl E,E,Y⟩,E,E⟩
 ·have h0:l=[]:=List.eq_nil_of_length_eq_zero (hb rfl)
  subst h0
  refine oT ?_
  refine Bm 2 1000 6 Aw E E ?_
  exact done E (.cons .tmp .nil) [(0,1000)] [(0,.row 6 Aw [])] (fun _ h=>h) E E ⟨Y,⟨.inl E,E,Y⟩,E,E⟩
theorem Ah1 (l:List Flood) (hl:l.length<2147483648):Sy.Spec Tryz.prog 167 [.sl 4 B7 l] [] (.osl 0) [(0,.row 4 B7 l)]:=cT F167 Tryz.ntmps167 fun F hF=>by
 conv=>whnf
 refine Ej E (.inl E) E E E .sl E E ?_
 intro b hb
 cases b
 ·refine oF ?_
  refine Ad (Ac Γ.toTy 7 E E E E E (.lit (e:=B7) (l:=[]) E E) .sl qz (by simp;omega) (by simp;omega)) E E ?_
  refine oO ?_
  exact done E (.cons .tmp .nil) [(0,7)] [(0,.row 4 B7 l)] (fun _ h=>h) E E ⟨Y,⟨.inl E,E,Y⟩,E,E⟩
 ·have h0:l=[]:=List.eq_nil_of_length_eq_zero (hb rfl)
  subst h0
  refine oT ?_
  refine Bm 2 1000 4 B7 E E ?_
  exact done E (.cons .tmp .nil) [(0,1000)] [(0,.row 4 B7 [])] (fun _ h=>h) E E ⟨Y,⟨.inl E,E,Y⟩,E,E⟩
theorem Aoi (l:List Vrf) (hl:l.length<2147483648):Sy.Spec Tryz.prog 168 [.sl 5 C4 l] [] (.osl 0) [(0,.row 5 C4 l)]:=cT F168 Tryz.ntmps168 fun F hF=>by
 conv=>whnf
 refine Ej E (.inl E) E E E .sl E E ?_
 intro b hb
 cases b
 ·refine oF ?_
  refine Ad (Ac Γ.toTy 7 E E E E E (.lit (e:=C4) (l:=[]) E E) .sl qz (by simp;omega) (by simp;omega)) E E ?_
  refine oO ?_
  exact done E (.cons .tmp .nil) [(0,7)] [(0,.row 5 C4 l)] (fun _ h=>h) E E ⟨Y,⟨.inl E,E,Y⟩,E,E⟩
 ·have h0:l=[]:=List.eq_nil_of_length_eq_zero (hb rfl)
  subst h0
  refine oT ?_
  refine Bm 2 1000 5 C4 E E ?_
  exact done E (.cons .tmp .nil) [(0,1000)] [(0,.row 5 C4 [])] (fun _ h=>h) E E ⟨Y,⟨.inl E,E,Y⟩,E,E⟩
theorem copyS (n:Net) (hn:n.Fin) :
  Sy.Spec Tryz.prog 113 [Aj n] [] (Aj n) []:=cT F113 Tryz.ntmps113 fun F hF=>by
 have h1:n.devices.length<2147483648∧n.ports.length<2147483648∧n.links.length<2147483648∧n.domains.length<2147483648∧n.statics.length<2147483648∧n.floods.length<2147483648∧n.vrfs.length<2147483648∧n.irbs.length<2147483648:=⟨hn.devices,hn.ports,hn.links,hn.domains,hn.statics,hn.floods,hn.vrfs,hn.irbs⟩
 have h2:(∀ p∈n.ports,p.tagged.length<2147483648)∧(∀ p∈n.domains,p.peers.length<2147483648)∧(∀ p∈n.floods,p.addrs.length<2147483648)∧(∀ p∈n.vrfs,p.imports.length<2147483648∧p.exports.length<2147483648):=⟨hn.tagged,hn.peers,hn.addrs,fun v hv=>⟨hn.imports v hv,hn.exports v hv⟩⟩
 conv=>whnf
 refine cD (Ae6 n.devices h1.1) F162 ?_
 refine oD ?_
 refine Bd (Af [(0,14)] E F163 (Akw n.ports h1.2.1) E Y E ⟨.inr E,Y⟩) qq E ?_
 refine oD ?_
 refine cD (Akx n.links h1.2.2.1) F164 ?_
 refine oD ?_
 refine Bd (Af [(0,20)] E F165 (Ae5 n.domains h1.2.2.2.1) E Y E ⟨.inr E,Y⟩) qq E ?_
 refine oD ?_
 refine cD (Ae2 n.statics h1.2.2.2.2.1) F166 ?_
 refine oD ?_
 refine Bd (Af [(0,26)] E F167 (Ah1 n.floods h1.2.2.2.2.2.1) E Y E ⟨.inr E,Y⟩) qq E ?_
 refine oD ?_
 refine Bd (Af [(0,29)] E F168 (Aoi n.vrfs h1.2.2.2.2.2.2.1) E Y E ⟨.inr E,Y⟩) qq E ?_
 refine oD ?_
 refine cD (Aok n.irbs h1.2.2.2.2.2.2.2) F169 ?_
 refine oD ?_
 refine kW ?_
 refine At n.ports.length (fun j=>[(2,.ptr 2 0),(3,.ptr 3 0),(36,Aa n.ports.length),(37,Aa j)]) (fun _=>[(2,.box [.val (.slice none 0 0),.val (.slice none 0 0),.val (.slice none 0 0),.val (.slice none 0 0),.val (.slice none 0 0),.val (.slice none 0 0),.val (.slice none 0 0),.val (.slice none 0 0)]),(3,.box [.sl 5 Bs n.devices,.osl 14,.sl 3 Cs n.links,.osl 20,.sl 4 Bp n.statics,.osl 26,.osl 29,.sl 5 Dp n.irbs]),(14,.row 7 Bh n.ports),(20,.row 6 Aw n.domains),(26,.row 4 B7 n.floods),(29,.row 5 C4 n.vrfs)]) []
  ⟨⟨rfl,rfl,rfl,rfl,rfl,rfl,rfl,rfl,trivial⟩,⟨.inl rfl,rfl,.inl rfl,rfl,.inl rfl,rfl,.inl rfl,rfl,.inl rfl,rfl,.inl rfl,rfl,trivial⟩,rfl,rfl⟩ ?_
 intro j hj
 refine oO ?_
 refine⟨fun h=>?_,fun h=>?_⟩
 ·have hlt:j<n.ports.length:=by simpa using h
  obtain ⟨p,hp⟩:∃ p,n.ports[(j:Int).toNat]'qn=p:=⟨_,rfl⟩
  have hne:n.ports≠[]:=fun e=>by rw[e]at hlt;cases hlt
  have hset:n.ports.set (j:Int).toNat p=n.ports:=by rw[← hp];exact List.set_getElem_self _
  have hpl:=h2.1 p (by rw[← hp];exact List.getElem_mem _)
  refine oO ?_
  refine⟨by omega,by show _<n.ports.length;omega,?_⟩
  conv=>whnf
  refine⟨hne,?_⟩
  conv=>whnf
  refine⟨E,by omega,?_⟩
  rw[hp]
  conv=>whnf
  refine cD (Mn p.tagged hpl) F170 ?_
  refine oD ?_
  refine⟨by omega,by show _<n.ports.length;omega,?_⟩
  conv=>whnf
  refine⟨hne,?_⟩
  conv=>whnf
  refine⟨E,by omega,p,(by rw[hp];rfl),(by rw[hp];rfl),?_⟩
  conv=>whnf
  refine kW ?_
  refine iW ?_
  exact An [] hlt ⟨⟨E,E,E,E,E,E,E,E,Y⟩,⟨.inl E,E,.inl E,E,.inl (congrArg (Ob.row 7 Bh) hset.symm),E,.inl E,E,.inl E,E,.inl E,E,Y⟩,E,E⟩
 ·refine oO ?_
  refine At n.domains.length (fun j=>[(2,.ptr 2 0),(3,.ptr 3 0),(55,Aa n.domains.length),(56,Aa j)]) (fun _=>[(2,.box [.val (.slice none 0 0),.val (.slice none 0 0),.val (.slice none 0 0),.val (.slice none 0 0),.val (.slice none 0 0),.val (.slice none 0 0),.val (.slice none 0 0),.val (.slice none 0 0)]),(3,.box [.sl 5 Bs n.devices,.osl 14,.sl 3 Cs n.links,.osl 20,.sl 4 Bp n.statics,.osl 26,.osl 29,.sl 5 Dp n.irbs]),(14,.row 7 Bh n.ports),(20,.row 6 Aw n.domains),(26,.row 4 B7 n.floods),(29,.row 5 C4 n.vrfs)]) []
   ⟨⟨rfl,rfl,rfl,rfl,rfl,rfl,rfl,rfl,trivial⟩,⟨.inl rfl,rfl,.inl rfl,rfl,.inl rfl,rfl,.inl rfl,rfl,.inl rfl,rfl,.inl rfl,rfl,trivial⟩,rfl,rfl⟩ ?_
  intro j hj
  refine oO ?_
  refine⟨fun h=>?_,fun h=>?_⟩
  ·have hlt:j<n.domains.length:=by simpa using h
   obtain ⟨p,hp⟩:∃ p,n.domains[(j:Int).toNat]'qn=p:=⟨_,rfl⟩
   have hne:n.domains≠[]:=fun e=>by rw[e]at hlt;cases hlt
   have hset:n.domains.set (j:Int).toNat p=n.domains:=by rw[← hp];exact List.set_getElem_self _
   have hpl:=h2.2.1 p (by rw[← hp];exact List.getElem_mem _)
   refine oO ?_
   refine⟨by omega,by show _<n.domains.length;omega,?_⟩
   conv=>whnf
   refine⟨hne,?_⟩
   conv=>whnf
   refine⟨E,by omega,?_⟩
   rw[hp]
   conv=>whnf
   refine cD (Mn p.peers hpl) F170 ?_
   refine oD ?_
   refine⟨by omega,by show _<n.domains.length;omega,?_⟩
   conv=>whnf
   refine⟨hne,?_⟩
   conv=>whnf
   refine⟨E,by omega,p,(by rw[hp];rfl),(by rw[hp];rfl),?_⟩
   conv=>whnf
   refine kW ?_
   refine iW ?_
   exact An [] hlt ⟨⟨E,E,E,E,E,E,E,E,Y⟩,⟨.inl E,E,.inl E,E,.inl E,E,.inl (congrArg (Ob.row 6 Aw) hset.symm),E,.inl E,E,.inl E,E,Y⟩,E,E⟩
  ·refine oO ?_
   refine At n.floods.length (fun j=>[(2,.ptr 2 0),(3,.ptr 3 0),(74,Aa n.floods.length),(75,Aa j)]) (fun _=>[(2,.box [.val (.slice none 0 0),.val (.slice none 0 0),.val (.slice none 0 0),.val (.slice none 0 0),.val (.slice none 0 0),.val (.slice none 0 0),.val (.slice none 0 0),.val (.slice none 0 0)]),(3,.box [.sl 5 Bs n.devices,.osl 14,.sl 3 Cs n.links,.osl 20,.sl 4 Bp n.statics,.osl 26,.osl 29,.sl 5 Dp n.irbs]),(14,.row 7 Bh n.ports),(20,.row 6 Aw n.domains),(26,.row 4 B7 n.floods),(29,.row 5 C4 n.vrfs)]) []
    ⟨⟨rfl,rfl,rfl,rfl,rfl,rfl,rfl,rfl,trivial⟩,⟨.inl rfl,rfl,.inl rfl,rfl,.inl rfl,rfl,.inl rfl,rfl,.inl rfl,rfl,.inl rfl,rfl,trivial⟩,rfl,rfl⟩ ?_
   intro j hj
   refine oO ?_
   refine⟨fun h=>?_,fun h=>?_⟩
   ·have hlt:j<n.floods.length:=by simpa using h
    obtain ⟨p,hp⟩:∃ p,n.floods[(j:Int).toNat]'qn=p:=⟨_,rfl⟩
    have hne:n.floods≠[]:=fun e=>by rw[e]at hlt;cases hlt
    have hset:n.floods.set (j:Int).toNat p=n.floods:=by rw[← hp];exact List.set_getElem_self _
    have hpl:=h2.2.2.1 p (by rw[← hp];exact List.getElem_mem _)
    refine oO ?_
    refine⟨by omega,by show _<n.floods.length;omega,?_⟩
    conv=>whnf
    refine⟨hne,?_⟩
    conv=>whnf
    refine⟨E,by omega,?_⟩
    rw[hp]
    conv=>whnf
    refine cD (Aoj p.addrs hpl) F171 ?_
    refine oD ?_
    refine⟨by omega,by show _<n.floods.length;omega,?_⟩
    conv=>whnf
    refine⟨hne,?_⟩
    conv=>whnf
    refine⟨E,by omega,p,(by rw[hp];rfl),(by rw[hp];rfl),?_⟩
    conv=>whnf
    refine kW ?_
    refine iW ?_
    exact An [] hlt ⟨⟨E,E,E,E,E,E,E,E,Y⟩,⟨.inl E,E,.inl E,E,.inl E,E,.inl E,E,.inl (congrArg (Ob.row 4 B7) hset.symm),E,.inl E,E,Y⟩,E,E⟩
   ·refine oO ?_
    refine At n.vrfs.length (fun j=>[(2,.ptr 2 0),(3,.ptr 3 0),(93,Aa n.vrfs.length),(94,Aa j)]) (fun _=>[(2,.box [.val (.slice none 0 0),.val (.slice none 0 0),.val (.slice none 0 0),.val (.slice none 0 0),.val (.slice none 0 0),.val (.slice none 0 0),.val (.slice none 0 0),.val (.slice none 0 0)]),(3,.box [.sl 5 Bs n.devices,.osl 14,.sl 3 Cs n.links,.osl 20,.sl 4 Bp n.statics,.osl 26,.osl 29,.sl 5 Dp n.irbs]),(14,.row 7 Bh n.ports),(20,.row 6 Aw n.domains),(26,.row 4 B7 n.floods),(29,.row 5 C4 n.vrfs)]) []
     ⟨⟨rfl,rfl,rfl,rfl,rfl,rfl,rfl,rfl,trivial⟩,⟨.inl rfl,rfl,.inl rfl,rfl,.inl rfl,rfl,.inl rfl,rfl,.inl rfl,rfl,.inl rfl,rfl,trivial⟩,rfl,rfl⟩ ?_
    intro j hj
    refine oO ?_
    refine⟨fun h=>?_,fun h=>?_⟩
    ·have hlt:j<n.vrfs.length:=by simpa using h
     obtain ⟨p,hp⟩:∃ p,n.vrfs[(j:Int).toNat]'qn=p:=⟨_,rfl⟩
     have hne:n.vrfs≠[]:=fun e=>by rw[e]at hlt;cases hlt
     have hset:n.vrfs.set (j:Int).toNat p=n.vrfs:=by rw[← hp];exact List.set_getElem_self _
     have hpl:=h2.2.2.2 p (by rw[← hp];exact List.getElem_mem _)
     refine oO ?_
     have hne2:n.vrfs.set (j:Int).toNat p≠[]:=by rw[hset];exact hne
     have hp2:(n.vrfs.set (j:Int).toNat p)[(j:Int).toNat]'(by rw[hset];omega)=p:=by simp
     have hset2:(n.vrfs.set (j:Int).toNat p).set (j:Int).toNat p=n.vrfs:=by rw[hset,hset]
     refine⟨by omega,by show _<n.vrfs.length;omega,?_⟩
     conv=>whnf
     refine Bd (D1 E (.inr (.inr (.inr ⟨29,5,_,0,E,fun κ w h=>Q7 hne h,E⟩)))) qq E ?_
     refine oD ?_
     refine⟨hne,?_⟩
     conv=>whnf
     refine⟨E,by omega,?_⟩
     rw[hp]
     conv=>whnf
     refine cD (Mn p.imports hpl.1) F170 ?_
     refine oD ?_
     refine Bd (D1 E (.inr (.inr (.inr ⟨29,5,_,0,E,fun κ w h=>Q7 hne h,E⟩)))) qq E ?_
     refine oD ?_
     refine⟨hne,?_⟩
     conv=>whnf
     refine⟨E,by omega,?_⟩
     rw[hp]
     conv=>whnf
     refine cD (Mn p.exports hpl.2) F170 ?_
     refine oD ?_
     refine Bd (D1 E (.inr (.inr (.inr ⟨29,5,_,0,E,fun κ w h=>Q7 hne h,E⟩)))) qq E ?_
     refine oD ?_
     refine⟨hne,?_⟩
     conv=>whnf
     refine⟨E,by omega,p,(by rw[hp];rfl),(by rw[hp];rfl),?_⟩
     conv=>whnf
     refine Bd (D1 E (.inr (.inr (.inr ⟨29,5,_,0,E,fun κ w h=>Q7 hne2 h,E⟩)))) qq E ?_
     refine oD ?_
     refine⟨hne2,?_⟩
     conv=>whnf
     refine⟨E,by rw[hset];omega,p,(by rw[hp2];rfl),(by rw[hp2];rfl),?_⟩
     conv=>whnf
     refine kW ?_
     refine iW ?_
     exact An [] hlt ⟨⟨E,E,E,E,E,E,E,E,Y⟩,⟨.inl E,E,.inl E,E,.inl E,E,.inl E,E,.inl E,E,.inl (congrArg (Ob.row 5 C4) hset2.symm),E,Y⟩,E,E⟩
    ·refine oO ?_
     refine Ao 14 E ?_
     refine Ao 20 E ?_
     refine Ao 26 E ?_
     refine Ao 29 E ?_
     exact dN
theorem Of (l:List UInt8) (hl:l.length<2147483648):Sy.Spec Tryz.prog 290 [.sl 1 Ag l] [] (.sl 1 Ag l) []:=cT F290 Tryz.ntmps290 fun F hF=>by
 conv=>whnf
 refine Ej E (.inl E) E E E .sl E E ?_
 intro b hb
 cases b
 ·refine oF ?_
  refine Ad (Ac Γ.toTy 7 E E E E E (.lit (e:=Ag) (l:=[]) E E) .sl qz (by simp;omega) (by simp;omega)) E E ?_
  refine Ao 7 E ?_
  refine oO ?_
  exact dN
 ·have h0:l=[]:=List.eq_nil_of_length_eq_zero (hb rfl)
  subst h0
  refine oT ?_
  refine Am 2 1 Ag E ?_
  exact dN
theorem cut6 (b:List UInt8) (k j:Nat) (hj:j<6) (h:k+6≤b.length):Hl (((b.drop k).take 6).take (j+1))=Hl (((b.drop k).take 6).take j) * 256+(b[k+j]'qn).toNat:=by
 rw[V3 _ (by rw[List.length_take,List.length_drop];omega)]
 congr 2
 rw[List.getElem_take,List.getElem_drop]
theorem Agw (b:List UInt8) (k:Nat) (h:k+6≤b.length) (hb:b.length<100000):Sy.Spec Tryz.prog 181 [.sl 1 Ag b,Aa k] [] (.tup [As (Hl ((b.drop k).take 6)),Ab true]) []:=cT F181 Tryz.ntmps181 fun F hF=>by
 ((conv=>whnf);refine aF ?_;refine rg ?_;conv=>whnf)
 refine iW ?_
 (refine⟨fun h=>False.elim (by simp at h;omega),fun _=>?_⟩;refine rg ?_;conv=>whnf)
 refine At 6 (fun j=>[(0,.sl 1 Ag b),(1,Aa k),(6,As (Hl (((b.drop k).take 6).take j))),(17,Aa j)]) (fun _=>[]) [] ⟨⟨E,E,E,E,E,E,E,E,Y⟩,Y,E,E⟩ ?_
 intro j hj
 have hlt2:=J6 _ (((b.drop k).take 6).take j) rfl
 refine oO ?_
 refine⟨fun h2=>?_,fun h2=>?_⟩
 ·have hj6:j<6:=by have:=of_decide_eq_true h2;omega
  have hs:=cut6 b k j hj6 h
  have hll:(((b.drop k).take 6).take j).length=j:=by rw[List.length_take,List.length_take,List.length_drop];omega
  rw[hll]at hlt2
  have h5:Hl (((b.drop k).take 6).take j)<1099511627776:=Nat.lt_of_lt_of_le hlt2 (by
   have:(256:Nat) ^ j≤256 ^ 5:=Nat.pow_le_pow_right qy qn
   exact this)
  have hi0:((k:Int)+(j:Int)).toNat<b.length:=by omega
  obtain ⟨c,hc⟩:∃ c,b[((k:Int)+(j:Int)).toNat]'hi0=c:=⟨_,rfl⟩
  have hc':b[k+j]'qn=c:=by rw[← hc];congr 1
  rw[hc']at hs
  have hcat:=Asi _ c h5
  refine oO ?_
  refine⟨by decide,?_⟩
  conv=>whnf
  refine iW ?_
  refine⟨E,by omega,hi0,?_⟩
  rw[hc]
  conv=>whnf
  refine iW ?_
  exact An [] hj6 ⟨⟨E,E,E,E,congrArg (fun z:Int=>SV.val (.int .u64 z)) (hcat.trans (congrArg Int.ofNat hs.symm)).symm,E,E,E,Y⟩,Y,E,E⟩
 ·have hj6:j=6:=by have:=of_decide_eq_false h2;omega
  subst hj6
  rw[List.take_take,Nat.min_self]
  refine oO ?_
  exact dN
theorem Ad7 (l:List UInt8) (h:l.length≤6):Sy.Spec Tryz.prog 251 [.sl 1 Ag l] [] (As (Hl l)) []:=cT F251 Tryz.ntmps251 fun F hF=>by
 conv=>whnf
 refine At l.length (fun j=>[(0,.sl 1 Ag l),(3,As (Hl (l.take j))),(4,Aa j)]) (fun _=>[]) [] ⟨⟨E,E,E,E,E,E,Y⟩,Y,E,E⟩ ?_
 intro j hj
 have hlt2:=J6 _ (l.take j) rfl
 refine oO ?_
 refine⟨fun h2=>?_,fun h2=>?_⟩
 ·have hlt:j<l.length:=by have:=of_decide_eq_true h2;omega
  have hj0:((j:Nat):Int).toNat<l.length:=by simpa using hlt
  have hs:=V3 l hlt
  have hll:(l.take j).length=j:=by rw[List.length_take];omega
  rw[hll]at hlt2
  have h5:Hl (l.take j)<1099511627776:=Nat.lt_of_lt_of_le hlt2 (by
   have:(256:Nat) ^ j≤256 ^ 5:=Nat.pow_le_pow_right qy qn
   exact this)
  obtain ⟨c,hc⟩:∃ c,l[((j:Nat):Int).toNat]'hj0=c:=⟨_,rfl⟩
  have hc':l[j]=c:=hc
  rw[hc']at hs
  have hcn:=c.toNat_lt
  generalize Hl (l.take j)=m at *
  refine oO ?_
  refine⟨E,by omega,hj0,?_⟩
  rw[hc]
  conv=>whnf
  refine iW ?_
  refine An [] hlt ⟨⟨E,E,congrArg (fun z:Int=>SV.val (.int .u64 z)) ?_,E,E,E,Y⟩,Y,E,E⟩
  rw[hs,IntKind.wrap_u64,IntKind.wrap_u64,IntKind.wrap_u64]
  omega
 ·have hje:j=l.length:=by have:=of_decide_eq_false h2;omega
  subst hje
  rw[List.take_length]
  refine oO ?_
  exact dN
theorem Zk (b:List UInt8) (k:Nat) (h:k+6≤b.length) (hb:b.length<100000):Sy.Spec Tryz.prog 184 [.sl 1 Ag b,Aa k] [] (.tup [As (Hl ((b.drop k).take 6)),Ab true]) []:=cT F184 Tryz.ntmps184 fun F hF=>by
 have e:(b.take (k+6)).drop k=(b.drop k).take 6:=by rw[List.drop_take];congr 1;omega
 have q:=Ad7 ((b.take (k+6)).drop k) (by rw[e,List.length_take];omega)
 rw[← e]
 ((conv=>whnf);refine aF ?_;refine rg ?_;conv=>whnf)
 (refine⟨fun h=>False.elim (by simp at h;omega),fun _=>?_⟩;refine rg ?_;conv=>whnf)
 refine iW ?_
 (refine⟨fun h=>False.elim (by simp at h;omega),fun _=>?_⟩;refine rg ?_;conv=>whnf)
 refine iW ?_
 refine Ad (Be (lo:=k) (hi:=k+6) Γ.toTy E E E E (.inr ⟨_,_,E,E⟩) (.inr ⟨_,_,E,E⟩) qn h) E E ?_
 refine oO ?_
 refine c0 q F251 ?_
 refine oO ?_
 exact dN
theorem Yv (a b:UInt8):Hl [a,b]=a.toNat * 256+b.toNat:=by simp[Hl]
theorem Ow {b:List UInt8} {k:Nat} (h:k+2≤b.length):(b.drop k).take 2=[b[k]'qn,b[k+1]'qn]:=by
 rw[List.drop_eq_getElem_cons (by omega:k<b.length),List.drop_eq_getElem_cons (by omega:k+1<b.length)];rfl
theorem Tz (b:List UInt8) (hb:b.length<100000):Sy.Spec Tryz.prog 121 [.sl 1 Ag b] [] (.tup [Bc (takeF b).1,Aa (takeF b).2]) []:=cT F121 Tryz.ntmps121 fun F hF=>by
 have hres:=takeF.eq_1 b
 generalize takeF b=res at *
 conv=>whnf
 refine⟨fun h=>?_,fun h=>?_⟩
 ·rw[if_pos (qA h)]at hres
  subst hres
  refine oO ?_
  refine Ar 2 [As 0,As 0,Aa 0,.sl 1 Ag []] E (.cons (.refl _) (.cons (.refl _) (.cons (.refl _) (.cons .nil .nil)))) ?_
  exact dN
 rw[if_neg (qB h)]at hres
 have h14:14≤b.length:=qB h
 refine oO ?_
 refine⟨fun h=>?_,fun h=>?_⟩
 ·rw[if_pos (qA h)]at hres
  subst hres
  refine oO ?_
  refine Ar 2 [As 0,As 0,Aa 0,.sl 1 Ag []] E (.cons (.refl _) (.cons (.refl _) (.cons (.refl _) (.cons .nil .nil)))) ?_
  exact dN
 rw[if_neg (qB h)]at hres
 have q1:=Agw b 0 qn hb
 have q2:=Agw b 6 qn hb
 rw[Ow qn,Yv]at hres
 have hp:=Hg (b[12]'qn) (b[13]'qn)
 have hdl:(b.drop 14).length=b.length-14:=List.length_drop
 have hn:((b.length:Int)-14)=((b.length-14:Nat):Int):=by omega
 have hcp:(b.drop 14).take (List.replicate (b.length-14) (0:UInt8)).length++(List.replicate (b.length-14) (0:UInt8)).drop (b.drop 14).length=b.drop 14:=by
  have e1:(List.replicate (b.length-14) (0:UInt8)).drop (b.length-14)=[]:=List.drop_eq_nil_of_le qz
  rw[List.length_replicate,hdl,e1,List.append_nil]
  exact List.take_of_length_le qn
 have etk:(b.take b.length).drop 14=b.drop 14:=by rw[List.take_length]
 have i12:(12:Int).toNat<b.length:=by show 12<_;omega
 have i13:(13:Int).toNat<b.length:=by show 13<_;omega
 refine oO ?_
 refine c0 q1 F181 ?_
 refine oO ?_
 refine c0 q2 F181 ?_
 refine oO ?_
 refine iW ?_
 refine Ad (B5 Γ.toTy (d:=32) (n:=b.length-14) Ag 0 E E E E E E (congrArg (fun z=>SV.val (.int .i64 z)) hn) (congrArg (fun z=>SV.val (.int .i64 z)) hn) qn qn E E E) E E ?_
 refine oO ?_
 refine Ad (Be (lo:=14) (hi:=b.length) Γ.toTy E E E E (.inr ⟨_,_,E,E⟩) (.inl ⟨E,E⟩) qn (Nat.le_refl _)) E E ?_
 rw[etk]
 refine oO ?_
 refine Ad (Wp Γ.toTy E E E E E .sl) E E ?_
 rw[hcp]
 refine Ao 32 E ?_
 refine oO ?_
 refine⟨E,by decide,i12,?_⟩
 conv=>whnf
 refine⟨by decide,?_⟩
 conv=>whnf
 refine⟨E,by decide,i13,?_⟩
 conv=>whnf
 refine kW ?_
 refine Aq E (.cons (.cell E E E E) (.cons .tmp .nil)) ?_ E
 rw[hres]
 show SV.tup [.agg [_,_,Aa ((b[12].toNat * 256+b[13].toNat:Nat):Int),_],_]=_
 rw[← hp]
 rfl
theorem Md (m:Nat) (h:m<18446744073709551616):Sy.Spec Tryz.prog 226 [As m] [] (Ab (Ed m)) []:=cT F226 Tryz.ntmps226 fun F hF=>by
 have e:=An6 m h
 conv=>whnf
 refine Aq E (.cons .tmp .nil) ?_ E
 exact congrArg Ab e.symm
theorem Jo (m:Nat) (h:m<18446744073709551616):Sy.Spec Tryz.prog 186 [As m] [] (Ab (Ed m)) []:=cT F186 Tryz.ntmps186 fun F hF=>by
 have e:=Aq7 m
 have hl:(be 6 m).length=6:=Au m 6
 have h0:(0:Int).toNat<(be 6 m).length:=by rw[hl];decide
 have hg:(be 6 m)[(0:Int).toNat]'h0=UInt8.ofNat (m / 256 ^ 5):=rfl
 conv=>whnf
 refine Ad (Af [(0,4)] E F110 (Ak0 m h) E Y E ⟨.inr E,Y⟩) E E ?_
 refine Ao 4 E ?_
 refine oO ?_
 refine⟨E,by decide,h0,?_⟩
 rw[hg]
 conv=>whnf
 refine⟨by decide,?_⟩
 conv=>whnf
 refine Aq E (.cons .tmp .nil) ?_ E
 refine congrArg Ab ?_
 rw[← e,Bool.eq_iff_iff]
 rw[Int.tmod_eq_emod_of_nonneg qn]
 simp
 omega
theorem Q4 (f:FrameM):Sy.Spec Tryz.prog 182 [Bc f] [] (Ab (decide (f.typ=33024))) []:=cT F182 Tryz.ntmps182 fun F hF=>by
 conv=>whnf
 refine Aq E (.cons .tmp .nil) ?_ E
 refine congrArg Ab ?_
 rw[Bool.eq_iff_iff];simp;omega
theorem Oe (p:Port) (tg:Bool) (vid:Int) (hl:Ap p.tagged):Sy.Spec Tryz.prog 227 [Bh p,Ab tg,Aa vid] [] (.tup [Aa (vlanT p tg vid).1,Ab (vlanT p tg vid).2]) []:=cT F227 Tryz.ntmps227 fun F hF=>by
 have hres:=vlanT.eq_1 p tg vid
 generalize vlanT p tg vid=res at *
 have q:=Ee p.tagged vid hl
 have hz:decide (p.native≠0)=(p.native != 0):=by rw[Bool.eq_iff_iff];simp
 rw[hz]at hres
 cases tg
 ·rw[if_pos (.inl rfl)]at hres
  subst hres
  ((conv=>whnf);refine aT ?_;refine rg ?_;conv=>whnf)
  refine kW ?_
  exact dN
 ((conv=>whnf);refine aF ?_;refine rg ?_;conv=>whnf)
 refine⟨fun h=>?_,fun h=>?_⟩
 ·rw[if_pos (.inr (by simpa using h))]at hres
  subst hres
  refine oO ?_
  refine kW ?_
  exact dN
 rw[if_neg (by simpa using h)]at hres
 refine oO ?_
 refine c0 q F25 ?_
 cases hi:inB p.tagged vid
 ·rw[if_neg (by simp[hi])]at hres
  subst hres
  refine oF ?_
  exact dN
 ·rw[if_pos hi]at hres
  subst hres
  refine oT ?_
  exact dN
theorem Zh (p:Port) (tg:Bool) (vid:Int) (hl:Ap p.tagged):Sy.Spec Tryz.prog 187 [Bh p,Ab tg,Aa vid] [] (.tup [Aa (vlanT p tg vid).1,Ab (vlanT p tg vid).2]) []:=cT F187 Tryz.ntmps187 fun F hF=>by
 have hres:=vlanT.eq_1 p tg vid
 generalize vlanT p tg vid=res at *
 have q:=E9 p.tagged vid hl
 have hz:decide (p.native≠0)=(p.native != 0):=by rw[Bool.eq_iff_iff];simp
 rw[hz]at hres
 cases tg
 ·rw[if_pos (.inl rfl)]at hres
  subst hres
  ((conv=>whnf);refine aT ?_;refine rg ?_;(conv=>whnf);refine aT ?_;refine rg ?_;conv=>whnf)
  refine kW ?_
  exact dN
 ((conv=>whnf);refine aF ?_;refine rg ?_;conv=>whnf)
 refine⟨fun h=>?_,fun h=>?_⟩
 ·rw[if_pos (.inr (by simpa using h))]at hres
  subst hres
  refine oO ?_
  refine kW ?_
  exact dN
 rw[if_neg (by simpa using h)]at hres
 refine oO ?_
 refine c0 q F36 ?_
 cases hi:inB p.tagged vid
 ·rw[if_neg (by simp[hi])]at hres
  subst hres
  refine oF ?_
  exact dN
 ·rw[if_pos hi]at hres
  subst hres
  refine oT ?_
  exact dN
theorem Mb (a b:UInt8):IntKind.i64.wrap (a.toNat:Int) * 256+IntKind.i64.wrap (b.toNat:Int)=((a.toNat * 256+b.toNat:Nat):Int):=by
 have h1:=a.toNat_lt
 have h2:=b.toNat_lt
 rw[IntKind.wrap_i64,IntKind.wrap_i64];omega
theorem Tk (b:List UInt8) (hb:b.length<100000):Sy.Spec Tryz.prog 124 [.sl 1 Ag b] [] (.tup [Bc (takeF b).1,Aa (takeF b).2]) []:=cT F124 Tryz.ntmps124 fun F hF=>by
 have hres:=takeF.eq_1 b
 generalize takeF b=res at *
 conv=>whnf
 refine⟨fun h=>?_,fun h=>?_⟩
 ·rw[if_pos (qA h)]at hres
  subst hres
  refine oO ?_
  refine Ar 2 [As 0,As 0,Aa 0,.sl 1 Ag []] E (.cons (.refl _) (.cons (.refl _) (.cons (.refl _) (.cons .nil .nil)))) ?_
  exact dN
 rw[if_neg (qB h)]at hres
 have h14:14≤b.length:=qB h
 refine oO ?_
 refine⟨fun h=>?_,fun h=>?_⟩
 ·rw[if_pos (qA h)]at hres
  subst hres
  refine oO ?_
  refine Ar 2 [As 0,As 0,Aa 0,.sl 1 Ag []] E (.cons (.refl _) (.cons (.refl _) (.cons (.refl _) (.cons .nil .nil)))) ?_
  exact dN
 rw[if_neg (qB h)]at hres
 have q1:=Zk b 0 qn hb
 have q2:=Zk b 6 qn hb
 rw[Ow qn,Yv]at hres
 have hp:=Mb (b[12]'qn) (b[13]'qn)
 have hx1:=(b[12]'qn).toNat_lt
 have hx2:=(b[13]'qn).toNat_lt
 have etk:(b.take b.length).drop 14=b.drop 14:=by rw[List.take_length]
 have hdl:(b.drop 14).length=b.length-14:=List.length_drop
 have i12:(12:Int).toNat<b.length:=by show 12<_;omega
 have i13:(13:Int).toNat<b.length:=by show 13<_;omega
 have e12:b[(12:Int).toNat]'i12=b[12]'qn:=rfl
 have e13:b[(13:Int).toNat]'i13=b[13]'qn:=rfl
 generalize b[12]'qn=x at *
 generalize b[13]'qn=y at *
 have w1:IntKind.i64.wrap (x.toNat:Int)=x.toNat:=by rw[IntKind.wrap_i64];omega
 refine oO ?_
 refine c0 q1 F184 ?_
 refine oO ?_
 refine c0 q2 F184 ?_
 refine oO ?_
 refine⟨E,by decide,i12,?_⟩
 rw[e12]
 conv=>whnf
 refine⟨by rw[w1];unfold I64;omega,?_⟩
 conv=>whnf
 refine⟨E,by decide,i13,?_⟩
 rw[e13]
 conv=>whnf
 refine⟨by rw[hp];unfold I64;omega,?_⟩
 rw[hp]
 conv=>whnf
 refine Bd (Be (lo:=14) (hi:=b.length) Γ.toTy E E E E (.inr ⟨_,_,E,E⟩) (.inl ⟨E,E⟩) qn (Nat.le_refl _)) qq E ?_
 refine oD ?_
 refine Bd (Ac Γ.toTy 41 E E E E E (.lit (e:=Ag) (l:=[]) E E) .sl qz (by simp;omega) (by simp;omega)) qq E ?_
 refine oD ?_
 refine kW ?_
 refine Ao 41 E ?_
 refine Aq E (.cons (.cell E E E E) (.cons .tmp .nil)) ?_ E
 rw[hres]
 show SV.tup [.agg [_,_,_,.sl 1 Ag (b.drop 14)],_]=SV.tup [.agg [_,_,_,.sl 1 Ag ([]++(b.take b.length).drop 14)],_]
 rw[etk]
 rfl
theorem Ar2 (n:Nat) (h:n<9223372036854775808):bits .and .i64 (n:Int) 4095=((n % 4096:Nat):Int):=by
 have:=Jc n 4095 h qy
 rw[show ((4095:Nat):Int)=4095 from rfl]at this
 rw[this]
 have h2:=Nat.and_two_pow_sub_one_eq_mod n 12
 rw[show 2 ^ 12-1=4095 from rfl,show 2 ^ 12=4096 from rfl]at h2
 rw[h2]
theorem Afa {b:List UInt8} (h:4≤b.length):b.take 2=[b[0]'qn,b[1]'qn]∧(b.drop 2).take 2=[b[2]'qn,b[3]'qn]:=by
 have h1:=Ow (b:=b) (k:=0) qn
 have h2:=Ow (b:=b) (k:=2) qn
 exact⟨h1,h2⟩
abbrev zF:List SV:=[As 0,As 0,Aa 0,.sl 1 Ag []]
theorem Amn (f:FrameM) (hb:f.body.length<100000):Sy.Spec Tryz.prog 225 [Bc f] [] (.tup [Bc (stripT f).1,Aa (stripT f).2.1,Aa (stripT f).2.2.1,Aa (stripT f).2.2.2]) []:=cT F225 Tryz.ntmps225 fun F hF=>by
 have hres:=stripT.eq_1 f
 generalize stripT f=res at *
 have q0:=Q4 f
 obtain ⟨d,s,t,b⟩:=f
 dsimp only at hres hb q0
 conv=>whnf
 refine c0 q0 F182 ?_
 by_cases ht:t=33024
 rotate_left
 ·rw[if_pos ht]at hres
  subst hres
  rw[decide_eq_false ht]
  refine oT ?_
  refine Ar 2 zF E (.cons (.refl _) (.cons (.refl _) (.cons (.refl _) (.cons .nil .nil)))) ?_
  exact dN
 rw[if_neg (by simpa using ht)]at hres
 rw[decide_eq_true ht]
 refine oF ?_
 refine⟨fun h=>?_,fun h=>?_⟩
 ·rw[if_pos (by have:=of_decide_eq_true h;dsimp only at this;omega)]at hres
  subst hres
  refine oO ?_
  refine Ar 2 zF E (.cons (.refl _) (.cons (.refl _) (.cons (.refl _) (.cons .nil .nil)))) ?_
  exact dN
 have h4:4≤b.length:=by have:=of_decide_eq_false h;dsimp only at this;omega
 rw[if_neg qn,(Afa h4).1,(Afa h4).2,Yv,Yv]at hres
 have c1:=Of (b.drop 4) (by rw[List.length_drop];omega)
 have etk:(b.take b.length).drop 4=b.drop 4:=by rw[List.take_length]
 rw[← etk]at c1
 have i0:(0:Int).toNat<b.length:=by show 0<_;omega
 have i1:(1:Int).toNat<b.length:=by show 1<_;omega
 have i2:(2:Int).toNat<b.length:=by show 2<_;omega
 have i3:(3:Int).toNat<b.length:=by show 3<_;omega
 have e0:b[(0:Int).toNat]'i0=b[0]'qn:=rfl
 have e1:b[(1:Int).toNat]'i1=b[1]'qn:=rfl
 have e2:b[(2:Int).toNat]'i2=b[2]'qn:=rfl
 have e3:b[(3:Int).toNat]'i3=b[3]'qn:=rfl
 have hp1:=Hg (b[0]'qn) (b[1]'qn)
 have hp2:=Hg (b[2]'qn) (b[3]'qn)
 have l0:=(b[0]'qn).toNat_lt
 have l1:=(b[1]'qn).toNat_lt
 obtain ⟨P,hP⟩:∃ P,(b[0]'qn).toNat * 256+(b[1]'qn).toNat=P:=⟨_,rfl⟩
 obtain ⟨Q,hQ⟩:∃ Q,(b[2]'qn).toNat * 256+(b[3]'qn).toNat=Q:=⟨_,rfl⟩
 have hPl:P<65536:=by omega
 rw[hP]at hp1 hres
 rw[hQ]at hp2 hres
 have ha:=Ar2 P qn
 have hs:(P:Int).fdiv (2 ^ (min (Int.toNat 12) IntKind.i64.bits))=((P / 4096:Nat):Int):=Alh P 12 qy
 refine oO ?_
 refine⟨E,by decide,i0,?_⟩
 rw[e0]
 conv=>whnf
 refine⟨by decide,?_⟩
 conv=>whnf
 refine⟨E,by decide,i1,?_⟩
 rw[e1]
 conv=>whnf
 refine⟨qq,?_⟩
 rw[hp1]
 conv=>whnf
 refine⟨E,by decide,i2,?_⟩
 rw[e2]
 conv=>whnf
 refine⟨by decide,?_⟩
 conv=>whnf
 refine⟨E,by decide,i3,?_⟩
 rw[e3]
 conv=>whnf
 refine⟨qq,?_⟩
 rw[hp2]
 conv=>whnf
 refine⟨by decide,?_⟩
 rw[ha,hs]
 conv=>whnf
 refine⟨fun h=>?_,fun h=>?_⟩
 ·rw[if_pos (.inl (qA h))]at hres
  subst hres
  refine oO ?_
  refine Ar 2 zF E (.cons (.refl _) (.cons (.refl _) (.cons (.refl _) (.cons .nil .nil)))) ?_
  exact dN
 have h5:¬ 4094<P % 4096:=qB h
 refine oO ?_
 refine⟨fun h=>?_,fun h=>?_⟩
 ·rw[if_pos (.inr (by have:(Q:Int)=33024:=(by simpa using h);omega))]at hres
  subst hres
  refine oO ?_
  refine Ar 2 zF E (.cons (.refl _) (.cons (.refl _) (.cons (.refl _) (.cons .nil .nil)))) ?_
  exact dN
 have h6:¬ Q=33024:=fun e=>by rw[e]at h;simp at h
 rw[if_neg qn]at hres
 subst hres
 refine oO ?_
 refine Bd (Be (lo:=4) (hi:=b.length) Γ.toTy E E E E (.inr ⟨_,_,E,E⟩) (.inl ⟨E,E⟩) h4 (Nat.le_refl _)) qq E ?_
 refine oD ?_
 refine cD c1 F290 ?_
 refine oD ?_
 refine kW ?_
 refine Aq E (.cons (.cell E E E E) (.cons .tmp (.cons .tmp (.cons .tmp .nil)))) ?_ E
 show SV.tup [.agg [_,_,_,.sl 1 Ag (b.drop 4)],_,_,_]=SV.tup [.agg [_,_,_,.sl 1 Ag ((b.take b.length).drop 4)],_,_,_]
 rw[etk]
 rfl
theorem Agh (f:FrameM) (hb:f.body.length<100000):Sy.Spec Tryz.prog 185 [Bc f] [] (.tup [Bc (stripT f).1,Aa (stripT f).2.1,Aa (stripT f).2.2.1,Aa (stripT f).2.2.2]) []:=cT F185 Tryz.ntmps185 fun F hF=>by
 have hres:=stripT.eq_1 f
 generalize stripT f=res at *
 obtain ⟨d,s,t,b⟩:=f
 dsimp only at hres hb
 conv=>whnf
 by_cases ht:t=33024
 rotate_left
 ·rw[if_pos ht]at hres
  subst hres
  refine⟨fun _=>?_,fun h=>absurd (show (t:Int)=33024 by simpa using h) qn⟩
  refine oO ?_
  refine Ar 2 zF E (.cons (.refl _) (.cons (.refl _) (.cons (.refl _) (.cons .nil .nil)))) ?_
  exact dN
 rw[if_neg (by simpa using ht)]at hres
 refine⟨fun h=>absurd (show (t:Int)≠33024 by simpa using h) qn,fun _=>?_⟩
 refine oO ?_
 refine⟨fun h=>?_,fun h=>?_⟩
 ·rw[if_pos (by have:=of_decide_eq_true h;dsimp only at this;omega)]at hres
  subst hres
  refine oO ?_
  refine Ar 2 zF E (.cons (.refl _) (.cons (.refl _) (.cons (.refl _) (.cons .nil .nil)))) ?_
  exact dN
 have h4:4≤b.length:=by have:=of_decide_eq_false h;dsimp only at this;omega
 rw[if_neg qn,(Afa h4).1,(Afa h4).2,Yv,Yv]at hres
 have etk:(b.take b.length).drop 4=b.drop 4:=by rw[List.take_length]
 have hdl:(b.drop 4).length=b.length-4:=List.length_drop
 have i0:(0:Int).toNat<b.length:=by show 0<_;omega
 have i1:(1:Int).toNat<b.length:=by show 1<_;omega
 have i2:(2:Int).toNat<b.length:=by show 2<_;omega
 have i3:(3:Int).toNat<b.length:=by show 3<_;omega
 have e0:b[(0:Int).toNat]'i0=b[0]'qn:=rfl
 have e1:b[(1:Int).toNat]'i1=b[1]'qn:=rfl
 have e2:b[(2:Int).toNat]'i2=b[2]'qn:=rfl
 have e3:b[(3:Int).toNat]'i3=b[3]'qn:=rfl
 have hp1:=Mb (b[0]'qn) (b[1]'qn)
 have hp2:=Mb (b[2]'qn) (b[3]'qn)
 have l0:=(b[0]'qn).toNat_lt
 have l1:=(b[1]'qn).toNat_lt
 have l2:=(b[2]'qn).toNat_lt
 have l3:=(b[3]'qn).toNat_lt
 generalize b[0]'qn=x0 at *
 generalize b[1]'qn=x1 at *
 generalize b[2]'qn=x2 at *
 generalize b[3]'qn=x3 at *
 have w0:IntKind.i64.wrap (x0.toNat:Int)=x0.toNat:=by rw[IntKind.wrap_i64];omega
 have w2:IntKind.i64.wrap (x2.toNat:Int)=x2.toNat:=by rw[IntKind.wrap_i64];omega
 obtain ⟨P,hP⟩:∃ P,x0.toNat * 256+x1.toNat=P:=⟨_,rfl⟩
 obtain ⟨Q,hQ⟩:∃ Q,x2.toNat * 256+x3.toNat=Q:=⟨_,rfl⟩
 have hPl:P<65536:=by omega
 have hQl:Q<65536:=by omega
 rw[hP]at hp1 hres
 rw[hQ]at hp2 hres
 have hmm:(P:Int).tmod 4096=((P % 4096:Nat):Int):=by rw[Int.tmod_eq_emod_of_nonneg qn];omega
 have hd:IntKind.i64.wrap ((P:Int).tdiv 4096)=((P / 4096:Nat):Int):=by rw[Int.tdiv_eq_ediv_of_nonneg qn,IntKind.wrap_i64];omega
 refine oO ?_
 refine⟨E,by decide,i0,?_⟩
 rw[e0]
 conv=>whnf
 refine⟨by rw[w0];unfold I64;omega,?_⟩
 conv=>whnf
 refine⟨E,by decide,i1,?_⟩
 rw[e1]
 conv=>whnf
 refine⟨by rw[hp1];unfold I64;omega,?_⟩
 rw[hp1]
 conv=>whnf
 refine kW ?_
 refine⟨E,by decide,i2,?_⟩
 rw[e2]
 conv=>whnf
 refine⟨by rw[w2];unfold I64;omega,?_⟩
 conv=>whnf
 refine⟨E,by decide,i3,?_⟩
 rw[e3]
 conv=>whnf
 refine⟨by rw[hp2];unfold I64;omega,?_⟩
 rw[hp2]
 conv=>whnf
 refine kW ?_
 refine⟨by decide,?_⟩
 rw[hmm]
 conv=>whnf
 refine⟨fun h=>?_,fun h=>?_⟩
 ·rw[if_pos (.inl (by have:((P % 4096:Nat):Int)=4095:=(by simpa using h);omega))]at hres
  subst hres
  refine oT ?_
  refine Ar 2 zF E (.cons (.refl _) (.cons (.refl _) (.cons (.refl _) (.cons .nil .nil)))) ?_
  exact dN
 have h5:¬ P % 4096=4095:=fun e=>by rw[e]at h;simp at h
 refine oO ?_
 refine⟨fun h=>?_,fun h=>?_⟩
 ·rw[if_pos (.inr (by have:(Q:Int)=33024:=(by simpa using h);omega))]at hres
  subst hres
  refine oO ?_
  refine Ar 2 zF E (.cons (.refl _) (.cons (.refl _) (.cons (.refl _) (.cons .nil .nil)))) ?_
  exact dN
 have h6:¬ Q=33024:=fun e=>by rw[e]at h;simp at h
 rw[if_neg qn]at hres
 subst hres
 refine oO ?_
 refine Bd (Be (lo:=4) (hi:=b.length) Γ.toTy E E E E (.inr ⟨_,_,E,E⟩) (.inl ⟨E,E⟩) h4 (Nat.le_refl _)) qq E ?_
 refine oD ?_
 refine Bd (Ac Γ.toTy 58 E E E E E (.lit (e:=Ag) (l:=[]) E E) .sl qz (by simp;omega) (by simp;omega)) qq E ?_
 refine oD ?_
 refine⟨by decide,?_⟩
 conv=>whnf
 refine⟨by decide,?_⟩
 conv=>whnf
 refine kW ?_
 refine Ao 58 E ?_
 refine Aq E (.cons (.cell E E E E) (.cons .tmp (.cons .tmp (.cons .tmp .nil)))) ?_ E
 show SV.tup [.agg [_,_,_,.sl 1 Ag (b.drop 4)],Aa ((P % 4096:Nat):Int),Aa ((P / 4096:Nat):Int),_]=SV.tup [.agg [_,_,_,.sl 1 Ag ([]++(b.take b.length).drop 4)],Aa ((P:Int).tmod 4096),Aa (IntKind.i64.wrap ((P:Int).tdiv 4096)),_]
 rw[etk,hmm,hd]
 rfl
theorem Si (f:FrameM) (h:FrameOK f):Sy.Spec Tryz.prog 45 [Bc f] [] (.tup [.osl 0,Aa 0]) [(0,.row 1 Ag (X1 f))]:=Xq f.dst f.src f.typ f.body h.dst h.src h.typ h.body
theorem Q9 (f:FrameM) (h:FrameOK f):Sy.Spec Tryz.prog 49 [Bc f] [] (.tup [.osl 0,Aa 0]) [(0,.row 1 Ag (X1 f))]:=Acg f.dst f.src f.typ f.body h.dst h.src h.typ h.body
theorem Apa (f:FrameM) (v:Nat) (h:FrameOK f) (hv:v≤4094):Sy.Spec Tryz.prog 122 [Bc f,Aa v,Aa 0] [] (.tup [Bc (tagT f v).1,Aa (tagT f v).2]) []:=by
 have hres:=tagT.eq_1 f v
 have q0:=Q4 f
 obtain ⟨d,s,t,b⟩:=f
 have h1:=h.typ
 have h2:=h.body
 dsimp only at hres q0 h1 h2
 by_cases ht:t=33024
 ·rw[if_pos ht]at hres
  rw[hres]
  rw[decide_eq_true ht]at q0
  refine B9 Γ hm 100 F122 Tryz.ntmps122 E fun F hF=>by
   conv=>whnf
   refine c0 q0 F182 ?_
   (refine oT ?_;refine bT ?_;refine bT ?_;refine bT ?_;refine bT ?_)
   refine Ar 6 zF E (.cons (.refl _) (.cons (.refl _) (.cons (.refl _) (.cons .nil .nil)))) ?_
   exact dN
 rw[if_neg ht]at hres
 by_cases hb:1500<b.length
 ·rw[if_pos hb]at hres
  rw[hres]
  rw[decide_eq_false ht]at q0
  refine B9 Γ hm 100 F122 Tryz.ntmps122 E fun F hF=>by
   conv=>whnf
   refine c0 q0 F182 ?_
   (refine oF ?_;refine bF ?_)
   (refine⟨fun h=>False.elim (by simp at h;omega),fun _=>?_⟩;refine rg ?_;(conv=>whnf);refine aF ?_;refine rg ?_;(conv=>whnf);refine aF ?_;refine rg ?_;(conv=>whnf);refine aF ?_;refine rg ?_;(conv=>whnf);refine⟨fun h=>False.elim (by simp at h;omega),fun _=>?_⟩;refine rg ?_;(conv=>whnf);refine⟨fun _=>?_,fun h=>False.elim (by simp at h;omega)⟩;refine rg ?_;conv=>whnf)
   refine Ar 6 zF E (.cons (.refl _) (.cons (.refl _) (.cons (.refl _) (.cons .nil .nil)))) ?_
   exact dN
 rw[if_neg hb]at hres
 rw[hres]
 exact Ale d s t v b ht h1 hv qn
theorem Ai7 (f:FrameM) (v:Nat) (h:FrameOK f) (hv:v≤4094):Sy.Spec Tryz.prog 125 [Bc f,Aa v,Aa 0] [] (.tup [Bc (tagT f v).1,Aa (tagT f v).2]) []:=by
 have hres:=tagT.eq_1 f v
 obtain ⟨d,s,t,b⟩:=f
 have h1:=h.typ
 have h2:=h.body
 dsimp only at hres h1 h2
 by_cases ht:t=33024
 ·subst ht
  rw[if_pos rfl]at hres
  rw[hres]
  refine B9 Γ hm 100 F125 Tryz.ntmps125 E fun F hF=>by
   ((conv=>whnf);refine aT ?_;refine rg ?_;(conv=>whnf);refine aT ?_;refine rg ?_;(conv=>whnf);refine aT ?_;refine rg ?_;(conv=>whnf);refine aT ?_;refine rg ?_;(conv=>whnf);refine aT ?_;refine rg ?_;conv=>whnf)
   (skip)
   refine Ar 6 zF E (.cons (.refl _) (.cons (.refl _) (.cons (.refl _) (.cons .nil .nil)))) ?_
   exact dN
 rw[if_neg ht]at hres
 by_cases hb:1500<b.length
 ·rw[if_pos hb]at hres
  rw[hres]
  refine B9 Γ hm 100 F125 Tryz.ntmps125 E fun F hF=>by
   conv=>whnf
   (refine⟨fun h=>False.elim (by simp at h;omega),fun _=>?_⟩;refine rg ?_;(conv=>whnf);refine aF ?_;refine rg ?_;(conv=>whnf);refine⟨fun h=>False.elim (by simp at h;omega),fun _=>?_⟩;refine rg ?_;(conv=>whnf);refine aF ?_;refine rg ?_;(conv=>whnf);refine aF ?_;refine rg ?_;(conv=>whnf);refine aF ?_;refine rg ?_;(conv=>whnf);refine⟨fun h=>False.elim (by simp at h;omega),fun _=>?_⟩;refine rg ?_;(conv=>whnf);refine⟨fun _=>?_,fun h=>False.elim (by simp at h;omega)⟩;refine rg ?_;conv=>whnf)
   refine Ar 6 zF E (.cons (.refl _) (.cons (.refl _) (.cons (.refl _) (.cons .nil .nil)))) ?_
   exact dN
 rw[if_neg hb]at hres
 rw[hres]
 exact Ze d s t v b ht h1 hv qn
theorem takeF_bad {b:List UInt8} (h:(takeF b).2≠0):(takeF b).1=noF:=by
 unfold takeF at h ⊢
 split
 ·rfl
 rw[if_neg (by assumption)]at h
 split
 ·rfl
 rw[if_neg (by assumption)]at h
 exact absurd E h
theorem Afp {b:List UInt8} (h:(takeF b).2=0):FrameOK (takeF b).1:=by
 unfold takeF at h ⊢
 split
 ·rw[if_pos (by assumption)]at h;cases h
 rw[if_neg (by assumption)]at h
 split
 ·rw[if_pos (by assumption)]at h;cases h
 rename_i h1 h2
 have l1:((b.take 6).length)=6:=by rw[List.length_take];omega
 have l2:(((b.drop 6).take 6).length)=6:=by rw[List.length_take,List.length_drop];omega
 have l3:(((b.drop 12).take 2).length)=2:=by rw[List.length_take,List.length_drop];omega
 have a1:=J6 _ _ l1
 have a2:=J6 _ _ l2
 have a3:=J6 _ _ l3
 refine⟨a1,a2,?_,?_⟩
 ·dsimp only;exact Nat.le_of_lt_succ a3
 ·dsimp only;rw[List.length_drop];omega
theorem Ape {f:FrameM} (hf:FrameOK f) (h:(stripT f).2.2.2=0):FrameOK (stripT f).1:=by
 unfold stripT at h ⊢
 split
 ·rw[if_pos (by assumption)]at h;cases h
 rw[if_neg (by assumption)]at h
 split
 ·rw[if_pos (by assumption)]at h;cases h
 rw[if_neg (by assumption)]at h
 split
 ·rw[if_pos (by assumption)]at h;cases h
 rename_i h1 h2 h3
 have l3:(((f.body.drop 2).take 2).length)=2:=by rw[List.length_take,List.length_drop];omega
 have a3:=J6 _ _ l3
 have hb:=hf.body
 refine⟨hf.dst,hf.src,?_,?_⟩
 ·dsimp only;exact Nat.le_of_lt_succ a3
 ·dsimp only;rw[List.length_drop];omega
theorem strip_bad {f:FrameM} (h:(stripT f).2.2.2≠0):(stripT f).1=noF∧(stripT f).2.1=0:=by
 unfold stripT at h ⊢
 split
 ·exact⟨E,E⟩
 rw[if_neg (by assumption)]at h
 split
 ·exact⟨E,E⟩
 rw[if_neg (by assumption)]at h
 split
 ·exact⟨E,E⟩
 rw[if_neg (by assumption)]at h
 exact absurd E h
theorem Ahq (n:Net) (hn:n.Fin) (port:Int) (b:List UInt8) (hb:b.length<100000) :
  Sy.Spec Tryz.prog 172 [Aj n,Aa port,.sl 1 Ag b] [] (.tup [Aa (enterT n port b).1,Bc (enterT n port b).2.1,Aa (enterT n port b).2.2]) []:=cT F172 Tryz.ntmps172 fun F hF=>by
 have hres:=enterT.eq_1 n port b
 generalize enterT n port b=res at *
 have hr:=B0 n hn
 conv=>whnf
 by_cases hneg:port<0
 ·rw[if_pos (.inl (by rw[Ai,decide_eq_false qn];rfl))]at hres
  subst hres
  (refine⟨fun _=>?_,fun h=>False.elim (by simp at h;omega)⟩;refine rg ?_;(conv=>whnf);refine aT ?_;refine rg ?_;(conv=>whnf);refine aT ?_;refine rg ?_;conv=>whnf)
  refine Ar 7 zF E (.cons (.refl _) (.cons (.refl _) (.cons (.refl _) (.cons .nil .nil)))) ?_
  exact dN
 refine⟨fun h=>absurd (of_decide_eq_true h) hneg,fun _=>?_⟩
 refine A3 3 8 (Aj n) E E E ?_
 by_cases hge:(n.ports.length:Int)≤port
 ·rw[if_pos (.inl (by rw[Ai,decide_eq_false (by omega:¬ port<_),Bool.and_false]))]at hres
  subst hres
  refine oO ?_
  (refine⟨fun _=>?_,fun h=>False.elim (by simp at h;omega)⟩;refine rg ?_;(conv=>whnf);refine aT ?_;refine rg ?_;conv=>whnf)
  refine Ar 7 zF E (.cons (.refl _) (.cons (.refl _) (.cons (.refl _) (.cons .nil .nil)))) ?_
  exact dN
 have hpl:Ai port n.ports.length=true:=by rw[Ai,decide_eq_true qn,decide_eq_true qn];rfl
 refine oO ?_
 (refine⟨fun h=>False.elim (by simp at h;omega),fun _=>?_⟩;refine rg ?_;conv=>whnf)
 refine c0 hr F23 ?_
 cases hbn:Ae n
 ·rw[if_pos (.inr hbn)]at hres
  subst hres
  refine oT ?_
  refine Ar 7 zF E (.cons (.refl _) (.cons (.refl _) (.cons (.refl _) (.cons .nil .nil)))) ?_
  exact dN
 rw[if_neg (by simp[hbn,hpl])]at hres
 have hp0:0≤port:=by omega
 have hk:port.toNat<n.ports.length:=by omega
 have e1:nth n.ports port=n.ports[port.toNat]:=Ak hk
 have hsh:=hn.tagged _ (List.getElem_mem hk)
 obtain ⟨p,hp⟩:∃ p,n.ports[port.toNat]'hk=p:=⟨_,rfl⟩
 rw[hp]at e1 hsh
 have qt:=Tz b hb
 have hto:=@Afp b
 have htb:=@takeF_bad b
 generalize takeF b=tf at *
 obtain ⟨f,e⟩:=tf
 dsimp only at hres qt hto htb
 have qi:=Q4 f
 refine oF ?_
 refine c0 qt F121 ?_
 refine oO ?_
 refine c0 qi F182 ?_
 by_cases he:e=0
 rotate_left
 ·rw[if_pos he]at hres
  subst hres
  obtain rfl:=htb he
  refine oO ?_
  (refine⟨fun h=>False.elim (by simp at h;omega),fun _=>?_⟩;refine rg ?_;(conv=>whnf);refine aF ?_;refine rg ?_;conv=>whnf)
  (refine⟨fun h=>False.elim (by simp at h;omega),fun _=>?_⟩;refine rg ?_;(conv=>whnf);refine aF ?_;refine rg ?_;conv=>whnf)
  refine⟨E,hp0,hk,?_⟩
  rw[hp]
  conv=>whnf
  refine c0 (Oe p false 0 hsh) F227 ?_
  refine oO ?_
  (refine⟨fun h=>False.elim (by simp at h;omega),fun _=>?_⟩;refine rg ?_;(conv=>whnf);refine aF ?_;refine rg ?_;(conv=>whnf);refine⟨fun _=>?_,fun h=>False.elim (by simp at h;omega)⟩;refine rg ?_;conv=>whnf)
  refine Ar 7 zF E (.cons (.refl _) (.cons (.refl _) (.cons (.refl _) (.cons .nil .nil)))) ?_
  exact dN
 subst he
 rw[if_neg qy]at hres
 have hfo:=hto rfl
 by_cases ht:f.typ=33024
 ·rw[if_pos ht]at hres
  rw[decide_eq_true ht]
  have qs:=Amn f (by have:=hfo.body;omega)
  have hso:=@Ape f hfo
  have hsb:=@strip_bad f
  generalize stripT f=st at *
  obtain ⟨g,vid,prio,e2⟩:=st
  dsimp only at hres qs hso hsb
  (refine oT ?_;refine bT ?_)
  refine c0 qs F225 ?_
  by_cases he2:e2=0
  rotate_left
  ·rw[if_pos he2]at hres
   subst hres
   obtain ⟨rfl,rfl⟩:=hsb he2
   refine oO ?_
   (refine⟨fun h=>False.elim (by simp at h;omega),fun _=>?_⟩;refine rg ?_;(conv=>whnf);refine aF ?_;refine rg ?_;conv=>whnf)
   refine⟨E,hp0,hk,?_⟩
   rw[hp]
   conv=>whnf
   refine c0 (Oe p true 0 hsh) F227 ?_
   refine oO ?_
   (refine⟨fun h=>False.elim (by simp at h;omega),fun _=>?_⟩;refine rg ?_;(conv=>whnf);refine aF ?_;refine rg ?_;(conv=>whnf);refine⟨fun _=>?_,fun h=>False.elim (by simp at h;omega)⟩;refine rg ?_;conv=>whnf)
   refine Ar 7 zF E (.cons (.refl _) (.cons (.refl _) (.cons (.refl _) (.cons .nil .nil)))) ?_
   exact dN
  subst he2
  rw[if_neg qy]at hres
  have hgo:=hso rfl
  have hgs:=hgo.src
  have qg:=Md g.src qn
  rw[Ja,e1]at hres
  have qv:=Oe p true vid hsh
  have qd:=U4 n hn p.dev (vlanT p true vid).1
  refine oT ?_
  refine c0 qg F226 ?_
  cases hgb:Ed g.src
  rotate_left
  ·rw[if_pos hgb]at hres
   subst hres
   refine oT ?_
   refine⟨E,hp0,hk,?_⟩
   rw[hp]
   conv=>whnf
   refine c0 qv F227 ?_
   (refine oF ?_;refine bF ?_;refine bT ?_)
   (skip)
   refine Ar 7 zF E (.cons (.refl _) (.cons (.refl _) (.cons (.refl _) (.cons .nil .nil)))) ?_
   exact dN
  rw[if_neg (by simp[hgb])]at hres
  refine oF ?_
  refine⟨E,hp0,hk,?_⟩
  rw[hp]
  conv=>whnf
  refine c0 qv F227 ?_
  generalize vlanT p true vid=vl at *
  obtain ⟨vl,vok⟩:=vl
  dsimp only at hres qd ⊢
  cases vok
  ·rw[if_pos rfl]at hres
   subst hres
   (refine oT ?_;refine bT ?_;refine bT ?_)
   refine Ar 7 zF E (.cons (.refl _) (.cons (.refl _) (.cons (.refl _) (.cons .nil .nil)))) ?_
   exact dN
  rw[if_neg qz]at hres
  subst hres
  (refine oT ?_;refine bF ?_;refine bF ?_)
  refine cD qd F89 ?_
  refine oD ?_
  refine kW ?_
  exact dN
 ·rw[if_neg ht]at hres
  rw[decide_eq_false ht]
  have hgo:=hfo
  have hgs:=hgo.src
  have qg:=Md f.src qn
  rw[Ja,e1]at hres
  have qv:=Oe p false 0 hsh
  have qd:=U4 n hn p.dev (vlanT p false 0).1
  (refine oT ?_;refine bF ?_;refine bT ?_)
  refine c0 qg F226 ?_
  cases hgb:Ed f.src
  rotate_left
  ·rw[if_pos hgb]at hres
   subst hres
   refine oT ?_
   refine⟨E,hp0,hk,?_⟩
   rw[hp]
   conv=>whnf
   refine c0 qv F227 ?_
   (refine oF ?_;refine bF ?_;refine bT ?_)
   (skip)
   refine Ar 7 zF E (.cons (.refl _) (.cons (.refl _) (.cons (.refl _) (.cons .nil .nil)))) ?_
   exact dN
  rw[if_neg (by simp[hgb])]at hres
  refine oF ?_
  refine⟨E,hp0,hk,?_⟩
  rw[hp]
  conv=>whnf
  refine c0 qv F227 ?_
  generalize vlanT p false 0=vl at *
  obtain ⟨vl,vok⟩:=vl
  dsimp only at hres qd ⊢
  cases vok
  ·rw[if_pos rfl]at hres
   subst hres
   (refine oT ?_;refine bT ?_;refine bT ?_)
   refine Ar 7 zF E (.cons (.refl _) (.cons (.refl _) (.cons (.refl _) (.cons .nil .nil)))) ?_
   exact dN
  rw[if_neg qz]at hres
  subst hres
  (refine oT ?_;refine bF ?_;refine bF ?_)
  refine cD qd F89 ?_
  refine oD ?_
  refine kW ?_
  exact dN
theorem Ba {i:Int} {n:Nat} (h:Ai i n=true):0≤i∧i<n:=by simpa [Ai] using h
theorem Agc (n:Net) (hn:n.Fin) (port:Int) (b:List UInt8) (hb:b.length<100000) :
  Sy.Spec Tryz.prog 126 [Aj n,Aa port,.sl 1 Ag b] [] (.tup [Aa (enterT n port b).1,Bc (enterT n port b).2.1,Aa (enterT n port b).2.2]) []:=cT F126 Tryz.ntmps126 fun F hF=>by
 have hres:=enterT.eq_1 n port b
 generalize enterT n port b=res at *
 have hr:=Dy n hn
 have hpS:=A8 port n.ports.length
 conv=>whnf
 refine c0 hr F10 ?_
 cases hbn:Ae n
 ·rw[if_pos (.inr hbn)]at hres
  subst hres
  (refine oT ?_;refine bT ?_)
  refine Ar 7 zF E (.cons (.refl _) (.cons (.refl _) (.cons (.refl _) (.cons .nil .nil)))) ?_
  exact dN
 refine A3 3 8 (Aj n) E E E ?_
 refine oF ?_
 refine c0 hpS F46 ?_
 cases hpl:Ai port n.ports.length
 ·rw[if_pos (.inl hpl)]at hres
  subst hres
  refine oT ?_
  refine Ar 7 zF E (.cons (.refl _) (.cons (.refl _) (.cons (.refl _) (.cons .nil .nil)))) ?_
  exact dN
 rw[if_neg (by simp[hbn,hpl])]at hres
 have hpi:=Ba hpl
 have hp0:0≤port:=hpi.1
 have hk:port.toNat<n.ports.length:=by omega
 have e1:nth n.ports port=n.ports[port.toNat]:=Ak hk
 have hsh:=hn.tagged _ (List.getElem_mem hk)
 obtain ⟨p,hp⟩:∃ p,n.ports[port.toNat]'hk=p:=⟨_,rfl⟩
 rw[hp]at e1 hsh
 have qt:=Tk b hb
 have hto:=@Afp b
 generalize takeF b=tf at *
 obtain ⟨f,e⟩:=tf
 dsimp only at hres qt hto
 refine oF ?_
 refine c0 qt F124 ?_
 refine oO ?_
 by_cases he:e=0
 rotate_left
 ·rw[if_pos he]at hres
  subst hres
  (refine⟨fun _=>?_,fun h=>False.elim (by simp at h;omega)⟩;refine rg ?_;conv=>whnf)
  refine Ar 7 zF E (.cons (.refl _) (.cons (.refl _) (.cons (.refl _) (.cons .nil .nil)))) ?_
  exact dN
 subst he
 rw[if_neg qy]at hres
 have hfo:=hto rfl
 (refine⟨fun h=>False.elim (absurd h qy),fun _=>?_⟩;refine rg ?_;conv=>whnf)
 by_cases ht:f.typ=33024
 ·rw[if_pos ht]at hres
  have qs:=Agh f (by have:=hfo.body;omega)
  have hso:=@Ape f hfo
  generalize stripT f=st at *
  obtain ⟨g,vid,prio,e2⟩:=st
  dsimp only at hres qs hso
  rw[show ((f.typ:Int) == 33024)=true by rw[ht];rfl]
  refine⟨fun _=>?_,fun h=>absurd h qy⟩
  refine oO ?_
  refine c0 qs F185 ?_
  refine oO ?_
  by_cases he2:e2=0
  rotate_left
  ·rw[if_pos he2]at hres
   subst hres
   (refine⟨fun _=>?_,fun h=>False.elim (by simp at h;omega)⟩;refine rg ?_;conv=>whnf)
   refine Ar 7 zF E (.cons (.refl _) (.cons (.refl _) (.cons (.refl _) (.cons .nil .nil)))) ?_
   exact dN
  subst he2
  rw[if_neg qy]at hres
  have hgo:=hso rfl
  (refine⟨fun h=>False.elim (absurd h qy),fun _=>?_⟩;refine rg ?_;conv=>whnf)
  have hgs:=hgo.src
  have qg:=Jo g.src qn
  rw[Ja,e1]at hres
  have qv:=Zh p true vid hsh
  have qd:=O6 n p.dev (vlanT p true vid).1 hn.domains
  have hdt:∀ x,Lq n p.dev x=Aa0 n p.dev x:=fun x=>by rw[Lq,if_pos hbn]
  refine c0 qg F186 ?_
  cases hgb:Ed g.src
  rotate_left
  ·rw[if_pos hgb]at hres
   subst hres
   refine oT ?_
   refine Ar 7 zF E (.cons (.refl _) (.cons (.refl _) (.cons (.refl _) (.cons .nil .nil)))) ?_
   exact dN
  rw[if_neg (by simp[hgb])]at hres
  refine oF ?_
  refine⟨E,hp0,hk,?_⟩
  rw[hp]
  conv=>whnf
  refine c0 qv F187 ?_
  generalize vlanT p true vid=vl at *
  obtain ⟨vl,vok⟩:=vl
  dsimp only at hres qd ⊢
  cases vok
  ·rw[if_pos rfl]at hres
   subst hres
   refine oT ?_
   refine Ar 7 zF E (.cons (.refl _) (.cons (.refl _) (.cons (.refl _) (.cons .nil .nil)))) ?_
   exact dN
  rw[if_neg qz,hdt]at hres
  subst hres
  refine oF ?_
  refine⟨E,hp0,hk,?_⟩
  rw[hp]
  conv=>whnf
  refine cD qd F35 ?_
  refine oD ?_
  refine kW ?_
  exact dN
 ·rw[if_neg ht]at hres
  have hgo:=hfo
  rw[show ((f.typ:Int) == 33024)=false by simp;omega]
  refine⟨fun h=>absurd h qy,fun _=>?_⟩
  refine oO ?_
  have hgs:=hgo.src
  have qg:=Jo f.src qn
  rw[Ja,e1]at hres
  have qv:=Zh p false 0 hsh
  have qd:=O6 n p.dev (vlanT p false 0).1 hn.domains
  have hdt:∀ x,Lq n p.dev x=Aa0 n p.dev x:=fun x=>by rw[Lq,if_pos hbn]
  refine c0 qg F186 ?_
  cases hgb:Ed f.src
  rotate_left
  ·rw[if_pos hgb]at hres
   subst hres
   refine oT ?_
   refine Ar 7 zF E (.cons (.refl _) (.cons (.refl _) (.cons (.refl _) (.cons .nil .nil)))) ?_
   exact dN
  rw[if_neg (by simp[hgb])]at hres
  refine oF ?_
  refine⟨E,hp0,hk,?_⟩
  rw[hp]
  conv=>whnf
  refine c0 qv F187 ?_
  generalize vlanT p false 0=vl at *
  obtain ⟨vl,vok⟩:=vl
  dsimp only at hres qd ⊢
  cases vok
  ·rw[if_pos rfl]at hres
   subst hres
   refine oT ?_
   refine Ar 7 zF E (.cons (.refl _) (.cons (.refl _) (.cons (.refl _) (.cons .nil .nil)))) ?_
   exact dN
  rw[if_neg qz,hdt]at hres
  subst hres
  refine oF ?_
  refine⟨E,hp0,hk,?_⟩
  rw[hp]
  conv=>whnf
  refine cD qd F35 ?_
  refine oD ?_
  refine kW ?_
  exact dN
end Go.Sy.YteinjapglfkamaaGreat
namespace Go.Sy.YteinjapglfkamaaGreat
open Go.Proofs
attribute [local irreducible] Go.Sy.G Go.Sy.DR
set_option maxRecDepth 20000
set_option maxHeartbeats 8000000
theorem Di {i:Int} {n:Nat} (h:0≤i∧i<n):Ai i n=true:=by simp only[Ai,Bool.and_eq_true,decide_eq_true_eq];exact h
theorem M4 {i:Int} {n:Nat} (h:¬ (0≤i∧i<n)):Ai i n=false:=by simp only[Ai,Bool.and_eq_false_iff,decide_eq_false_iff_not];omega
theorem Lf (n:Net) (hn:n.Fin) (hb:Ae n=true) (i:Int):Sy.Spec Tryz.prog 37 [Aj n,Aa i] [] (.sl 1 Aa (Ci n i)) []:=cT F37 Tryz.ntmps37 fun F hF=>by
 have hpl:=A8 i n.domains.length
 have hsp:=hn.ports
 unfold Ap at hsp
 conv=>whnf
 refine A3 2 8 (Aj n) E E E ?_
 refine oO ?_
 refine c0 hpl F46 ?_
 by_cases hi:0≤i∧i<n.domains.length
 rotate_left
 ·rw[Ci,if_neg (fun h=>hi h.1),M4 hi]
  refine oT ?_
  refine Am 4 1 Aa E ?_
  refine oO ?_
  exact dN
 rw[Ci,if_pos ⟨hi,hb⟩,Di hi]
 have hk:i.toNat<n.domains.length:=by omega
 have e1:nth n.domains i=n.domains[i.toNat]:=Ak hk
 rw[Ax,e1]
 obtain ⟨d,hd⟩:∃ d,n.domains[i.toNat]=d:=⟨_,rfl⟩
 rw[hd]
 refine oF ?_
 refine⟨E,hi.1,hk,?_⟩
 rw[hd]
 conv=>whnf
 refine A3 6 6 (Aw d) E E E ?_
 refine Bm 5 1000 1 Aa E E ?_
 refine At n.ports.length (fun j=>[(2,.ref 8 (Aj n) 0),(5,.osl 1000),(6,.ref 6 (Aw d) 0),(7,Aa j)]) (fun j=>[(1000,.row 1 Aa (Ez (Jt n d) j))]) []
  ⟨⟨rfl,rfl,rfl,rfl,rfl,rfl,rfl,rfl,trivial⟩,⟨.inl rfl,rfl,trivial⟩,rfl,rfl⟩ ?_
 intro j hj
 refine oO ?_
 refine⟨fun h=>?_,fun h=>?_⟩
 ·have hlt:j<n.ports.length:=by simpa using h
  have hsucc:=Od (Jt n d) j
  have hfl:=Ev (Jt n d) j
  have hin:Jt n d j=((n.ports[j]).dev == d.dev && Iu n.ports[j] d.vlan):=by
   rw[Jt,Ak (l:=n.ports) (i:=(j:Int)) (by simpa using hlt)];rfl
  rw[hin]at hsucc
  have e1:n.ports[(j:Int).toNat]'qn=n.ports[j]:=rfl
  have hms:=Ut n.ports[j] d.vlan (hn.tagged _ (List.getElem_mem _))
  obtain ⟨p,hp⟩:∃ p,n.ports[j]=p:=⟨_,rfl⟩
  rw[hp]at e1 hsucc hms
  obtain ⟨u,hu⟩:∃ u,Ez (Jt n d) j=u:=⟨_,rfl⟩
  rw[hu]at hsucc hfl ⊢
  refine oO ?_
  refine⟨E,by omega,by omega,?_⟩
  rw[e1]
  conv=>whnf
  refine⟨fun h2=>?_,fun h2=>?_⟩
  ·rw[h2,Bool.true_and]at hsucc
   refine oD ?_
   refine⟨E,by omega,by omega,?_⟩
   rw[e1]
   conv=>whnf
   refine cD hms F99 ?_
   refine oD ?_
   refine kW ?_
   refine⟨fun h4=>?_,fun h4=>?_⟩
   ·rw[if_pos h4]at hsucc
    refine oO ?_
    refine Ad (Ac Γ.toTy 48 E E E E E (.row E) (.lit (e:=Aa) (l:=[(j:Int)]) E E) qz (by simp;omega) (by simp;omega)) E E ?_
    refine oO ?_
    refine iW ?_
    exact An [(1000,48)] hlt ⟨⟨E,E,E,E,E,E,E,E,Y⟩,⟨.inl (congrArg (Ob.row 1 Aa) hsucc),E,Y⟩,E,E⟩
   ·rw[if_neg (by simp[h4])]at hsucc
    refine oO ?_
    refine iW ?_
    exact An [] hlt ⟨⟨E,E,E,E,E,E,E,E,Y⟩,⟨.inl (congrArg (Ob.row 1 Aa) hsucc),E,Y⟩,E,E⟩
  ·rw[h2,Bool.false_and,if_neg qz]at hsucc
   refine oD ?_
   refine⟨qq,?_⟩
   ((conv=>whnf);refine aF ?_;refine rg ?_;conv=>whnf)
   refine iW ?_
   exact An [] hlt ⟨⟨E,E,E,E,E,E,E,E,Y⟩,⟨.inl (congrArg (Ob.row 1 Aa) hsucc),E,Y⟩,E,E⟩
 ·have:j=n.ports.length:=qB h
  subst this
  refine Ao 1000 E ?_
  refine oO ?_
  exact dN
end Go.Sy.YteinjapglfkamaaGreat
namespace Go.Sy.YteinjapglfkamaaGreat
open Go.Proofs
attribute [local irreducible] Go.Sy.G Go.Sy.DR
set_option maxRecDepth 100000
set_option maxHeartbeats 4000000
theorem Lk (i:Int) (n:Nat):Sy.Spec Tryz.prog 300 [Aa i,Aa n] [] (Ab (Ai i n)) []:=cT F300 Tryz.ntmps300 fun F hF=>by
 conv=>whnf
 (repeat' (first | (refine⟨fun h=>?_,fun h=>?_⟩<;>(repeat (first | simp only[decide_eq_true_eq]at h | simp only[decide_eq_false_iff_not]at h))<;>((refine oO ?_))) | (refine Aq rfl (.cons .tmp .nil) ?_ rfl)))
 all_goals (refine congrArg Ab ?_)
 all_goals grind [Ai]
theorem Aj1 (n:Net) (f:FrameM) (h:FrameOK f) (v:Int):Sy.Spec Tryz.prog 302 [Aj n,Bc f,Aa v] [] (.tup [.sl 1 Ag (X1 f),Aa 0]) []:=cT F302 Tryz.ntmps302 fun F hF=>by
 conv=>whnf
 refine Ad (Af [(0,55)] E F45 (Si f h) E Y E ⟨.inr E,Y⟩) E E ?_
 refine Ao 55 E ?_
 refine oO ?_
 exact dN
theorem Ao9 {f:FrameM} (hf:FrameOK f) (v:Nat) (_hv:v≤4094) (h:(tagT f v).2=0):FrameOK (tagT f v).1:=by
 unfold tagT at h ⊢
 split
 ·rw[if_pos (by assumption)]at h;cases h
 rw[if_neg (by assumption)]at h
 split
 ·rw[if_pos (by assumption)]at h;cases h
 refine⟨hf.dst,hf.src,?_,?_⟩
 ·show (33024:Nat)≤65535;decide
 ·dsimp only;simp;omega
theorem Aek (n:Net) (f:FrameM) (h:FrameOK f) (v:Nat) (hv:v≤4094) :
  Sy.Spec Tryz.prog 301 [Aj n,Bc f,Aa v] [] (.tup [.sl 1 Ag (if (tagT f v).2≠0 then [] else X1 (tagT f v).1),Aa (if (tagT f v).2≠0 then (tagT f v).2 else 0)]) []:=by
 have q:=Apa f v h hv
 have ho:=Ao9 h v hv
 generalize tagT f v=t at *
 obtain ⟨g,e⟩:=t
 dsimp only at q ho ⊢
 refine B9 Γ hm 100 F301 Tryz.ntmps301 E fun F hF=>by
  conv=>whnf
  refine c0 q F122 ?_
  refine oO ?_
  by_cases he:e=0
  ·subst he
   (refine⟨fun h=>False.elim (absurd h qy),fun _=>?_⟩;refine rg ?_;conv=>whnf)
   refine A3 8 4 (Bc g) E E E ?_
   refine oO ?_
   refine Ad (Af [(0,55)] E F45 (Si g (ho E)) E Y E ⟨.inr E,Y⟩) E E ?_
   refine Ao 55 E ?_
   refine oO ?_
   exact dN
  ·rw[if_pos he,if_pos he]
   (refine⟨fun _=>?_,fun h=>False.elim (by simp at h;omega)⟩;refine rg ?_;conv=>whnf)
   refine Am 6 1 Ag E ?_
   exact dN
theorem Aat {n:Net} (h:Ae n=true) {i:Nat} (hi:i<n.domains.length):1≤n.domains[i].vlan∧n.domains[i].vlan≤4094:=by
 simp only[Ae,Bool.and_eq_true]at h
 have hb:Dg (I1 n) n.domains=true:=h.1.1.1.1.1.1.1.2
 have:=allB_iff.1 hb i hi
 simp only[I1,Bool.and_eq_true,decide_eq_true_eq]at this
 omega
theorem Aqs (n:Net) (hn:n.Fin) (port dom:Int) (f:FrameM) (h:FrameOK f) :
  Sy.Spec Tryz.prog 236 [Aj n,Aa port,Aa dom,Bc f] [] (.tup [.sl 1 Ag (leaveT n port dom f).1,Aa (leaveT n port dom f).2]) []:=cT F236 Tryz.ntmps236 fun F hF=>by
 have hres:=leaveT.eq_1 n port dom f
 generalize leaveT n port dom f=res at *
 have hr:=B0 n hn
 have hpS:=Lk port n.ports.length
 have hdS:=Lk dom n.domains.length
 conv=>whnf
 refine c0 hpS F300 ?_
 cases hpl:Ai port n.ports.length
 ·rw[if_pos (.inl hpl)]at hres
  subst hres
  (refine oT ?_;refine bT ?_;refine bT ?_)
  refine Am 8 1 Ag E ?_
  exact dN
 refine oF ?_
 refine c0 hdS F300 ?_
 cases hdl:Ai dom n.domains.length
 ·rw[if_pos (.inr (.inl hdl))]at hres
  subst hres
  (refine oT ?_;refine bT ?_)
  refine Am 8 1 Ag E ?_
  exact dN
 refine oF ?_
 refine c0 hr F23 ?_
 cases hbn:Ae n
 ·rw[if_pos (.inr (.inr hbn))]at hres
  subst hres
  refine oT ?_
  refine Am 8 1 Ag E ?_
  exact dN
 rw[if_neg (by simp[hbn,hpl,hdl])]at hres
 have hpi:=Ba hpl
 have hdi:=Ba hdl
 have hp0:0≤port:=hpi.1
 have hd0:0≤dom:=hdi.1
 have hk:port.toNat<n.ports.length:=by omega
 have hkd:dom.toNat<n.domains.length:=by omega
 have e1:nth n.ports port=n.ports[port.toNat]:=Ak hk
 have e2:nth n.domains dom=n.domains[dom.toNat]:=Ak hkd
 have hsh:=hn.tagged _ (List.getElem_mem hk)
 have hv:=Aat hbn hkd
 obtain ⟨p,hp⟩:∃ p,n.ports[port.toNat]'hk=p:=⟨_,rfl⟩
 obtain ⟨d,hd⟩:∃ d,n.domains[dom.toNat]'hkd=d:=⟨_,rfl⟩
 rw[hp]at e1 hsh
 rw[hd]at e2 hv
 rw[e1,e2]at hres
 have qm:=Aeh p d.vlan hsh
 refine oF ?_
 refine⟨E,hp0,hk,E,hd0,hkd,?_⟩
 rw[hp,hd]
 conv=>whnf
 refine kW ?_
 refine⟨fun h1=>?_,fun h1=>?_⟩
 ·rw[if_pos (.inl (by simpa using h1))]at hres
  subst hres
  refine oT ?_
  refine Am 8 1 Ag E ?_
  exact dN
 refine A3 10 7 (Bh p) E E E ?_
 refine oO ?_
 refine c0 qm F93 ?_
 cases hm1:Iu p d.vlan
 ·rw[if_pos (.inr hm1)]at hres
  subst hres
  refine oT ?_
  refine Am 8 1 Ag E ?_
  exact dN
 rw[if_neg (by simp at h1;simp[hm1,h1])]at hres
 have qt:=Q4 f
 by_cases ht:f.typ=33024
 ·rw[if_pos ht]at hres
  subst hres
  rw[decide_eq_true ht]at qt
  refine oF ?_
  refine c0 qt F182 ?_
  refine oT ?_
  refine Am 8 1 Ag E ?_
  exact dN
 rw[if_neg ht]at hres
 rw[decide_eq_false ht]at qt
 refine oF ?_
 refine c0 qt F182 ?_
 refine oF ?_
 refine⟨fun h2=>?_,fun h2=>?_⟩
 ·rw[if_pos (by simpa using h2)]at hres
  subst hres
  refine oO ?_
  refine Ef ⟨⟨_,_,F302⟩,Aj1 n f h d.vlan⟩ E E E E E E ?_
  refine oO ?_
  exact dN
 rw[if_neg (by simpa using h2)]at hres
 refine oO ?_
 have hv0:(d.vlan.toNat:Int)=d.vlan:=by omega
 have qg:=Aek n f h d.vlan.toNat qn
 rw[hv0]at qg
 refine Ef ⟨⟨_,_,F301⟩,qg⟩ E E E E E E ?_
 refine oO ?_
 by_cases he:(tagT f d.vlan).2=0
 ·rw[if_neg (by simpa using he)]at hres
  subst hres
  rw[if_neg (by simpa using he),if_neg (by simpa using he)]
  exact dN
 ·rw[if_pos he]at hres
  subst hres
  rw[if_pos he,if_pos he]
  exact dN
theorem inB_mem {l:List Int} {x:Int}:inB l x=true↔x∈l:=by
 simp[inB]
theorem Ajt {n:Net} {dom port:Int} (hk:Ai port n.ports.length=true):inB (Ax n dom) port=((nth n.ports port).dev == (nth n.domains dom).dev && Iu (nth n.ports port) (nth n.domains dom).vlan):=by
 have hp:=Ba hk
 rw[Bool.eq_iff_iff,inB_mem,Ax,filtI_mem,Jt]
 rw[show ((port.toNat:Nat):Int)=port by omega]
 exact⟨fun h=>h.2.2,fun h=>⟨hp.1,hp.2,h⟩⟩
theorem dm_iff {a b:Int} {c:Bool}:(a == b && c)=false↔(a≠b∨c=false):=by
 cases c<;>simp
theorem Zg (n:Net) (hn:n.Fin) (port dom:Int) (f:FrameM) (h:FrameOK f) :
  Sy.Spec Tryz.prog 257 [Aj n,Aa port,Aa dom,Bc f] [] (.tup [.sl 1 Ag (leaveT n port dom f).1,Aa (leaveT n port dom f).2]) []:=cT F257 Tryz.ntmps257 fun F hF=>by
 have hres:=leaveT.eq_1 n port dom f
 generalize leaveT n port dom f=res at *
 have hr:=Dy n hn
 have hpS:=A8 port n.ports.length
 have hdS:=A8 dom n.domains.length
 conv=>whnf
 refine c0 hr F10 ?_
 cases hbn:Ae n
 ·rw[if_pos (.inr (.inr hbn))]at hres
  subst hres
  (refine oT ?_;refine bT ?_;refine bT ?_)
  refine Am 8 1 Ag E ?_
  exact dN
 refine oF ?_
 refine c0 hpS F46 ?_
 cases hpl:Ai port n.ports.length
 ·rw[if_pos (.inl hpl)]at hres
  subst hres
  (refine oT ?_;refine bT ?_)
  refine Am 8 1 Ag E ?_
  exact dN
 refine oF ?_
 refine c0 hdS F46 ?_
 cases hdl:Ai dom n.domains.length
 ·rw[if_pos (.inr (.inl hdl))]at hres
  subst hres
  refine oT ?_
  refine Am 8 1 Ag E ?_
  exact dN
 rw[if_neg (by simp[hbn,hpl,hdl])]at hres
 have hin:=Ajt (dom:=dom) hpl
 have hpi:=Ba hpl
 have hdi:=Ba hdl
 have hp0:0≤port:=hpi.1
 have hd0:0≤dom:=hdi.1
 have hk:port.toNat<n.ports.length:=by omega
 have hkd:dom.toNat<n.domains.length:=by omega
 have e1:nth n.ports port=n.ports[port.toNat]:=Ak hk
 have e2:nth n.domains dom=n.domains[dom.toNat]:=Ak hkd
 have hv:=Aat hbn hkd
 have qm:=Lf n hn hbn dom
 have qi:=E9 (Ci n dom) port (It n hn dom)
 have hmt:Ci n dom=Ax n dom:=by rw[Ci,if_pos ⟨⟨hdi.1,hdi.2⟩,hbn⟩]
 rw[hmt]at qm qi
 obtain ⟨p,hp⟩:∃ p,n.ports[port.toNat]'hk=p:=⟨_,rfl⟩
 obtain ⟨d,hd⟩:∃ d,n.domains[dom.toNat]'hkd=d:=⟨_,rfl⟩
 rw[hp]at e1
 rw[hd]at e2 hv
 rw[e1,e2]at hres hin
 generalize Ax n dom=ml at *
 refine oF ?_
 refine c0 qm F37 ?_
 refine oO ?_
 refine c0 qi F36 ?_
 cases hi:inB ml port
 ·rw[hi]at hin
  rw[if_pos (dm_iff.1 hin.symm)]at hres
  subst hres
  refine oT ?_
  refine Am 8 1 Ag E ?_
  exact dN
 rw[hi]at hin
 rw[if_neg (fun h=>by rw[dm_iff.2 h]at hin;cases hin)]at hres
 refine oF ?_
 refine⟨fun h1=>?_,fun h1=>?_⟩
 ·rw[if_pos (by simp at h1;omega)]at hres
  subst hres
  refine oO ?_
  refine Am 8 1 Ag E ?_
  exact dN
 rw[if_neg (by simp at h1;omega)]at hres
 refine oO ?_
 refine⟨E,hd0,hkd,?_⟩
 rw[hd]
 conv=>whnf
 refine⟨E,hp0,hk,?_⟩
 rw[hp]
 conv=>whnf
 refine⟨fun h2=>?_,fun h2=>?_⟩
 ·rw[if_pos (by simp at h2;omega)]at hres
  subst hres
  refine oO ?_
  refine Ad (Af [(0,55)] E F49 (Q9 f h) E Y E ⟨.inr E,Y⟩) E E ?_
  refine Ao 55 E ?_
  refine oO ?_
  exact dN
 rw[if_neg (by simp at h2;omega)]at hres
 have hv0:(d.vlan.toNat:Int)=d.vlan:=by omega
 have qg:=Ai7 f d.vlan.toNat h qn
 have ho:=Ao9 h d.vlan.toNat qn
 rw[hv0]at qg ho
 generalize tagT f d.vlan=t at *
 obtain ⟨g,e⟩:=t
 dsimp only at qg ho hres
 refine oO ?_
 refine c0 qg F125 ?_
 refine oO ?_
 by_cases he:e=0
 ·subst he
  rw[if_neg qy]at hres
  subst hres
  (refine⟨fun h=>False.elim (absurd h qy),fun _=>?_⟩;refine rg ?_;conv=>whnf)
  refine A3 11 4 (Bc g) E E E ?_
  refine oO ?_
  refine Ad (Af [(0,55)] E F49 (Q9 g (ho E)) E Y E ⟨.inr E,Y⟩) E E ?_
  refine Ao 55 E ?_
  refine oO ?_
  exact dN
 ·rw[if_pos he]at hres
  subst hres
  (refine⟨fun _=>?_,fun h=>False.elim (by simp at h;omega)⟩;refine rg ?_;conv=>whnf)
  refine Am 8 1 Ag E ?_
  exact dN
theorem Ajz (n:Net) (hn:n.Fin) (port:Int) (b:List UInt8) (hb:b.length<100000) :
  Sy.Spec Tryz.prog 241 [Aj n,Aa port,.sl 1 Ag b] [] (.tup [Aa (linkT n port b).1,Aa (linkT n port b).2.1,Bc (linkT n port b).2.2.1,Aa (linkT n port b).2.2.2]) []:=cT F241 Tryz.ntmps241 fun F hF=>by
 have hres:=linkT.eq_1 n port b
 generalize linkT n port b=res at *
 have qo:=Aej n hn port
 have qe:=Ahq n hn (En n port) b hb
 generalize En n port=o at *
 conv=>whnf
 refine c0 qo F268 ?_
 refine oO ?_
 refine⟨fun h1=>?_,fun h1=>?_⟩
 ·rw[if_pos (by simpa using h1)]at hres
  subst hres
  refine oO ?_
  refine Ar 8 zF E (.cons (.refl _) (.cons (.refl _) (.cons (.refl _) (.cons .nil .nil)))) ?_
  exact dN
 rw[if_neg (by simpa using h1)]at hres
 refine oO ?_
 refine c0 qe F172 ?_
 generalize enterT n o b=en at *
 obtain ⟨x1,g,x2⟩:=en
 subst hres
 refine oO ?_
 refine kW ?_
 exact dN
theorem Aiz (n:Net) (hn:n.Fin) (port:Int) (b:List UInt8) (hb:b.length<100000) :
  Sy.Spec Tryz.prog 260 [Aj n,Aa port,.sl 1 Ag b] [] (.tup [Aa (linkT n port b).1,Aa (linkT n port b).2.1,Bc (linkT n port b).2.2.1,Aa (linkT n port b).2.2.2]) []:=cT F260 Tryz.ntmps260 fun F hF=>by
 have hres:=linkT.eq_1 n port b
 generalize linkT n port b=res at *
 have hr:=Dy n hn
 conv=>whnf
 refine c0 hr F10 ?_
 cases hbn:Ae n
 ·have ho:En n port=-1:=by
   rw[En,if_neg (by simp[hbn])]
  rw[if_pos (by rw[ho];decide)]at hres
  subst hres
  (refine oT ?_;refine bT ?_)
  refine Ar 8 zF E (.cons (.refl _) (.cons (.refl _) (.cons (.refl _) (.cons .nil .nil)))) ?_
  exact dN
 have qo:=Am9 n hn hbn port
 have qe:=Agc n hn (En n port) b hb
 generalize En n port=o at *
 refine oF ?_
 refine c0 qo F211 ?_
 refine oO ?_
 refine⟨fun h1=>?_,fun h1=>?_⟩
 ·rw[if_pos (by simpa using h1)]at hres
  subst hres
  refine oO ?_
  refine Ar 8 zF E (.cons (.refl _) (.cons (.refl _) (.cons (.refl _) (.cons .nil .nil)))) ?_
  exact dN
 rw[if_neg (by simpa using h1)]at hres
 refine oO ?_
 refine c0 qo F211 ?_
 refine oO ?_
 refine c0 qe F126 ?_
 generalize enterT n o b=en at *
 obtain ⟨x1,g,x2⟩:=en
 subst hres
 refine oO ?_
 refine kW ?_
 exact dN
end Go.Sy.YteinjapglfkamaaGreat
namespace Go.Sy.YteinjapglfkamaaGreat
open Go.Proofs
theorem Je (l:List Nat):(Cb l).length=2 * l.length:=by
 induction l with
 | nil=>rfl
 | cons a l ih=>simp only[Cb,List.flatMap_cons,List.length_append,List.length_cons,List.length_nil]at ih ⊢;omega
theorem Jk (l:List Nat) (n:Nat):Cb (l++[n])=Cb l++[UInt8.ofNat (n / 256),UInt8.ofNat n]:=by simp[Cb]
theorem Hu (b:List UInt8) (k m:Nat):numAt b k m<256 ^ m:=by
 have h:=J6 _ ((b.drop k).take m) rfl
 have h2:((b.drop k).take m).length≤m:=by rw[List.length_take];omega
 exact Nat.lt_of_lt_of_le h (Nat.pow_le_pow_right qy h2)
theorem Kz {b:List UInt8} {k:Nat} (h:k+2≤b.length):numAt b k 2=(b[k]'qn).toNat * 256+(b[k+1]'qn).toNat:=by
 rw[numAt,Ow h,Yv]
theorem Qy {b:List UInt8} {k:Nat} (h:k<b.length):bAt b k=b[k]:=Tv h
theorem Ao8 {b:List UInt8} {k:Nat} (h:k+3≤b.length):(b.drop k).take 3=[b[k]'qn,b[k+1]'qn,b[k+2]'qn]:=by
 rw[List.drop_eq_getElem_cons qn,List.drop_eq_getElem_cons (i:=k+1) qn,List.drop_eq_getElem_cons (i:=k+2) qn]
 rfl
theorem Yy {b:List UInt8} {k:Nat} (h:k+4≤b.length):(b.drop k).take 4=[b[k]'qn,b[k+1]'qn,b[k+2]'qn,b[k+3]'qn]:=by
 rw[List.drop_eq_getElem_cons qn,List.drop_eq_getElem_cons (i:=k+1) qn,List.drop_eq_getElem_cons (i:=k+2) qn,List.drop_eq_getElem_cons (i:=k+3) qn]
 rfl
theorem Ajq {b:List UInt8} {k:Nat} (h:k+3≤b.length):numAt b k 3=((b[k]'qn).toNat * 256+(b[k+1]'qn).toNat) * 256+(b[k+2]'qn).toNat:=by
 rw[numAt,Ao8 h]
 simp[Hl]
theorem numAt4 {b:List UInt8} {k:Nat} (h:k+4≤b.length):numAt b k 4=numAt b k 2 * 65536+numAt b (k+2) 2:=by
 have e:b[k+2+1]'qn=b[k+3]'qn:=rfl
 rw[numAt,Yy h,Kz qn,Kz qn,e]
 simp[Hl]
 omega
theorem Ie (f:FrameM):(X1 f).length=14+f.body.length:=by
 simp[X1,frame,Au]
 omega
theorem Ly (p:PacketM) (s:Nat):(Ia p s).length=20:=by rw[Ia,Je];rfl
theorem Qh (p:PacketM):(U8 p).length=20+p.body.length:=by rw[U8,List.length_append,Ly]
theorem Afn (s d:Nat) (b:List UInt8):(Afo s d b).length=8+b.length:=by rw[Afo,List.length_append,Je];rfl
theorem Er (v:Nat):(Iw v).length=8:=rfl
theorem Ea:FrameOK noF:=⟨by decide,by decide,by decide,by decide⟩
theorem Aah (ip:Nat) (h:ip<4294967296):Ec ip<281474976710656:=by rw[Ec,Int.toNat_natCast];omega
theorem Abn (n:Net) (port dom:Int) (f:FrameM) (hf:FrameOK f):(leaveT n port dom f).1.length≤1518:=by
 have h4:=hf.body
 unfold leaveT
 split
 ·simp
 split
 ·simp
 split
 ·simp
 split
 ·rw[Ie];omega
 split
 ·simp
 ·rw[Ie]
  rename_i h
  have h2:(tagT f (nth n.domains dom).vlan).2=0:=Classical.byContradiction h
  unfold tagT at h2 ⊢
  split
  ·rw[if_pos (by assumption)]at h2;cases h2
  rw[if_neg (by assumption)]at h2
  split
  ·rw[if_pos (by assumption)]at h2;cases h2
  ·dsimp only
   simp
   omega
theorem Aac {b:List UInt8} (h:(ipTakeT b).2=0):PacketOK (ipTakeT b).1∧(ipTakeT b).1.body.length+20≤b.length:=by
 unfold ipTakeT at h ⊢
 split
 ·rw[if_pos (by assumption)]at h;cases h
 rw[if_neg (by assumption)]at h
 split
 ·rw[if_pos (by assumption)]at h;cases h
 rw[if_neg (by assumption)]at h
 split
 ·rw[if_pos (by assumption)]at h;cases h
 rw[if_neg (by assumption)]at h
 split
 ·rw[if_pos (by assumption)]at h;cases h
 rw[if_neg (by assumption)]at h
 split
 ·rw[if_pos (by assumption)]at h;cases h
 have l1:=(bAt b 1).toNat_lt
 have l8:=(bAt b 8).toNat_lt
 have l9:=(bAt b 9).toNat_lt
 have n4:=Hu b 4 2
 have n12:=Hu b 12 4
 have n16:=Hu b 16 4
 refine⟨⟨?_,?_,?_,?_,?_,?_⟩,?_⟩
 ·show (bAt b 1).toNat≤255;omega
 ·show numAt b 4 2≤65535;omega
 ·show (bAt b 8).toNat≤255;omega
 ·show (bAt b 9).toNat≤255;omega
 ·exact n12
 ·exact n16
 ·show ((b.take (numAt b 2 2)).drop 20).length+20≤b.length
  rw[List.length_drop,List.length_take]
  omega
theorem Aua {b:List UInt8} (h:(ipTakeT b).2≠0):(ipTakeT b).1=noP:=by
 unfold ipTakeT at h ⊢
 split
 ·rfl
 rw[if_neg (by assumption)]at h
 split
 ·rfl
 rw[if_neg (by assumption)]at h
 split
 ·rfl
 rw[if_neg (by assumption)]at h
 split
 ·rfl
 rw[if_neg (by assumption)]at h
 split
 ·rfl
 rw[if_neg (by assumption)]at h
 exact absurd E h
theorem Ajs:PacketOK noP:=⟨by decide,by decide,by decide,by decide,by decide,by decide⟩
theorem Ta:∀ (l:List Nat) (j:Nat),j≤l.length→(∀ n∈l,n<4294967296)→Hq (Cb l) j=((l.take j).map (· % 65536)).sum
 | l,0,_,_=>by simp[Hq]
 | l,j+1,h,hl=>by
  have ih:=Ta l j qn hl
  have hj:j<l.length:=by omega
  have e1:(Cb l).getD (2 * j) 0=UInt8.ofNat (l[j] / 256)∧(Cb l).getD (2 * j+1) 0=UInt8.ofNat l[j]:=by
   clear ih hl
   induction l generalizing j with
   | nil=>simp at hj
   | cons a l ih2 =>
    cases j with
    | zero=>simp[Cb]
    | succ j =>
     have:=ih2 j (by simpa using h) (by simpa using hj)
     rw[Cb,List.flatMap_cons,show 2 * (j+1)+1=(2 * j+1)+1+1 by omega,show 2 * (j+1)=2 * j+1+1 by omega]
     simpa [Cb] using this
  rw[Hq,ih,e1.1,e1.2,List.take_succ_eq_append_getElem hj,List.map_append,List.sum_append]
  have hx:=hl l[j] (List.getElem_mem hj)
  generalize l[j]=x at *
  simp only[List.map_cons,List.map_nil,List.sum_cons,List.sum_nil,Ig]
  omega
def Sf (p:PacketM):List UInt8:=[69,UInt8.ofNat p.tos]++be 2 (20+p.body.length)++be 2 p.id++[0,0,UInt8.ofNat p.ttl,UInt8.ofNat p.proto]++(be 4 p.src++be 4 p.dst)
theorem Qg (p:PacketM):(Sf p).length=18:=by simp[Sf,Au]
theorem be2 (m:Nat):be 2 m=Cb [m]:=by simp[be,Cb]
theorem be4 (m:Nat):be 4 m=Cb [m / 65536,m]:=by simp[be,Cb,Nat.div_div_eq_div_mul]
theorem Abp {p:PacketM} (hp:PacketOK p):Sf p=Cb [17664+p.tos,20+p.body.length,p.id,0,p.ttl * 256+p.proto,p.src / 65536,p.src,p.dst / 65536,p.dst]:=by
 have h1:=hp.tos
 have h2:=hp.proto
 have h3:=hp.ttl
 have e1:(17664+p.tos) / 256=69:=by omega
 have e2:UInt8.ofNat (17664+p.tos)=UInt8.ofNat p.tos:=by apply UInt8.toNat_inj.1;simp
 have e3:(p.ttl * 256+p.proto) / 256=p.ttl:=by omega
 have e4:UInt8.ofNat (p.ttl * 256+p.proto)=UInt8.ofNat p.proto:=by apply UInt8.toNat_inj.1;simp
 rw[Sf,be2,be2,be4,be4]
 simp only[Cb,List.flatMap_cons,List.flatMap_nil,List.cons_append,List.nil_append,List.append_nil,e1,e2,e3,e4]
 rfl
theorem Aft {p:PacketM} (hp:PacketOK p) (hb:p.body.length≤1480) (s:Nat) (hs:s≤65535):∀ n∈[17664+p.tos,20+p.body.length,p.id,0,p.ttl * 256+p.proto,s,p.src / 65536,p.src,p.dst / 65536,p.dst],n<4294967296:=by
 have h1:=hp.tos
 have h2:=hp.proto
 have h3:=hp.ttl
 have h4:=hp.id
 have h5:=hp.src
 have h6:=hp.dst
 intro n hn
 simp only[List.mem_cons,List.not_mem_nil,or_false]at hn
 rcases hn with rfl | rfl | rfl | rfl | rfl | rfl | rfl | rfl | rfl | rfl<;>omega
theorem Aha {p:PacketM} (hp:PacketOK p) (hb:p.body.length≤1480):Hj (Sf p)=Mh p:=by
 have hw:=Aft hp hb 0 qy
 rw[Mh,Hj,Hj,Qg,Ly,Abp hp,Ia]
 rw[show 18 / 2=9 from rfl,show 20 / 2=10 from rfl,Ta _ 9 qz (fun n hn=>hw n (by
  simp only[List.mem_cons,List.not_mem_nil,or_false]at hn ⊢
  rcases hn with h | h | h | h | h | h | h | h | h<;>simp[h])),Ta _ 10 qz hw]
 simp
theorem Ahb {p:PacketM} (hp:PacketOK p):[69,UInt8.ofNat p.tos]++be 2 (20+p.body.length)++be 2 p.id++[0,0,UInt8.ofNat p.ttl,UInt8.ofNat p.proto]++be 2 (Mh p)++(be 4 p.src++be 4 p.dst)=Ia p (Mh p):=by
 have h1:=hp.tos
 have h2:=hp.proto
 have h3:=hp.ttl
 have e1:(17664+p.tos) / 256=69:=by omega
 have e2:UInt8.ofNat (17664+p.tos)=UInt8.ofNat p.tos:=by apply UInt8.toNat_inj.1;simp
 have e3:(p.ttl * 256+p.proto) / 256=p.ttl:=by omega
 have e4:UInt8.ofNat (p.ttl * 256+p.proto)=UInt8.ofNat p.proto:=by apply UInt8.toNat_inj.1;simp
 rw[Ia,be2,be2,be2,be4,be4]
 simp only[Cb,List.flatMap_cons,List.flatMap_nil,List.cons_append,List.nil_append,List.append_nil,e1,e2,e3,e4]
 rfl
theorem Aj8 (p:PacketM) (s:Nat):((Ia p 0).set 10 (UInt8.ofNat (s / 256))).set 11 (UInt8.ofNat s)=Ia p s:=by
 simp only[Ia,Cb,List.flatMap_cons,List.flatMap_nil,List.cons_append,List.nil_append,List.set_cons_succ,List.set_cons_zero]
theorem Afb (a b v:Nat) (f:FrameM) (ha:a<4294967296) (hb:b<4294967296):PacketOK (Ou a b v f):=⟨Nat.zero_le _,Nat.zero_le _,by show (64:Nat)≤255;decide,by show (17:Nat)≤255;decide,ha,hb⟩
theorem Io (a b v:Nat) (f:FrameM):(Ou a b v f).body.length=30+f.body.length:=by
 simp only[Ou,Afn,List.length_append,Er,Ie];omega
theorem Adm (a b:Nat) (v:Int) (f:FrameM):(wrapT a b v f).1.length≤1514:=by
 unfold wrapT
 split
 ·simp
 split
 ·simp
 split
 ·simp
 ·simp only[frame,List.length_append,Au,Qh,Io,List.length_cons,List.length_nil];omega
theorem Aeg (n:Net) (dom peer:Int) (f:FrameM):(meshT n dom peer f).1.length≤1514:=by
 unfold meshT
 split
 ·simp
 split
 ·simp
 ·exact Adm _ _ _ _
theorem Asb {b:List UInt8}:(udpTakeT b).2.2.1.length≤b.length:=by
 unfold udpTakeT
 repeat' split
 all_goals first | (simp;done) | (simp only[List.length_drop,List.length_take];omega)
theorem vniT_body {b:List UInt8}:(vniT b).2.1.length≤b.length:=by
 unfold vniT
 repeat' split
 all_goals first | (simp;done) | (simp only[List.length_drop];omega)
theorem Wg (b:List UInt8):PacketOK (outerT b).1∧(outerT b).1.body.length≤b.length:=by
 unfold outerT
 split
 ·exact⟨Ajs,by simp[noP]⟩
 split
 ·exact⟨Ajs,by simp[noP]⟩
 split
 ·exact⟨Ajs,by simp[noP]⟩
 ·rename_i h1 h2 h3
  have h4:(takeF b).2=0:=Classical.byContradiction h1
  have h5:(ipTakeT (takeF b).1.body).2=0:=Classical.byContradiction h3
  obtain ⟨h6,h7⟩:=Aac h5
  refine⟨h6,?_⟩
  have h8:(takeF b).1.body.length≤b.length:=by
   unfold takeF
   repeat' split
   all_goals simp[noF]
  dsimp only
  omega
theorem Ac5 (b:List UInt8):FrameOK (innerT b).2.1∧0≤(innerT b).1:=by
 unfold innerT
 repeat' split
 all_goals first | exact⟨Ea,Int.le_refl _⟩ | skip
 rename_i h1 h2 h3 h4 h5
 refine⟨Afp (Classical.byContradiction h4),?_⟩
 show 0≤(vniT (udpTakeT b).2.2.1).1
 unfold vniT
 repeat' split
 all_goals omega
theorem Tb (b:List UInt8):(unwrapT b).1<4294967296∧(unwrapT b).2.1<4294967296∧0≤(unwrapT b).2.2.1∧FrameOK (unwrapT b).2.2.2.1:=by
 unfold unwrapT
 split
 ·exact⟨Nat.zero_lt_succ _,Nat.zero_lt_succ _,Int.le_refl _,Ea⟩
 split
 ·exact⟨Nat.zero_lt_succ _,Nat.zero_lt_succ _,Int.le_refl _,Ea⟩
 ·exact⟨(Wg b).1.src,(Wg b).1.dst,(Ac5 _).2,(Ac5 _).1⟩
theorem Ade (n:Net) (port:Int) (f:FrameM) (hf:FrameOK f) (tg:Bool) (vid:Int):FrameOK (Ja n port f tg vid).2.1:=by
 unfold Ja
 split
 ·exact Ea
 split
 ·exact Ea
 ·exact hf
theorem Sj (n:Net) (port:Int) (b:List UInt8):FrameOK (enterT n port b).2.1:=by
 unfold enterT
 split
 ·exact Ea
 split
 ·exact Ea
 rename_i h1 h2
 have h3:=Afp (Classical.byContradiction h2)
 split
 ·split
  ·exact Ea
  ·rename_i h5
   exact Ade _ _ _ (Ape h3 (Classical.byContradiction h5)) _ _
 ·exact Ade _ _ _ h3 _ _
theorem Z3 (n:Net) (port:Int) (b:List UInt8):FrameOK (linkT n port b).2.2.1:=by
 unfold linkT
 split
 ·exact Ea
 ·exact Sj _ _ _
theorem Aa3 (n:Net) (b:List UInt8):FrameOK (comeT n b).2.2.1:=by
 unfold comeT
 split
 ·exact Ea
 split
 ·exact Ea
 split
 ·exact Ea
 split
 ·exact Ea
 ·exact(Tb b).2.2.2
theorem Ate (n:Net) (hm:n.Num) (irb:Int) (f:FrameM) (hin:∀ (d:Int),(lookT n irb d).2=true→0≤(lookT n irb d).1∧(lookT n irb d).1.toNat<n.irbs.length):FrameOK (hopT n irb f).2.1:=by
 unfold hopT
 split
 ·exact Ea
 split
 ·exact Ea
 split
 ·exact Ea
 split
 ·exact Ea
 split
 ·exact Ea
 split
 ·exact Ea
 rename_i h1 h2 h3 h4 h5 h6
 have hp:=(Aac (Classical.byContradiction h3)).1
 have hl:=hin ((ipTakeT f.body).1.dst:Int) (by simpa using h5)
 have ha:=hm.addr _ (List.getElem_mem hl.2)
 rw[← Ak hl.2]at ha
 refine⟨Aah _ hp.dst,?_,?_,?_⟩
 ·show Ec (nth n.irbs _).addr<_
  rw[Ec];omega
 ·show (2048:Nat)≤65535;decide
 ·show (U8 (Ahe (ipTakeT f.body).1)).length≤1504
  rw[Qh]
  show 20+(ipTakeT f.body).1.body.length≤1504
  omega
end Go.Sy.YteinjapglfkamaaGreat
namespace Go.Sy
structure Meth (P:Program) (t:TypeId) (name:String) (f:FuncId) (pr:Bool) (e:TypeId):Prop where
 row:∃ i m,P.info? t=some i∧i.methods.find? (·.name == name)=some m∧m.path=#[]∧m.func=some (f,pr)
 under:P.underlying t=some (.pointer e)
theorem Za {P:Program} {t:TypeId} {name:String} {f:FuncId} {e:TypeId} (hm:Meth P t name f true e) (w:World) (v:Value):(Go.method (P.types.size+Made.depth) t v name).run P w=.ok (f,v) w:=by
 obtain ⟨⟨i,m,h1,h2,h3,h4⟩,hu⟩:=hm
 show (Go.method (P.types.size+99+1) t v name).run P w=_
 rw[Go.method]
 simp only[Sem.run_bind,run_typeInfo w h1,Result.andThen_ok,h2,h3,Go.follow,Sem.run_pure,h4,Go.receiverAt,run_underlying hu,Go.Place.get]
theorem Y9 {P:Program} {t:TypeId} {name:String} {f:FuncId} {e:TypeId} (hm:Meth P t name f false e) (w:World) (a:Addr) {v:Value} (hv:(loadVar e a).run P w=.ok v w):(Go.method (P.types.size+Made.depth) t (.pointer (some a)) name).run P w=.ok (f,v) w:=by
 obtain ⟨⟨i,m,h1,h2,h3,h4⟩,hu⟩:=hm
 show (Go.method (P.types.size+99+1) t (.pointer (some a)) name).run P w=_
 rw[Go.method]
 have he:(#[]:Array FieldStep).isEmpty=true:=rfl
 simp only[Sem.run_bind,run_typeInfo w h1,Result.andThen_ok,h2,h3,Go.follow,Sem.run_pure,h4,Go.receiverAt,run_underlying hu,Go.Place.get,he,if_true]
 have hs : ∀ n : String, (Builtin.ssaWrapNilChk_ #[t] t #[.pointer (some a), strVal "", strVal n]).run P w = .ok (.pointer (some a)) w := fun n => rfl
 simp only[hs,Result.andThen_ok,asAddr,Sem.run_pure,hv]
theorem S8 {P:Program} {o:Oper} {s:SS} {rd:List Nat} {f:FuncId} {fn:Func} {c:Code} {t e:TypeId} {name:String} {x:Operand} {xs:List Operand} {ts:Array TypeId} {y:SV} (hm:Meth P t name f true e) (hf:Fun P f fn c) (h:o.op=.call ⟨.invoke x name,xs.toArray,ts⟩) (hx:ev s x=.ifc t y) :
  Oi P o s rd f (y::xs.map (ev s)) :=
 fun κ a w hr _=>by
  have h1:=hr x (by simp[h,Op.operands,Call.operands])
  rw[hx]at h1
  simp only[Rd]at h1
  obtain ⟨u,e1,e2⟩:=h1
  refine⟨u::xs.map a.eval,?_,?_⟩
  ·have hcall:=J7 hf (u::xs.map a.eval).toArray w
   have hmeth:=Za hm w u
   simp only[execOp,h,resolve,invoke,e1,Sem.run_bind,Sem.run_pure,Result.andThen_ok]at hcall ⊢
   simp only[callMethod]
   rw[← hcall]
   have htk:(xs.map a.eval).take xs.length=xs.map a.eval:=List.take_of_length_le qz
   simp[hmeth,Sem.run_bind,htk]
  ·simp only[RdL]
   exact⟨_,_,E,e2,Ls xs (fun y hy=>hr y (by simp[h,Op.operands,Call.operands,hy]))⟩
theorem Bv {P:Program} (Γ:Ty P) {o:Oper} {s:SS} {f:FuncId} {fn:Func} {c:Code} {t e:TypeId} {ti:TI} {name:String} {x:Operand} {xs:List Operand} {ts:Array TypeId} {k off:Nat} {l:List SV} {z:SV} (hm:Meth P t name f false e) (hf:Fun P f fn c) (h:o.op=.call ⟨.invoke x name,xs.toArray,ts⟩)
  (hx:ev s x=.ifc t (.ptr k off)) (hk:s.h k=.box l) (ht:Γ.get e=some ti) (hz:H8 ti l off=some z):Oi P o s [k] f (z::xs.map (ev s)) :=
 fun κ a w hr ho=>by
  have h1:=hr x (by simp[h,Op.operands,Call.operands])
  rw[hx]at h1
  simp only[Rd]at h1
  obtain ⟨u,e1,e2⟩:=h1
  have hob:=ho k qz
  rw[hk]at hob
  obtain ⟨b,f1,f2⟩:=hob.cellsAt
  rw[f1]at e2
  simp only at e2
  subst e2
  obtain ⟨v,g1,g2⟩:=Kp (P:=P) Γ ht f2 hz
  rw[Nat.zero_add]at g1
  refine⟨v::xs.map a.eval,?_,?_⟩
  ·have hcall:=J7 hf (v::xs.map a.eval).toArray w
   have hmeth:=Y9 hm w ⟨b,off,none⟩ g1
   simp only[execOp,h,resolve,invoke,e1,Sem.run_bind,Sem.run_pure,Result.andThen_ok]at hcall ⊢
   simp only[callMethod]
   rw[← hcall]
   have htk:(xs.map a.eval).take xs.length=xs.map a.eval:=List.take_of_length_le qz
   simp[hmeth,Sem.run_bind,htk]
  ·simp only[RdL]
   exact⟨_,_,E,g2,Ls xs (fun y hy=>hr y (by simp[h,Op.operands,Call.operands,hy]))⟩
theorem Xo {P:Program} (Γ:Ty P) {o:Oper} {s:SS} {x:Operand} {xt t:TypeId} {ti:TI} {y:SV} {ok:Bool} (h:o.op=.typeAssert x xt t ok) (hx:ev s x=.ifc t y) (ht:Γ.get t=some ti) (hk:ti.k matches .bool | .int _ | .string | .slice .. | .struct _ | .ptr | .func) :
  Good P o s ⟨if ok then .tup [y,Ab true] else y,[],[]⟩ :=
 Good.pure fun κ a w _ hr _=>by
  have h1:=hr x (by simp[h,Op.operands])
  rw[hx]at h1
  simp only[Rd]at h1
  obtain ⟨u,e1,e2⟩:=h1
  obtain ⟨d,info,z,k1,k2,_⟩:=Γ.ok t ti ht
  have hni:∀ ms,d≠.interface ms:=by
   obtain ⟨k,n,zz⟩:=ti
   intro ms hd
   subst hd
   cases k<;>simp_all[TK.ok]
  have hrun:(Instr.typeAssert (.iface t u) xt t ok).run P w=.ok (if ok then .tuple #[u,.bool true] else u) w:=by
   cases d<;>first
    | exact absurd rfl (hni _)
    | (cases ok<;>simp[Instr.typeAssert,run_underlying k1])
  refine⟨if ok then .tuple #[u,.bool true] else u,by simp[execOp,h,e1,hrun],?_⟩
  cases ok
  ·exact e2
  ·simp only[if_true,Rd,RdL]
   exact⟨[u,.bool true],E,_,_,E,e2,_,_,E,by simp[Ab,Rd],E⟩
def At8 (P:Program) (t:TypeId) (name:String) (f:FuncId) (pr:Bool):Bool :=
 match P.info? t with
 | some i=>(match i.methods.find? (·.name == name) with
  | some m=>m.path.isEmpty && (match m.func with | some (g,b)=>Nat.beq g f && (b == pr) | none=>false)
  | none=>false)
 | none=>false
theorem Meth.of {P:Program} {t:TypeId} {name:String} {f:FuncId} {pr:Bool} {e:TypeId} (h:At8 P t name f pr=true) (hu:P.underlying t=some (.pointer e)):Meth P t name f pr e:=by
 refine⟨?_,hu⟩
 unfold At8 at h
 split at h
 ·rename_i i hi
  split at h
  ·rename_i m hm
   simp only[Bool.and_eq_true]at h
   obtain ⟨h1,h2⟩:=h
   split at h2
   ·rename_i g b hf
    simp only[Bool.and_eq_true,beq_iff_eq]at h2
    obtain ⟨h3,rfl⟩:=h2
    have h3:=Nat.eq_of_beq_eq_true h3
    subst h3
    exact⟨i,m,hi,hm,by simpa using h1,hf⟩
   ·cases h2
  ·cases h
 ·cases h
end Go.Sy
namespace Go.Sy.YteinjapglfkamaaGreat
open Go.Proofs
attribute [local irreducible] Go.Sy.G Go.Sy.DR
set_option maxRecDepth 20000
set_option maxHeartbeats 4000000
structure Item where
 (root cost dev:Int)
instance:Inhabited Item:=⟨⟨0,0,0⟩⟩
def Bw (x:Item):SV:=.agg [Aa x.root,Aa x.cost,Aa x.dev]
def Ca (x y:Item):Bool:=decide (x.root<y.root) || (x.root == y.root && decide (x.cost<y.cost))
theorem Wc (q:List Item):Sy.Spec Tryz.prog 287 [.sl 3 Bw q] [] (Aa q.length) []:=cT F287 Tryz.ntmps287 fun F hF=>by
 conv=>whnf
 exact dN
theorem Kw (q:List Item) (i j:Nat) (hi:i<q.length) (hj:j<q.length):Sy.Spec Tryz.prog 421 [.sl 3 Bw q,Aa i,Aa j] [] (Ab (Ca q[i] q[j])) []:=cT F421 Tryz.ntmps421 fun F hF=>by
 have e1:q[(i:Int).toNat]'qn=q[i]:=rfl
 have e2:q[(j:Int).toNat]'qn=q[j]:=rfl
 conv=>whnf
 (repeat' (first | (refine⟨fun h=>?_,fun h=>?_⟩<;>(repeat (first | simp only[decide_eq_true_eq]at h | simp only[decide_eq_false_iff_not]at h | simp only[beq_iff_eq]at h | simp only[beq_eq_false_iff_ne]at h))<;>((refine rd qq ?_);(conv=>whnf))) | (refine Aq rfl (.cons .tmp .nil) ?_ rfl) | (refine⟨qq,?_⟩;((conv=>whnf))) | (refine⟨by (omega),by (omega),?_⟩;((conv=>whnf)))))
 all_goals (refine congrArg Ab ?_;clear hF;grind [Ca])
theorem Kv (q:List Item) (i j:Nat) (hi:i<q.length) (hj:j<q.length):Sy.Spec Tryz.prog 424 [.osl 0,Aa i,Aa j] [(0,.row 3 Bw q)] (.tup []) [(0,.row 3 Bw ((q.set i q[j]).set j q[i]))]:=cT F424 Tryz.ntmps424 fun F hF=>by
 have e1:q[(i:Int).toNat]'qn=q[i]:=rfl
 have e2:q[(j:Int).toNat]'qn=q[j]:=rfl
 conv=>whnf
 refine⟨by omega,by omega,?_⟩
 conv=>whnf
 refine⟨E,by omega,?_⟩
 rw[e2]
 conv=>whnf
 refine⟨by omega,by omega,?_⟩
 conv=>whnf
 refine⟨E,by omega,?_⟩
 rw[e1]
 conv=>whnf
 refine⟨by omega,by omega,?_⟩
 conv=>whnf
 refine⟨E,by omega,q[j],E,E,?_⟩
 conv=>whnf
 refine⟨by omega,by simp;omega,?_⟩
 conv=>whnf
 refine⟨E,by simp;omega,q[i],E,E,?_⟩
 conv=>whnf
 refine kW ?_
 exact B3 E .nil [] [(0,.row 3 Bw ((q.set i q[j]).set j q[i]))] (fun _ h=>h) E E ⟨Y,⟨.inl E,E,Y⟩,E,E⟩
theorem Ajb (q:List Item) (x:Item) (hq:q.length<1000000):Sy.Spec Tryz.prog 423 [.ptr 0 0,.ifc 402 (Bw x)] [(0,.box [.osl 1]),(1,.row 3 Bw q)] (.tup []) [(0,.box [.osl 2]),(1,.non),(2,.row 3 Bw (q++[x]))]:=cT F423 Tryz.ntmps423 fun F hF=>by
 conv=>whnf
 refine Ad (Xo Γ.toTy E E E E) E E ?_
 refine oT ?_
 refine Bd (Ac Γ.toTy 18 E E E E E (.row E) (.lit (l:=[x]) E E) qz (by simp;omega) (by simp;omega)) qq E ?_
 refine oD ?_
 refine kW ?_
 exact B3 E .nil [(2,18)] [(0,.box [.osl 2]),(1,.non),(2,.row 3 Bw (q++[x]))] (fun _ h=>h) E E ⟨Y,⟨.inl E,E,.inl E,E,.inl E,E,Y⟩,E,E⟩
theorem Ank (q:List Item) (hq:q≠[]) (hl:q.length<1000000):Sy.Spec Tryz.prog 422 [.ptr 0 0] [(0,.box [.osl 1]),(1,.row 3 Bw q)] (.ifc 402 (Bw (q.getLast hq))) [(0,.box [.osl 2]),(1,.non),(2,.row 3 Bw q.dropLast)]:=cT F422 Tryz.ntmps422 fun F hF=>by
 have h0:0<q.length:=List.length_pos_iff.2 hq
 have e1:q[((q.length:Int)-1).toNat]'qn=q.getLast hq:=by
  rw[List.getLast_eq_getElem]
  congr 1
  omega
 conv=>whnf
 refine iW ?_
 refine⟨by omega,by omega,?_⟩
 conv=>whnf
 refine⟨E,by omega,?_⟩
 rw[e1]
 conv=>whnf
 refine kW ?_
 refine iW ?_
 refine Bd (Aak Γ.toTy (d:=23) (hi:=q.length-1) E E E E E qy E (.inl ⟨E,E⟩) (.inr ⟨_,_,E,congrArg (fun z=>SV.val (.int .i64 z)) qn⟩) qn) qq E ?_
 rw[← List.dropLast_eq_take]
 refine oD ?_
 refine kW ?_
 exact done E (.cons .tmp .nil) [(2,23)] [(0,.box [.osl 2]),(1,.non),(2,.row 3 Bw q.dropLast)] (fun _ h=>h) E E ⟨Y,⟨.inl E,E,.inl E,E,.inl E,E,Y⟩,E,E⟩
end Go.Sy.YteinjapglfkamaaGreat
namespace Go.Sy.YteinjapglfkamaaGreat
open Go.Proofs
attribute [local irreducible] Go.Sy.G Go.Sy.DR
set_option maxRecDepth 100000
set_option maxHeartbeats 4000000
theorem mLen : Meth Tryz.prog 397 "Len" 287 false 399 := .of (by kernel_rfl) Tryz.underlying397
theorem Agy : Meth Tryz.prog 397 "Less" 421 false 399 := .of (by kernel_rfl) Tryz.underlying397
theorem Agx : Meth Tryz.prog 397 "Swap" 424 false 399 := .of (by kernel_rfl) Tryz.underlying397
theorem mPush : Meth Tryz.prog 397 "Push" 423 true 399 := .of (by kernel_rfl) Tryz.underlying397
theorem mPop : Meth Tryz.prog 397 "Pop" 422 true 399 := .of (by kernel_rfl) Tryz.underlying397
def D8 (q:List Item) (i j:Nat):List Item:=(q.set i (q.getD j default)).set j (q.getD i default)
theorem A6 (q:List Item) (i j:Nat):(D8 q i j).length=q.length:=by simp[D8]
def upF:Nat→List Item→Nat→List Item
 | 0,q,_=>q
 | n+1,q,j=>if j=0 then q else if Ca (q.getD j default) (q.getD ((j-1) / 2) default) then upF n (D8 q ((j-1) / 2) j) ((j-1) / 2) else q
theorem Afl:∀ (n m:Nat) (q:List Item) (j:Nat),j≤n→j≤m→upF n q j=upF m q j
 | 0,m,q,j,h,_=>by
  have:j=0:=by omega
  subst this
  cases m<;>simp[upF]
 | n+1,0,q,j,_,h=>by
  have:j=0:=by omega
  subst this
  simp[upF]
 | n+1,m+1,q,j,h1,h2=>by
  rw[upF,upF]
  split
  ·rfl
  ·split
   ·exact Afl n m _ _ qn qn
   ·rfl
theorem Ao1 (r:List Item):∀ (i:Nat),i≠0→upF i r i=if Ca (r.getD i default) (r.getD ((i-1) / 2) default) then upF ((i-1) / 2) (D8 r ((i-1) / 2) i) ((i-1) / 2) else r
 | 0,h=>absurd rfl h
 | m+1,_=>by
  rw[upF,if_neg qn]
  split
  ·exact Afl _ _ _ _ qn qn
  ·rfl
theorem upS (q:List Item) (j:Nat) (hj:j<q.length) (hl:q.length<1000000) :
  Sy.Spec Tryz.prog 336 [.ifc 397 (.ptr 0 0),Aa j] [(0,.box [.osl 1]),(1,.row 3 Bw q)] (.tup []) [(0,.box [.osl 1]),(1,.row 3 Bw (upF j q j))]:=cT F336 Tryz.ntmps336 fun F hF=>by
 conv=>whnf
 refine Q2 (α:={p:List Item × Nat // upF p.2 p.1 p.2=upF j q j∧p.1.length=q.length∧p.2<p.1.length}) (fun p=>[(0,.ifc 397 (.ptr 0 0)),(1,Aa p.1.2)]) (fun p=>[(0,.box [.osl 1]),(1,.row 3 Bw p.1.1)]) (fun p=>p.1.2) ⟨(q,j),E,E,hj⟩ []
  ⟨⟨rfl,rfl,rfl,rfl,trivial⟩,⟨.inl rfl,rfl,.inl rfl,rfl,trivial⟩,rfl,rfl⟩ ?_
 rintro ⟨⟨r,i⟩,h1,h2,h3⟩
 simp only at h1 h2 h3
 dsimp only
 have hw:IntKind.i64.wrap (((i:Int)-1).tdiv 2)=(((i-1) / 2:Nat):Int):=by
  rcases Nat.eq_zero_or_pos i with h0 | h0
  ·subst h0;rfl
  ·have:((i:Int)-1)=((i-1:Nat):Int):=by omega
   rw[this,Int.tdiv_eq_ediv_of_nonneg qn,IntKind.wrap_i64]
   omega
 refine oO ?_
 refine iW ?_
 refine⟨by decide,?_⟩
 rw[hw]
 conv=>whnf
 refine⟨fun h=>?_,fun h=>?_⟩
 ·have h0:i=0:=by
   have:(((i-1) / 2:Nat):Int)=i:=by simpa using h
   omega
  subst h0
  have e:upF j q j=r:=by rw[← h1];rfl
  rw[e]
  refine oT ?_
  exact B3 E .nil [] [(0,.box [.osl 1]),(1,.row 3 Bw r)] (fun _ h=>h) E E ⟨Y,⟨.inl E,E,.inl E,E,Y⟩,E,E⟩
 have h0:i≠0:=by
  intro h0
  subst h0
  exact absurd h qy
 have hp:(i-1) / 2<r.length:=by omega
 have hless:=Kw r i ((i-1) / 2) h3 hp
 refine oO ?_
 refine Ad (Eh [1] (Bv Γ.toTy Agy F421 E E E E E) hless (.cons (.row E E) (.cons (.refl _) (.cons (.refl _) .nil))) E E) E E ?_
 refine oO ?_
 have hu:upF i r i=if Ca r[i] r[(i-1) / 2] then upF ((i-1) / 2) (D8 r ((i-1) / 2) i) ((i-1) / 2) else r:=by
  rw[Ao1 r i h0,A9 h3,A9 hp]
 refine⟨fun h=>?_,fun h=>?_⟩
 ·have hlt:Ca r[i] r[(i-1) / 2]=false:=by simpa using h
  have e:upF j q j=r:=by rw[← h1,hu,hlt];rfl
  rw[e]
  refine oO ?_
  exact B3 E .nil [] [(0,.box [.osl 1]),(1,.row 3 Bw r)] (fun _ h=>h) E E ⟨Y,⟨.inl E,E,.inl E,E,Y⟩,E,E⟩
 have hlt:Ca r[i] r[(i-1) / 2]=true:=by simpa using h
 rw[hlt,if_pos rfl]at hu
 have hsw:=Kv r ((i-1) / 2) i hp h3
 have e:(r.set ((i-1) / 2) r[i]).set i r[(i-1) / 2]=D8 r ((i-1) / 2) i:=by
  rw[D8,A9 h3,A9 hp]
 rw[e]at hsw
 refine oO ?_
 refine Ad (A5 [(0,1)] (Bv Γ.toTy Agx F424 E E E E E) hsw E ⟨E,Y⟩ E ⟨.inl E,Y⟩) E E ?_
 refine oO ?_
 exact S9 (α:={p:List Item × Nat // upF p.2 p.1 p.2=upF j q j∧p.1.length=q.length∧p.2<p.1.length}) (L:=fun p=>[(0,.ifc 397 (.ptr 0 0)),(1,Aa p.1.2)]) (O:=fun p=>[(0,.box [.osl 1]),(1,.row 3 Bw p.1.1)]) (μ:=fun p=>p.1.2) (x:=⟨(r,i),h1,h2,h3⟩)
  ⟨(D8 r ((i-1) / 2) i,(i-1) / 2),by rw[← h1,hu],by rw[A6];exact h2,by rw[A6];exact hp⟩ [] (by simp only;omega)
  ⟨⟨rfl,rfl,rfl,rfl,trivial⟩,⟨.inl rfl,rfl,.inl rfl,rfl,trivial⟩,rfl,rfl⟩
theorem Yu:∀ (n:Nat) (q:List Item) (j:Nat),(upF n q j).length=q.length
 | 0,q,j=>rfl
 | n+1,q,j=>by
  rw[upF]
  split
  ·rfl
  ·split
   ·rw[Yu n,A6]
   ·rfl
def S0 (q:List Item) (x:Item):List Item:=upF q.length (q++[x]) q.length
theorem Ac7 (q:List Item) (x:Item) (hl:q.length<999999) :
  Sy.Spec Tryz.prog 286 [.ifc 397 (.ptr 0 0),.ifc 402 (Bw x)] [(0,.box [.osl 1]),(1,.row 3 Bw q)] (.tup []) [(0,.box [.osl 2]),(1,.non),(2,.row 3 Bw (S0 q x))]:=cT F286 Tryz.ntmps286 fun F hF=>by
 have hpush:=Ajb q x qn
 have hlen:=Wc (q++[x])
 have hup:=upS (q++[x]) q.length qz (by simp;omega)
 have hln:(((q++[x]).length:Nat):Int)-1=(q.length:Int):=by simp
 conv=>whnf
 refine Ad (A5 (rd:=[]) [(2,6)] (S8 mPush F423 E E) hpush E ⟨E,E,Y⟩ E ⟨.inl E,.inl E,.inr E,Y⟩) E E ?_
 refine oO ?_
 refine Ad (Eh [6] (Bv Γ.toTy mLen F287 E E E E E) hlen (.cons (.row E E) .nil) E E) E E ?_
 refine oO ?_
 refine⟨by unfold I64;simp;omega,?_⟩
 rw[hln]
 conv=>whnf
 refine Ad (Af [(1,6)] E F336 hup E ⟨E,E,Y⟩ E ⟨.inl E,.inl E,Y⟩) E E ?_
 refine oO ?_
 exact B3 E .nil [(2,6)] [(0,.box [.osl 2]),(1,.non),(2,.row 3 Bw (S0 q x))] (fun _ h=>h) E E ⟨Y,⟨.inl E,E,.inl E,E,.inl E,E,Y⟩,E,E⟩
def D2 (q:List Item) (i n:Nat):Nat:=if 2 * i+2<n∧Ca (q.getD (2 * i+2) default) (q.getD (2 * i+1) default)=true then 2 * i+2 else 2 * i+1
theorem Mo (q:List Item) (i n:Nat) (h:2 * i+1<n):D2 q i n<n∧i<D2 q i n:=by
 unfold D2
 split<;>omega
def D6:Nat→List Item→Nat→Nat→List Item × Nat
 | 0,q,i,_=>(q,i)
 | f+1,q,i,n=>if 2 * i+1<n then (if Ca (q.getD (D2 q i n) default) (q.getD i default) then D6 f (D8 q i (D2 q i n)) (D2 q i n) n else (q,i)) else (q,i)
theorem T5:∀ (f g:Nat) (q:List Item) (i n:Nat),n≤f+i→n≤g+i→D6 f q i n=D6 g q i n
 | 0,g,q,i,n,h1,h2=>by
  cases g with
  | zero=>rfl
  | succ g=>rw[D6,D6,if_neg qn]
 | f+1,0,q,i,n,h1,h2=>by rw[D6,D6,if_neg qn]
 | f+1,g+1,q,i,n,h1,h2=>by
  rw[D6,D6]
  split
  ·rename_i h
   have:=Mo q i n h
   split
   ·exact T5 f g _ _ n qn qn
   ·rfl
  ·rfl
theorem Aku (r:List Item) (i n:Nat):D6 (n-i) r i n=if 2 * i+1<n then (if Ca (r.getD (D2 r i n) default) (r.getD i default) then D6 (n-D2 r i n) (D8 r i (D2 r i n)) (D2 r i n) n else (r,i)) else (r,i):=by
 rw[T5 (n-i) (n-i+1) r i n qn qn,D6]
 split
 ·rename_i h
  have:=Mo r i n h
  split
  ·exact T5 _ _ _ _ _ qn qn
  ·rfl
 ·rfl
theorem Vo:∀ (f:Nat) (q:List Item) (i n:Nat),(D6 f q i n).1.length=q.length
 | 0,_,_,_=>rfl
 | f+1,q,i,n=>by
  rw[D6]
  split
  ·split
   ·rw[Vo f,A6]
   ·rfl
  ·rfl
theorem downS (q:List Item) (i0 n:Nat) (hn:n≤q.length) (hi:i0<q.length) (hl:q.length<1000000) :
  Sy.Spec Tryz.prog 337 [.ifc 397 (.ptr 0 0),Aa i0,Aa n] [(0,.box [.osl 1]),(1,.row 3 Bw q)] (Ab (decide (((D6 (n-i0) q i0 n).2:Int)>i0))) [(0,.box [.osl 1]),(1,.row 3 Bw (D6 (n-i0) q i0 n).1)]:=cT F337 Tryz.ntmps337 fun F hF=>by
 generalize hD:D6 (n-i0) q i0 n=D
 conv=>whnf
 refine Q2 (α:={p:List Item × Nat // D6 (n-p.2) p.1 p.2 n=D∧p.1.length=q.length∧p.2<p.1.length}) (fun p=>[(0,.ifc 397 (.ptr 0 0)),(1,Aa i0),(2,Aa n),(7,Aa p.1.2)]) (fun p=>[(0,.box [.osl 1]),(1,.row 3 Bw p.1.1)]) (fun p=>n-p.1.2) ⟨(q,i0),hD,E,hi⟩ []
  ⟨⟨rfl,rfl,rfl,rfl,rfl,rfl,rfl,rfl,trivial⟩,⟨.inl rfl,rfl,.inl rfl,rfl,trivial⟩,rfl,rfl⟩ ?_
 rintro ⟨⟨r,i⟩,h1,h2,h3⟩
 simp only at h1 h2 h3
 dsimp only
 have h10:=h1
 rw[Aku]at h1
 have hj1:(2:Int) * i+1=((2 * i+1:Nat):Int):=by omega
 have hj2:((2 * i+1:Nat):Int)+1=((2 * i+2:Nat):Int):=by omega
 refine oO ?_
 refine iW ?_
 refine iL ?_
 rw[hj1]
 conv=>whnf
 refine⟨fun h=>?_,fun h=>?_⟩
 ·have hge:¬ 2 * i+1<n:=qA h
  rw[if_neg hge]at h1
  rw[← h1]
  refine oT ?_
  exact done E (.cons .tmp .nil) [] [(0,.box [.osl 1]),(1,.row 3 Bw r)] (fun _ h=>h) E E ⟨Y,⟨.inl E,E,.inl E,E,Y⟩,E,E⟩
 have hlt:2 * i+1<n:=qB h
 rw[if_pos hlt]at h1
 refine oF ?_
 refine iL ?_
 rw[hj2]
 conv=>whnf
 refine⟨fun h=>?_,fun h=>?_⟩
 ·have h2n:2 * i+2<n:=qA h
  have hA:2 * i+2<r.length:=by omega
  have hB:2 * i+1<r.length:=by omega
  have hlc:=Kw r (2 * i+2) (2 * i+1) hA hB
  refine oO ?_
  refine Ad (Eh [1] (Bv Γ.toTy Agy F421 E E E E E) hlc (.cons (.row E E) (.cons (.refl _) (.cons (.refl _) .nil))) E E) E E ?_
  refine oO ?_
  refine⟨fun h=>?_,fun h=>?_⟩
  ·have hc:D2 r i n=2 * i+2:=by rw[D2,if_pos ⟨h2n,by rw[A9 hA,A9 hB];exact h⟩]
   have hJ:=hA
   refine oO ?_
   rw[hc,A9 hJ,A9 h3]at h1
   have hls:=Kw r (2 * i+2) i hJ h3
   refine Ad (Eh [1] (Bv Γ.toTy Agy F421 E E E E E) hls (.cons (.row E E) (.cons (.refl _) (.cons (.refl _) .nil))) E E) E E ?_
   refine oO ?_
   refine⟨fun h=>?_,fun h=>?_⟩
   ·have hf:Ca r[2 * i+2] r[i]=false:=by simpa using h
    rw[hf]at h1
    have e:D=(r,i):=h1.symm
    rw[e]
    refine oO ?_
    exact done E (.cons .tmp .nil) [] [(0,.box [.osl 1]),(1,.row 3 Bw r)] (fun _ h=>h) E E ⟨Y,⟨.inl E,E,.inl E,E,Y⟩,E,E⟩
   have hf:Ca r[2 * i+2] r[i]=true:=by simpa using h
   rw[hf,if_pos rfl]at h1
   have hsw:=Kv r i (2 * i+2) h3 hJ
   have e:(r.set i r[2 * i+2]).set (2 * i+2) r[i]=D8 r i (2 * i+2):=by
    rw[D8,A9 h3,A9 hJ]
   rw[e]at hsw
   refine oO ?_
   refine Ad (A5 [(0,1)] (Bv Γ.toTy Agx F424 E E E E E) hsw E ⟨E,Y⟩ E ⟨.inl E,Y⟩) E E ?_
   refine oO ?_
   exact S9 (α:={p:List Item × Nat // D6 (n-p.2) p.1 p.2 n=D∧p.1.length=q.length∧p.2<p.1.length}) (L:=fun p=>[(0,.ifc 397 (.ptr 0 0)),(1,Aa i0),(2,Aa n),(7,Aa p.1.2)]) (O:=fun p=>[(0,.box [.osl 1]),(1,.row 3 Bw p.1.1)]) (μ:=fun p=>n-p.1.2) (x:=⟨(r,i),h10,h2,h3⟩)
    ⟨(D8 r i (2 * i+2),2 * i+2),h1,by rw[A6];exact h2,by rw[A6];exact hJ⟩ [] (by simp only;omega)
    ⟨⟨rfl,rfl,rfl,rfl,rfl,rfl,rfl,rfl,trivial⟩,⟨.inl rfl,rfl,.inl rfl,rfl,trivial⟩,rfl,rfl⟩
  ·have hc:D2 r i n=2 * i+1:=by rw[D2,if_neg (fun hh=>by rw[A9 hA,A9 hB,h]at hh;exact absurd hh.2 qz)]
   have hJ:=hB
   refine oO ?_
   rw[hc,A9 hJ,A9 h3]at h1
   have hls:=Kw r (2 * i+1) i hJ h3
   refine Ad (Eh [1] (Bv Γ.toTy Agy F421 E E E E E) hls (.cons (.row E E) (.cons (.refl _) (.cons (.refl _) .nil))) E E) E E ?_
   refine oO ?_
   refine⟨fun h=>?_,fun h=>?_⟩
   ·have hf:Ca r[2 * i+1] r[i]=false:=by simpa using h
    rw[hf]at h1
    have e:D=(r,i):=h1.symm
    rw[e]
    refine oO ?_
    exact done E (.cons .tmp .nil) [] [(0,.box [.osl 1]),(1,.row 3 Bw r)] (fun _ h=>h) E E ⟨Y,⟨.inl E,E,.inl E,E,Y⟩,E,E⟩
   have hf:Ca r[2 * i+1] r[i]=true:=by simpa using h
   rw[hf,if_pos rfl]at h1
   have hsw:=Kv r i (2 * i+1) h3 hJ
   have e:(r.set i r[2 * i+1]).set (2 * i+1) r[i]=D8 r i (2 * i+1):=by
    rw[D8,A9 h3,A9 hJ]
   rw[e]at hsw
   refine oO ?_
   refine Ad (A5 [(0,1)] (Bv Γ.toTy Agx F424 E E E E E) hsw E ⟨E,Y⟩ E ⟨.inl E,Y⟩) E E ?_
   refine oO ?_
   exact S9 (α:={p:List Item × Nat // D6 (n-p.2) p.1 p.2 n=D∧p.1.length=q.length∧p.2<p.1.length}) (L:=fun p=>[(0,.ifc 397 (.ptr 0 0)),(1,Aa i0),(2,Aa n),(7,Aa p.1.2)]) (O:=fun p=>[(0,.box [.osl 1]),(1,.row 3 Bw p.1.1)]) (μ:=fun p=>n-p.1.2) (x:=⟨(r,i),h10,h2,h3⟩)
    ⟨(D8 r i (2 * i+1),2 * i+1),h1,by rw[A6];exact h2,by rw[A6];exact hJ⟩ [] (by simp only;omega)
    ⟨⟨rfl,rfl,rfl,rfl,rfl,rfl,rfl,rfl,trivial⟩,⟨.inl rfl,rfl,.inl rfl,rfl,trivial⟩,rfl,rfl⟩
 ·have h2n:¬ 2 * i+2<n:=qB h
  have hJ:2 * i+1<r.length:=by omega
  have hc:D2 r i n=2 * i+1:=by rw[D2,if_neg (fun hh=>h2n hh.1)]
  refine oF ?_
  rw[hc,A9 hJ,A9 h3]at h1
  have hls:=Kw r (2 * i+1) i hJ h3
  refine Ad (Eh [1] (Bv Γ.toTy Agy F421 E E E E E) hls (.cons (.row E E) (.cons (.refl _) (.cons (.refl _) .nil))) E E) E E ?_
  refine oO ?_
  refine⟨fun h=>?_,fun h=>?_⟩
  ·have hf:Ca r[2 * i+1] r[i]=false:=by simpa using h
   rw[hf]at h1
   have e:D=(r,i):=h1.symm
   rw[e]
   refine oO ?_
   exact done E (.cons .tmp .nil) [] [(0,.box [.osl 1]),(1,.row 3 Bw r)] (fun _ h=>h) E E ⟨Y,⟨.inl E,E,.inl E,E,Y⟩,E,E⟩
  have hf:Ca r[2 * i+1] r[i]=true:=by simpa using h
  rw[hf,if_pos rfl]at h1
  have hsw:=Kv r i (2 * i+1) h3 hJ
  have e:(r.set i r[2 * i+1]).set (2 * i+1) r[i]=D8 r i (2 * i+1):=by
   rw[D8,A9 h3,A9 hJ]
  rw[e]at hsw
  refine oO ?_
  refine Ad (A5 [(0,1)] (Bv Γ.toTy Agx F424 E E E E E) hsw E ⟨E,Y⟩ E ⟨.inl E,Y⟩) E E ?_
  refine oO ?_
  exact S9 (α:={p:List Item × Nat // D6 (n-p.2) p.1 p.2 n=D∧p.1.length=q.length∧p.2<p.1.length}) (L:=fun p=>[(0,.ifc 397 (.ptr 0 0)),(1,Aa i0),(2,Aa n),(7,Aa p.1.2)]) (O:=fun p=>[(0,.box [.osl 1]),(1,.row 3 Bw p.1.1)]) (μ:=fun p=>n-p.1.2) (x:=⟨(r,i),h10,h2,h3⟩)
   ⟨(D8 r i (2 * i+1),2 * i+1),h1,by rw[A6];exact h2,by rw[A6];exact hJ⟩ [] (by simp only;omega)
   ⟨⟨rfl,rfl,rfl,rfl,rfl,rfl,rfl,rfl,trivial⟩,⟨.inl rfl,rfl,.inl rfl,rfl,trivial⟩,rfl,rfl⟩
def Db (q:List Item):List Item:=(D6 (q.length-1-0) (D8 q 0 (q.length-1)) 0 (q.length-1)).1
theorem Eg (q:List Item):(Db q).length=q.length:=by rw[Db,Vo,A6]
theorem D7 {q:List Item} (h:q≠[]):Db q≠[]:=fun e=>h (List.eq_nil_of_length_eq_zero (by rw[← Eg,e];rfl))
theorem Aq3 (q:List Item) (hq:q≠[]) (hl:q.length<1000000) :
  Sy.Spec Tryz.prog 288 [.ifc 397 (.ptr 0 0)] [(0,.box [.osl 1]),(1,.row 3 Bw q)] (.ifc 402 (Bw ((Db q).getLast (D7 hq)))) [(0,.box [.osl 2]),(1,.non),(2,.row 3 Bw (Db q).dropLast)]:=cT F288 Tryz.ntmps288 fun F hF=>by
 have h0:0<q.length:=List.length_pos_iff.2 hq
 have hlen:=Wc q
 have hsw:=Kv q 0 (q.length-1) h0 qn
 have e:(q.set 0 q[q.length-1]).set (q.length-1) q[0]=D8 q 0 (q.length-1):=by
  rw[D8,A9 (show q.length-1<q.length by omega),A9 h0]
 rw[e]at hsw
 have hdn:=downS (D8 q 0 (q.length-1)) 0 (q.length-1) (by rw[A6];omega) (by rw[A6];exact h0) (by rw[A6];exact hl)
 have hpop:=Ank (Db q) (D7 hq) (by rw[Eg];exact hl)
 have hln:(q.length:Int)-1=((q.length-1:Nat):Int):=by omega
 conv=>whnf
 refine Ad (Eh [1] (Bv Γ.toTy mLen F287 E E E E E) hlen (.cons (.row E E) .nil) E E) E E ?_
 refine oO ?_
 refine iL ?_
 rw[hln]
 conv=>whnf
 refine Ad (A5 [(0,1)] (Bv Γ.toTy Agx F424 E E E E E) hsw E ⟨E,Y⟩ E ⟨.inl E,Y⟩) E E ?_
 refine oO ?_
 refine Ad (Af [] E F337 hdn E ⟨E,E,Y⟩ E ⟨.inl E,.inl E,Y⟩) E E ?_
 refine oO ?_
 refine Ad (A5 (rd:=[]) [(2,14)] (S8 mPop F422 E E) hpop E ⟨E,E,Y⟩ E ⟨.inl E,.inl E,.inr E,Y⟩) E E ?_
 refine oO ?_
 exact done E (.cons .tmp .nil) [(2,14)] [(0,.box [.osl 2]),(1,.non),(2,.row 3 Bw (Db q).dropLast)] (fun _ h=>h) E E ⟨Y,⟨.inl E,E,.inl E,E,.inl E,E,Y⟩,E,E⟩
end Go.Sy.YteinjapglfkamaaGreat
namespace Go.Sy.YteinjapglfkamaaGreat
open Go.Proofs
attribute [local irreducible] Go.Sy.G Go.Sy.DR
set_option maxRecDepth 20000
set_option maxHeartbeats 4000000
theorem great1 {n:Net} (h:n.ports.any (fun p=>decide (100<p.tagged.length))=true):Ix n=true:=by simp only[Ix,h,Bool.or_true,Bool.true_or]
theorem great2 {n:Net} (h:n.domains.any (fun p=>decide (100<p.peers.length))=true):Ix n=true:=by simp only[Ix,h,Bool.or_true,Bool.true_or]
theorem great3 {n:Net} (h:n.floods.any (fun p=>decide (100<p.addrs.length))=true):Ix n=true:=by simp only[Ix,h,Bool.or_true,Bool.true_or]
theorem great4 {n:Net} (h:n.vrfs.any (fun v=>decide (100<v.imports.length) || decide (100<v.exports.length))=true):Ix n=true:=by simp only[Ix,h,Bool.or_true]
theorem greatS (n:Net):Sy.Spec Tryz.prog 7 [Aj n] [] (Ab (Ix n)) []:=cT F7 Tryz.ntmps7 fun F hF=>by
 conv=>whnf
 (repeat' (first | (refine⟨fun h=>?_,fun h=>?_⟩<;>(repeat (first | simp only[decide_eq_true_eq]at h | simp only[decide_eq_false_iff_not]at h))<;>((refine oO ?_);repeat((refine aT ?_);(refine oO ?_)))) | (refine Aq rfl (.cons .tmp .nil) ?_ rfl)))
 all_goals first
  | (refine congrArg Ab ?_;clear hF;grind [Ix])
  | skip
 have l1:n.ports.length≤200:=by omega
 have l2:n.domains.length≤200:=by omega
 have l3:n.floods.length≤200:=by omega
 have l4:n.vrfs.length≤200:=by omega
 refine A3 1 8 (Aj n) E E E ?_
 refine Ay n.ports.length (fun j=>Dd (fun _ p=>!(decide (100<p.tagged.length))) n.ports j) (fun j=>[(1,.ref 8 (Aj n) 0),(3,Aa j)]) (fun _=>[]) [] (A2 _ _) ⟨⟨E,E,E,E,Y⟩,Y,E,E⟩ ?_
 intro j hj hI
 refine oO ?_
 refine⟨fun h=>?_,fun h=>?_⟩
 ·have hjl:j<n.ports.length:=by simpa using h
  refine oO ?_
  (repeat' (first | (refine⟨fun h=>?_,fun h=>?_⟩<;>(repeat (first | simp only[decide_eq_true_eq]at h | simp only[decide_eq_false_iff_not]at h))<;>((refine oO ?_))) | (refine Aq rfl (.cons .tmp .nil) ?_ rfl) | (refine⟨qq,?_⟩;((conv=>whnf))) | (refine⟨by (omega),by (omega),?_⟩;((conv=>whnf))) | (refine⟨by (unfold I64;omega),?_⟩;((conv=>whnf))) | refine Av [] hI hjl ?_ ⟨⟨rfl,rfl,rfl,rfl,trivial⟩,trivial,rfl,rfl⟩))
  all_goals (simp only[Int.toNat_natCast]at *)
  ·refine congrArg Ab ?_
   exact great1 (Mq hjl (by simp;omega))
  ·exact A1 hI hjl (by simp;omega)
 have a1:n.ports.any (fun p=>decide (100<p.tagged.length))=false:=Kk hI (by simpa using h)
 clear hI hj h
 refine oO ?_
 refine Ay n.domains.length (fun j=>Dd (fun _ p=>!(decide (100<p.peers.length))) n.domains j) (fun j=>[(1,.ref 8 (Aj n) 0),(4,Aa j)]) (fun _=>[]) [] (A2 _ _) ⟨⟨E,E,E,E,Y⟩,Y,E,E⟩ ?_
 intro j hj hI
 refine oO ?_
 refine⟨fun h=>?_,fun h=>?_⟩
 ·have hjl:j<n.domains.length:=by simpa using h
  refine oO ?_
  (repeat' (first | (refine⟨fun h=>?_,fun h=>?_⟩<;>(repeat (first | simp only[decide_eq_true_eq]at h | simp only[decide_eq_false_iff_not]at h))<;>((refine oO ?_))) | (refine Aq rfl (.cons .tmp .nil) ?_ rfl) | (refine⟨qq,?_⟩;((conv=>whnf))) | (refine⟨by (omega),by (omega),?_⟩;((conv=>whnf))) | (refine⟨by (unfold I64;omega),?_⟩;((conv=>whnf))) | refine Av [] hI hjl ?_ ⟨⟨rfl,rfl,rfl,rfl,trivial⟩,trivial,rfl,rfl⟩))
  all_goals (simp only[Int.toNat_natCast]at *)
  ·refine congrArg Ab ?_
   exact great2 (Mq hjl (by simp;omega))
  ·exact A1 hI hjl (by simp;omega)
 have a2:n.domains.any (fun p=>decide (100<p.peers.length))=false:=Kk hI (by simpa using h)
 clear hI hj h
 refine oO ?_
 refine Ay n.floods.length (fun j=>Dd (fun _ p=>!(decide (100<p.addrs.length))) n.floods j) (fun j=>[(1,.ref 8 (Aj n) 0),(5,Aa j)]) (fun _=>[]) [] (A2 _ _) ⟨⟨E,E,E,E,Y⟩,Y,E,E⟩ ?_
 intro j hj hI
 refine oO ?_
 refine⟨fun h=>?_,fun h=>?_⟩
 ·have hjl:j<n.floods.length:=by simpa using h
  refine oO ?_
  (repeat' (first | (refine⟨fun h=>?_,fun h=>?_⟩<;>(repeat (first | simp only[decide_eq_true_eq]at h | simp only[decide_eq_false_iff_not]at h))<;>((refine oO ?_))) | (refine Aq rfl (.cons .tmp .nil) ?_ rfl) | (refine⟨qq,?_⟩;((conv=>whnf))) | (refine⟨by (omega),by (omega),?_⟩;((conv=>whnf))) | (refine⟨by (unfold I64;omega),?_⟩;((conv=>whnf))) | refine Av [] hI hjl ?_ ⟨⟨rfl,rfl,rfl,rfl,trivial⟩,trivial,rfl,rfl⟩))
  all_goals (simp only[Int.toNat_natCast]at *)
  ·refine congrArg Ab ?_
   exact great3 (Mq hjl (by simp;omega))
  ·exact A1 hI hjl (by simp;omega)
 have a3:n.floods.any (fun p=>decide (100<p.addrs.length))=false:=Kk hI (by simpa using h)
 clear hI hj h
 refine oO ?_
 refine Ay n.vrfs.length (fun j=>Dd (fun _ v=>!(decide (100<v.imports.length) || decide (100<v.exports.length))) n.vrfs j) (fun j=>[(1,.ref 8 (Aj n) 0),(6,Aa j)]) (fun _=>[]) [] (A2 _ _) ⟨⟨E,E,E,E,Y⟩,Y,E,E⟩ ?_
 intro j hj hI
 refine oO ?_
 refine⟨fun h=>?_,fun h=>?_⟩
 ·have hjl:j<n.vrfs.length:=by simpa using h
  refine oO ?_
  (repeat' (first | (refine⟨fun h=>?_,fun h=>?_⟩<;>(repeat (first | simp only[decide_eq_true_eq]at h | simp only[decide_eq_false_iff_not]at h))<;>((refine oO ?_);repeat((refine aT ?_);(refine oO ?_)))) | (refine Aq rfl (.cons .tmp .nil) ?_ rfl) | (refine⟨qq,?_⟩;((conv=>whnf))) | (refine⟨by (omega),by (omega),?_⟩;((conv=>whnf))) | (refine⟨by (unfold I64;omega),?_⟩;((conv=>whnf))) | refine Av [] hI hjl ?_ ⟨⟨rfl,rfl,rfl,rfl,trivial⟩,trivial,rfl,rfl⟩))
  all_goals (simp only[Int.toNat_natCast]at *)
  all_goals first
   | exact A1 hI hjl (by simp;omega)
   | (refine congrArg Ab ?_;exact great4 (Mq hjl (by simp;omega)))
 have a4:n.vrfs.any (fun v=>decide (100<v.imports.length) || decide (100<v.exports.length))=false:=Kk hI (by simpa using h)
 clear hI hj h
 refine oO ?_
 refine Aq E (.cons .tmp .nil) (congrArg Ab ?_) E
 rw[Ix,a1,a2,a3,a4]
 simp
 omega
def noNet:Net:=⟨[],[],[],[],[],[],[],[]⟩
theorem Acq:noNet.Fin:=Vi (by decide +kernel)
def C2:Vec→List Vec→Vec
 | v,[]=>v
 | v,x::l=>C2 (if Cj x v then x else v) l
def At1:Vec:=⟨0,0,0,0,0⟩
def H9:List Vec→Vec × Bool
 | []=>(At1,false)
 | v::l=>(C2 v (v::l),true)
theorem Lj (a:Vec):Cj a a=false:=by simp[Cj]
theorem Ajw {a b:Vec} (h:Cj a b=true):Cj b a=false:=by
 unfold Cj at *
 grind
theorem Tp {a b:Vec} (h:a≠b):Cj a b=true∨Cj b a=true:=by
 obtain ⟨a1,a2,a3,a4,a5⟩:=a
 obtain ⟨b1,b2,b3,b4,b5⟩:=b
 simp only[ne_eq,Vec.mk.injEq]at h
 simp only[Cj]
 grind
theorem To {a b c:Vec} (h1:Cj a b=true) (h2:Cj b c=true):Cj a c=true:=by
 obtain ⟨a1,a2,a3,a4,a5⟩:=a
 obtain ⟨b1,b2,b3,b4,b5⟩:=b
 obtain ⟨c1,c2,c3,c4,c5⟩:=c
 simp only[Cj]at *
 grind
theorem Z4:∀ (v:Vec) (l:List Vec),C2 v l=v∨C2 v l∈l
 | v,[]=>.inl rfl
 | v,x::l=>by
  rw[C2]
  rcases Z4 (if Cj x v then x else v) l with h | h
  ·rw[h]
   split
   ·exact .inr qz
   ·exact .inl E
  ·exact .inr (by simp[h])
theorem Acx:∀ (v:Vec) (l:List Vec),Cj v (C2 v l)=false∧∀ x∈l,Cj x (C2 v l)=false
 | v,[]=>⟨Lj v,by simp⟩
 | v,x::l=>by
  rw[C2]
  obtain ⟨h1,h2⟩:=Acx (if Cj x v then x else v) l
  have key:Cj v (C2 (if Cj x v then x else v) l)=false∧Cj x (C2 (if Cj x v then x else v) l)=false:=by
   generalize C2 (if Cj x v then x else v) l=m at *
   cases hx:Cj x v with
   | true =>
    rw[hx]at h1
    simp only[if_true]at h1
    refine⟨?_,h1⟩
    cases hv:Cj v m with
    | false=>rfl
    | true=>rw[To hx hv]at h1;cases h1
   | false =>
    rw[hx]at h1
    simp only[Bool.false_eq_true,if_false]at h1
    refine⟨h1,?_⟩
    cases hv:Cj x m with
    | false=>rfl
    | true =>
     by_cases hxv:x=v
     ·subst hxv;rw[hv]at h1;cases h1
     ·rcases Tp hxv with h3 | h3
      ·rw[hx]at h3;cases h3
      ·rw[To h3 hv]at h1;cases h1
  refine⟨key.1,fun y hy=>?_⟩
  rcases List.mem_cons.1 hy with rfl | hy
  ·exact key.2
  ·exact h2 y hy
theorem Ag4 (v:Vec) (l:List Vec) (j:Nat) (h:j<l.length):C2 v (l.take (j+1))=(if Cj l[j] (C2 v (l.take j)) then l[j] else C2 v (l.take j)):=by
 have key:∀ (a b:List Vec) (v:Vec),C2 v (a++b)=C2 (C2 v a) b:=by
  intro a
  induction a with
  | nil=>intro b v;rfl
  | cons x a ih=>intro b v;rw[List.cons_append,C2,C2,ih]
 rw[List.take_succ_eq_append_getElem h,key]
 rfl
theorem leastS (l:List Vec) (hl:Ap l):Sy.Spec Tryz.prog 289 [.sl 5 D3 l] [] (.tup [D3 (H9 l).1,Ab (H9 l).2]) []:=cT F289 Tryz.ntmps289 fun F hF=>by
 unfold Ap at hl
 have hR:∀ h:0<l.length,H9 l=(C2 l[0] l,true):=fun h=>by
  cases l with
  | nil=>simp at h
  | cons v t=>rfl
 conv=>whnf
 refine⟨fun h=>?_,fun h=>?_⟩
 ·have:l=[]:=List.eq_nil_of_length_eq_zero (by have:(l.length:Int)=0:=(by simpa using h);omega)
  subst this
  refine oO ?_
  exact done E (.cons (.cell E E E E) (.cons .tmp .nil)) [] [] (fun _ h=>h) E E ⟨Y,Y,E,E⟩
 have h0:0<l.length:=by
  have:¬ (l.length:Int)=0:=by simpa using h
  omega
 rw[hR h0]
 refine oO ?_
 refine⟨E,by decide,h0,?_⟩
 conv=>whnf
 have e0:l[(0:Int).toNat]'(h0)=l[0]:=rfl
 generalize hv:l[0]=v at *
 refine At l.length (fun j=>[(0,.sl 5 D3 l),(2,.ptr 2 0),(4,.ptr 4 0),(14,.sl 5 D3 l),(15,Aa l.length),(16,Aa j)]) (fun j=>[(2,.box [Aa 0,Aa 0,Aa 0,Aa 0,Aa 0]),(4,.box [Aa (C2 v (l.take j)).root,Aa (C2 v (l.take j)).cost,Aa (C2 v (l.take j)).bridge,Aa (C2 v (l.take j)).port,Aa (C2 v (l.take j)).own])]) []
  ⟨⟨rfl,rfl,rfl,rfl,rfl,rfl,rfl,rfl,rfl,rfl,rfl,rfl,trivial⟩,⟨.inl rfl,rfl,.inl (by subst hv;rfl),rfl,trivial⟩,rfl,rfl⟩ ?_
 intro j hj
 refine oO ?_
 refine⟨fun h=>?_,fun h=>?_⟩
 ·have hlt:j<l.length:=by simpa using h
  have hdrop:=Ag4 v l j hlt
  generalize hx:l[j]=x at hdrop
  have hx':l[(j:Int).toNat]'qn=x:=hx
  generalize hmn:C2 v (l.take j)=m at hdrop
  refine oO ?_
  refine⟨E,by omega,by omega,?_⟩
  rw[hx']
  conv=>whnf
  refine c0 (lessS x m) F338 ?_
  refine oO ?_
  refine⟨fun h2=>?_,fun h2=>?_⟩
  ·rw[h2,if_pos rfl]at hdrop
   refine oO ?_
   refine iW ?_
   exact An [] hlt ⟨⟨E,E,E,E,E,E,E,E,E,E,E,E,Y⟩,⟨.inl E,E,.inl (by rw[hdrop];rfl),E,Y⟩,E,E⟩
  ·rw[h2]at hdrop
   refine oO ?_
   refine iW ?_
   exact An [] hlt ⟨⟨E,E,E,E,E,E,E,E,E,E,E,E,Y⟩,⟨.inl E,E,.inl (by rw[hdrop];rfl),E,Y⟩,E,E⟩
 ·have hjl:¬ j<l.length:=by simpa using h
  rw[List.take_of_length_le qn]
  refine oO ?_
  exact done E (.cons (.cell E E E E) (.cons .tmp .nil)) [] [] (fun _ h=>h) E E ⟨Y,Y,E,E⟩
theorem Ag5 {l:List Vec} (h:(H9 l).2=false):l=[]∧(H9 l).1=At1:=by
 cases l with
 | nil=>exact⟨rfl,rfl⟩
 | cons v t=>cases h
theorem Acy (l:List Vec):∀ x∈l,Cj x (H9 l).1=false:=by
 cases l with
 | nil=>simp
 | cons v t=>exact(Acx v (v::t)).2
theorem Aj2 {l:List Vec} (h:(H9 l).2=true):(H9 l).1∈l:=by
 cases l with
 | nil=>cases h
 | cons v t =>
  rcases Z4 v (v::t) with h | h
  ·show C2 v (v::t)∈v::t
   rw[h];simp
  ·exact h
theorem W7 (n:Net):∀ x∈Cw n,0≤x∧x<n.devices.length:=fun x hx=>by
 rw[Zp,Kj]at hx
 obtain ⟨i,hi,rfl⟩:=List.mem_map.1 hx
 have hi:=List.mem_range.1 hi
 have h1:=List.countP_le_length (p:=fun k=>Cm n (k:Nat) i) (l:=List.range n.devices.length)
 rw[List.length_range]at h1
 have h2:(List.range n.devices.length).countP (fun k=>Cm n (k:Nat) i)≠n.devices.length:=fun e=>by
  have:=List.countP_eq_length.1 (e.trans List.length_range.symm) i (List.mem_range.2 hi)
  rw[Og]at this
  cases this
 omega
theorem E4 (n:Net):(Cw n).length=n.devices.length:=by rw[Zp,Kj];simp
end Go.Sy.YteinjapglfkamaaGreat
namespace Go.Sy.YteinjapglfkamaaGreat
open Go.Proofs
attribute [local irreducible] Go.Sy.G Go.Sy.DR
set_option maxRecDepth 100000
set_option maxHeartbeats 4000000
def Ss (n:Net) (up:List Bool) (ranks:List Int) (x y:SV):List SV:=[.sl 5 Bs n.devices,.sl 7 Bh n.ports,.sl 3 Cs n.links,.sl 6 Aw n.domains,.sl 4 Bp n.statics,.sl 4 B7 n.floods,.sl 5 C4 n.vrfs,.sl 5 Dp n.irbs,.sl 1 Ab up,.sl 1 Aa ranks,x,y]
def Cd (n:Net) (up:List Bool) (i:Nat):Int :=
 let p:=n.ports.getD i default
 if p.link<0 || !(up.getD p.link.toNat false) then -1 else (nth n.links p.link).a+(nth n.links p.link).b-i
theorem farS (n:Net) (up:List Bool) (ranks:List Int) (x y:SV) (_hx:(x.boxed && x.data && y.boxed && y.data && Nat.beq (cellsOf x).length 1 && Nat.beq (cellsOf y).length 1)=true) (i:Nat) (hr:Ae n=true) (hu:up.length=n.links.length) (hi:i<n.ports.length) :
  Sy.Spec Tryz.prog 222 [.ref 12 (.agg (Ss n up ranks x y)) 0,Aa i] [] (Aa (Cd n up i)) []:=cT F222 Tryz.ntmps222 fun F hF=>by
 have hpl:=E5 hr hi
 have hf:=C1 hr
 have e1:n.ports[(i:Int).toNat]'qn=n.ports[i]:=rfl
 have hfar:Cd n up i=if n.ports[i].link<0 || !(up.getD n.ports[i].link.toNat false) then -1 else (nth n.links n.ports[i].link).a+(nth n.links n.ports[i].link).b-i:=by
  rw[Cd,A9 hi]
 generalize hp:n.ports[i]=p at *
 have hle:=fun h=>I5 hr (i:=p.link.toNat) h
 conv=>whnf
 refine⟨E,by omega,by omega,?_⟩
 rw[e1]
 conv=>whnf
 (repeat' (first | (refine⟨fun h=>?_,fun h=>?_⟩<;>(repeat (first | simp only[decide_eq_true_eq]at h | simp only[decide_eq_false_iff_not]at h | simp only[Bool.not_eq_true']at h | simp only[Bool.not_eq_false']at h))<;>((first|refine rg ?_|refine rd qq ?_);(conv=>whnf))) | (refine Aq rfl (.cons .tmp .nil) ?_ rfl) | (refine⟨qq,?_⟩;((conv=>whnf);repeat((refine aT ?_);(refine oO ?_)))) | (refine⟨by (first | omega | ((have hq:=hle qn;unfold I64;omega))),by (first | omega | ((have hq:=hle qn;unfold I64;omega))),?_⟩;((conv=>whnf)))))
 all_goals (refine congrArg Aa ?_;rw[hfar])
 ·simp_all
 ·have h1:up.getD p.link.toNat false=false:=by rw[A9 qn];assumption
  rw[h1];simp
 ·have h1:up.getD p.link.toNat false=true:=by rw[A9 qn];assumption
  rw[h1,Ak qn]
  simp_all
def Oz (n:Net) (up:List Bool) (ranks roots costs:List Int):SV:=.ref 12 (.agg (Ss n up ranks (.sl 1 Aa roots) (.sl 1 Aa costs))) 0
def Ki (n:Net) (ranks costs:List Int) (i k:Nat):Bool :=
 let a:=(n.ports.getD i default).dev
 let b:=(n.ports.getD k default).dev
 decide (nth costs a<nth costs b) || (nth costs a == nth costs b && decide (nth ranks a<nth ranks b))
theorem Aie (n:Net) (up:List Bool) (ranks roots costs:List Int) (i k:Nat) (hr:Ae n=true) (hrk:ranks.length=n.devices.length) (hc:costs.length=n.devices.length) (hi:i<n.ports.length) (hk:k<n.ports.length) :
  Sy.Spec Tryz.prog 223 [Oz n up ranks roots costs,Aa i,Aa k] [] (Ab (Ki n ranks costs i k)) []:=cT F223 Tryz.ntmps223 fun F hF=>by
 have hd1:=O8 hr hi
 have hd2:=O8 hr hk
 have e1:n.ports[(i:Int).toNat]'qn=n.ports[i]:=rfl
 have e2:n.ports[(k:Int).toNat]'qn=n.ports[k]:=rfl
 have hres:Ki n ranks costs i k=(decide (nth costs n.ports[i].dev<nth costs n.ports[k].dev) || (nth costs n.ports[i].dev == nth costs n.ports[k].dev && decide (nth ranks n.ports[i].dev<nth ranks n.ports[k].dev))):=by
  rw[Ki,A9 hi,A9 hk]
 rw[Ak qn,Ak qn,Ak qn,Ak qn]at hres
 conv=>whnf
 (repeat' (first | (refine⟨fun h=>?_,fun h=>?_⟩<;>(repeat (first | simp only[decide_eq_true_eq]at h | simp only[decide_eq_false_iff_not]at h | simp only[beq_iff_eq]at h | simp only[beq_eq_false_iff_ne]at h))<;>((refine rd qq ?_);(conv=>whnf))) | (refine Aq rfl (.cons .tmp .nil) ?_ rfl) | (refine⟨qq,?_⟩;((conv=>whnf))) | (refine⟨by (first | omega | (simp only[Int.toNat_natCast];omega)),by (first | omega | (simp only[Int.toNat_natCast];omega)),?_⟩;((conv=>whnf)))))
 all_goals (refine congrArg Ab ?_;rw[hres];clear hF hres hr;simp only[Int.toNat_natCast]at *;grind)
theorem Tx {n:Net} {up:List Bool} (h:Ae n=true) {i:Nat} (hi:i<n.ports.length) (hf:0≤Cd n up i):Cd n up i<n.ports.length:=by
 have hp:=Kr h hi
 have hpl:=E5 h hi
 simp only[D9,Bool.and_eq_true,Bool.or_eq_true,beq_iff_eq]at hp
 have hp:=hp.2
 unfold Cd at *
 rw[A9 hi]at *
 simp only at *
 split at hf
 ·omega
 ·rename_i hc
  rw[if_neg hc]
  simp only[Bool.or_eq_true,decide_eq_true_eq,not_or]at hc
  rcases hp with hp | hp
  ·omega
  ·have hl:n.ports[i].link.toNat<n.links.length:=by omega
   have he:=I5 h hl
   rw[Ak hl]at *
   omega
def Vv (n:Net) (up:List Bool) (ranks roots costs:List Int) (dev:Int) (i:Nat):Option Vec :=
 let p:=n.ports.getD i default
 let far:=Cd n up i
 let there:=(nth n.ports far).dev
 if p.dev == dev && decide (0≤far) then some ⟨nth roots there,nth costs there+p.cost,nth ranks there,far,i⟩ else none
def Ik (n:Net) (up:List Bool) (ranks roots costs:List Int) (dev:Int) (j:Nat):List Vec:=(List.range j).filterMap (Vv n up ranks roots costs dev)
theorem Ak4 (n:Net) (up:List Bool) (ranks roots costs:List Int) (dev:Int) (j:Nat):Ik n up ranks roots costs dev (j+1)=Ik n up ranks roots costs dev j++(Vv n up ranks roots costs dev j).toList:=by
 rw[Ik,List.range_succ,List.filterMap_append]
 cases h:Vv n up ranks roots costs dev j<;>simp[Ik,h]
theorem Vy (n:Net) (up:List Bool) (ranks roots costs:List Int) (dev:Int) (j:Nat):(Ik n up ranks roots costs dev j).length≤j:=by
 have:=List.length_filterMap_le (Vv n up ranks roots costs dev) (List.range j)
 simpa [Ik] using this
def Hk (n:Net) (up:List Bool) (ranks roots costs:List Int) (dev:Int):Int :=
 let r:=H9 (Ik n up ranks roots costs dev n.ports.length)
 if !r.2 || nth roots dev == nth ranks dev then -1 else r.1.own
theorem bestS (n:Net) (up:List Bool) (ranks roots costs:List Int) (dev:Int) (hr:Ae n=true) (hu:up.length=n.links.length) (hcost:Cq n=true) (hrk:ranks.length=n.devices.length) (hro:roots.length=n.devices.length) (hc:costs.length=n.devices.length)
  (hb:∀ c∈costs,0≤c∧c<1000000000) (hd:0≤dev∧dev<n.devices.length) :
  Sy.Spec Tryz.prog 224 [Oz n up ranks roots costs,Aa dev] [] (Aa (Hk n up ranks roots costs dev)) []:=cT F224 Tryz.ntmps224 fun F hF=>by
 have hf:=C1 hr
 conv=>whnf
 refine Bm 5 1000 5 D3 E E ?_
 refine At n.ports.length (fun j=>[(0,Oz n up ranks roots costs),(1,Aa dev),(5,.osl 1000),(16,.sl 7 Bh n.ports),(17,Aa n.ports.length),(18,Aa j)]) (fun j=>[(1000,.row 5 D3 (Ik n up ranks roots costs dev j))]) []
  ⟨⟨rfl,rfl,rfl,rfl,rfl,rfl,rfl,rfl,rfl,rfl,rfl,rfl,trivial⟩,⟨.inl rfl,rfl,trivial⟩,rfl,rfl⟩ ?_
 intro j hj
 refine oO ?_
 refine⟨fun h=>?_,fun h=>?_⟩
 ·have hlt:j<n.ports.length:=by simpa using h
  have e1:n.ports[(j:Int).toNat]'qn=n.ports[j]:=rfl
  have hfar:=farS n up ranks (.sl 1 Aa roots) (.sl 1 Aa costs) rfl j hr hu hlt
  have hfl:=Tx (up:=up) hr hlt
  have hsucc:=Ak4 n up ranks roots costs dev j
  have hbl:=Vy n up ranks roots costs dev j
  have hcand:Vv n up ranks roots costs dev j=if n.ports[j].dev == dev && decide (0≤Cd n up j) then some ⟨nth roots (nth n.ports (Cd n up j)).dev,nth costs (nth n.ports (Cd n up j)).dev+n.ports[j].cost,nth ranks (nth n.ports (Cd n up j)).dev,Cd n up j,j⟩ else none:=by
   rw[Vv,A9 hlt]
  generalize Cd n up j=k at *
  have hpc:1≤n.ports[j].cost∧n.ports[j].cost≤65535:=by
   simp only[Cq,Bool.not_eq_true',List.any_eq_false]at hcost
   have:=hcost _ (List.getElem_mem hlt)
   simp only[I0,Bool.or_eq_true,decide_eq_true_eq,not_or]at this
   omega
  obtain ⟨p,hp⟩:∃ p,n.ports[j]=p:=⟨_,rfl⟩
  rw[hp]at e1 hcand hpc
  refine oO ?_
  refine⟨E,by omega,by omega,?_⟩
  rw[e1]
  conv=>whnf
  refine c0 hfar F222 ?_
  refine oO ?_
  refine⟨fun h=>?_,fun h=>?_⟩
  ·refine oO ?_
   refine⟨fun h2=>?_,fun h2=>?_⟩
   ·have hk0:0≤k:=of_decide_eq_true h2
    have hk1:=hfl hk0
    rw[if_pos (by simp only[Bool.and_eq_true,decide_eq_true_eq];exact⟨h,hk0⟩),Ak (l:=n.ports) (i:=k) qn]at hcand
    have hpd:=O8 hr (i:=k.toNat) qn
    obtain ⟨q,hq⟩:∃ q,n.ports[k.toNat]'qn=q:=⟨_,rfl⟩
    rw[hq]at hcand hpd
    have hcb:=hb (costs[q.dev.toNat]'qn) (List.getElem_mem _)
    rw[Ak (l:=roots) (i:=q.dev) qn,Ak (l:=costs) (i:=q.dev) qn,Ak (l:=ranks) (i:=q.dev) qn]at hcand
    refine oO ?_
    refine⟨E,hk0,by omega,?_⟩
    rw[hq]
    conv=>whnf
    refine⟨qq,?_⟩
    refine⟨by omega,by omega,?_⟩
    conv=>whnf
    refine⟨qq,?_⟩
    refine⟨by omega,by omega,?_⟩
    conv=>whnf
    refine iW ?_
    refine⟨qq,?_⟩
    refine⟨by omega,by omega,?_⟩
    conv=>whnf
    refine Bd (Ac Γ.toTy 72 E E E E E (.row E) (.lit (l:=[(⟨roots[q.dev.toNat]'qn,costs[q.dev.toNat]'qn+p.cost,ranks[q.dev.toNat]'qn,k,j⟩:Vec)]) E E) qz (by simp;omega) (by simp;omega)) qq E ?_
    refine oD ?_
    refine kW ?_
    refine iW ?_
    refine An [(1000,72)] hlt ⟨⟨E,E,E,E,E,E,E,E,E,E,E,E,Y⟩,⟨.inl (congrArg (Ob.row 5 D3) ?_),E,Y⟩,E,E⟩
    rw[hsucc,hcand]
    rfl
   ·have hk0:¬ 0≤k:=of_decide_eq_false h2
    rw[if_neg (by simp only[Bool.and_eq_true,decide_eq_true_eq];exact fun hh=>hk0 hh.2)]at hcand
    refine oO ?_
    refine iW ?_
    refine An [] hlt ⟨⟨E,E,E,E,E,E,E,E,E,E,E,E,Y⟩,⟨.inl (congrArg (Ob.row 5 D3) ?_),E,Y⟩,E,E⟩
    rw[hsucc,hcand]
    simp
  ·rw[if_neg (by rw[h];simp)]at hcand
   refine oF ?_
   refine iW ?_
   refine An [] hlt ⟨⟨E,E,E,E,E,E,E,E,E,E,E,E,Y⟩,⟨.inl (congrArg (Ob.row 5 D3) ?_),E,Y⟩,E,E⟩
   rw[hsucc,hcand]
   simp
 ·have hjl:j=n.ports.length:=by
   have:¬ j<n.ports.length:=by simpa using h
   omega
  subst hjl
  have hbl:=Vy n up ranks roots costs dev n.ports.length
  have hbi:Hk n up ranks roots costs dev=if !(H9 (Ik n up ranks roots costs dev n.ports.length)).2 || nth roots dev == nth ranks dev then -1 else (H9 (Ik n up ranks roots costs dev n.ports.length)).1.own:=rfl
  rw[Ak qn,Ak qn]at hbi
  have hls:=leastS (Ik n up ranks roots costs dev n.ports.length) (by unfold Ap;omega)
  generalize H9 (Ik n up ranks roots costs dev n.ports.length)=r at hls hbi
  obtain ⟨v,ok⟩:=r
  simp only at hls hbi
  rw[hbi]
  refine oO ?_
  refine Ao 1000 E ?_
  refine c0 hls F289 ?_
  refine oO ?_
  (repeat' (first | (refine⟨fun h=>?_,fun h=>?_⟩<;>(repeat (first | simp only[beq_iff_eq]at h | simp only[beq_eq_false_iff_ne]at h | simp only[Bool.not_eq_true']at h | simp only[Bool.not_eq_false']at h))<;>((first|refine rg ?_|refine rd qq ?_);(conv=>whnf))) | (refine Aq rfl (.cons .tmp .nil) ?_ rfl) | (refine⟨qq,?_⟩;((conv=>whnf);repeat((refine aT ?_);(refine oO ?_)))) | (refine⟨by (omega),by (omega),?_⟩;((conv=>whnf)))))
  all_goals (refine congrArg Aa ?_;clear hF hls hbi;grind)
end Go.Sy.YteinjapglfkamaaGreat
