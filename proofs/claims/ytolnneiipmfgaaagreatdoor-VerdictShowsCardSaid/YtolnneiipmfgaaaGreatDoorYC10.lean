/- Parts of a proof. -/
import Derived.Test.YtolnneiipmfgaaaGreatDoorYC8
import Derived.Test.YtolnneiipmfgaaaGreatDoorYC9
set_option linter.all false
set_option linter.unusedVariables false
set_option linter.unusedSimpArgs false
set_option linter.deprecated false
namespace Go.Sy.YtolnneiipmfgaaaGreatDoor
open Go.Proofs Go.Proofs.Tryz
attribute [local irreducible] Go.Sy.G Go.Sy.DR
set_option maxRecDepth 100000
set_option maxHeartbeats 4000000
def Ak4(s:ByteArray):(cutT 46 s).1.size≤s.size∧(cutT 46 s).2.1.size≤s.size:=by
 unfold cutT;split
 ·simp only[ByteArray.size_extract];omega
 ·exact⟨yD _,xQ _⟩
def okH(k x y:Bool):Nat→Bool
 |0=>k
 |1=>k&&x
 |_=>k&&x&&y
def A7f(w:ByteArray)(hw:w.size≤100000):Sp 48 [Ap w] (.tup [.agg [Ap (Ql w).1,Ap (Ql w).2.1],Ab (Ql w).2.2]):=cT F48 ntmps48 λF hF=>by
 have q1:=Zm w 46 q_;have hs:=Ak4 w;have qa:=E3 (cutT 46 w).1 q_;have qb:=E3 (cutT 46 w).2.1 q_;simp only[Ql];generalize cutT 46 w=c at *;obtain ⟨a,b,k⟩:=c;dsimp only at *;generalize A1 a=x at *;generalize A1 b=y at *;refine gD q1 F44 ?_;refine X (V1 Γ.toTy (out:=[Ap a,Ap b]) E E E E E E) ?_;refine Cj (λj:Nat=>j≤2) (λj=>[(2,.ptr 2 0),(6,Ab (okH k x y j)),(7,.ptr 7 0),(19,.agg [Ap a,Ap b]),(20,Aa j)]) (λ_=>[(2,.box [.val (.string .empty),.val (.string .empty)]),(7,.box [Ap a,Ap b])]) (λj=>2-j) 0 [] q_ U ?_;intro j hj;obtain rfl|rfl|rfl:j=0∨j=1∨j=2:=by omega
 ·refine T ?_;refine X (Ch (k:=.string) Γ.toTy E E E Tryz.underlying9 E E j_ j_ E) ?_;cases k
  ·refine T ?_;exact Ax 1 [] j_ j_ U
  ·refine gD qa F47 ?_;exact Ax 1 [] j_ j_ U
 ·refine T ?_;refine X (Ch (k:=.string) Γ.toTy E E E Tryz.underlying9 E E j_ j_ E) ?_;cases k
  ·refine T ?_;exact Ax 2 [] j_ j_ U
  ·cases x
   ·refine T ?_;exact Ax 2 [] j_ j_ U
   ·refine gD qb F47 ?_;exact Ax 2 [] j_ j_ U
 ·exact gB
def A6c(w:List ByteArray)(row:Int)(h0:0<w.length)(hw:w.length≤100000)(hs:∀s∈w,s.size≤40):Sp 19 [.sl 1 Ap w,Aa row] (.tup [Eu (tenantT w row).1,Aa (tenantT w row).2]):=cT F19 ntmps19 λF hF=>by
 have aa:=tenantT.eq_1 w row;generalize tenantT w row=res at *;have uw:(0:Int).toNat<w.length:=h0;have e0:wdT w 0=w[(0:Int).toNat]'uw:=Dm h0;rw[e0]at aa;by_cases k1:w[(0:Int).toNat]'uw=Av8;rotate_left
 ·have f1:(w[(0:Int).toNat]'uw==(⟨#[116,101,110,97,110,116]⟩:ByteArray))=false:=by
   cases hb:(w[(0:Int).toNat]'uw==(⟨#[116,101,110,97,110,116]⟩:ByteArray))
   ·rfl
   ·exact yB ((A5h _ _).1 hb) k1
  have f1':(!(w[(0:Int).toNat]'uw==(⟨#[116,101,110,97,110,116]⟩:ByteArray)))=true:=by rw[f1];rfl
  rw[zE (.inl k1)]at aa;subst aa;refine T ?_;refine Al 4 (cellsOf (Eu Alp)) E vL ?_;exact D
 have f1:(w[(0:Int).toNat]'uw==(⟨#[116,101,110,97,110,116]⟩:ByteArray))=true:=(A5h _ _).2 k1;have f1':(!(w[(0:Int).toNat]'uw==(⟨#[116,101,110,97,110,116]⟩:ByteArray)))=false:=by rw[f1];rfl
 by_cases k2:w.length≤2
 ·have f2:decide ((w.length:Int)≤2)=true:=zL q_;rw[zE (.inr (.inl k2))]at aa;subst aa;refine T ?_;refine Al 4 (cellsOf (Eu Alp)) E vL ?_;exact D
 have f2:decide ((w.length:Int)≤2)=false:=zI q_;by_cases k3:18<w.length
 ·have f3:decide ((w.length:Int)>18)=true:=zL q_;rw[zE (.inr (.inr k3))]at aa;subst aa;refine T ?_;refine Al 4 (cellsOf (Eu Alp)) E vL ?_;exact D
 have f3:decide ((w.length:Int)>18)=false:=zI q_;rw[zD (λh=>h.elim (λh=>h k1) λh=>h.elim k2 k3)]at aa;have j7:(1:Int).toNat<w.length:=by show 1<w.length;omega
 have e1:wdT w 1=w[(1:Int).toNat]'j7:=Dm (show 1<w.length by omega);rw[e1]at aa;have qn:=E3 (w[(1:Int).toNat]'j7) (by have:=hs _ (zJ j7);omega);cases hn:A1 (w[(1:Int).toNat]'j7) with
 |false=>
  rw[hn]at qn;rw[zE hn]at aa;subst aa;refine gD qn F47 ?_;refine Al 4 (cellsOf (Eu Alp)) E vL ?_;exact D
 |true=>
 rw[hn]at qn;rw[zD (by rw[hn];exact Bool.noConfusion)]at aa;have ft:(w.drop 2).length=w.length-2:=yQ;have jl:∀s∈w.drop 2,s.size≤40:=λs h=>hs s (List.mem_of_mem_drop h)
 refine gD qn F47 ?_;refine X (Jn (lo:=2) (hi:=w.length) Γ.toTy (w.drop 2) E E E E (.inr ⟨_,_,E,E⟩) (.inl ⟨E,E⟩) q_ (yD _) (by rw[yN])) ?_;obtain ⟨nm,hnm⟩:∃nm,w[(1:Int).toNat]'j7=nm:=⟨_,rfl⟩
 rw[hnm]at aa⊢;generalize w.drop 2=v at *;refine Sz 6 2 1001 1 Ap E E E E ?_;refine Sz 6 3 1002 1 Ap E E E E ?_;refine Cj (λx:Nat×List ByteArray×List ByteArray=>res=Afd ⟨row,nm,x.2.1,x.2.2⟩ (v.drop x.1)∧x.1≤v.length∧x.2.1.length=x.1∧x.2.2.length=x.1) (λx=>[(4,.ptr 4 0),(6,.ptr 6 0),(37,.sl 1 Ap v),(38,Aa v.length),(39,Aa x.1)]) (λx=>[(4,.box [Aa 0,.val (.string .empty),.val (.slice none 0 0),.val (.slice none 0 0)]),(6,.box [Aa row,Ap nm,.osl 1001,.osl 1002]),(1001,.row 1 Ap x.2.1),(1002,.row 1 Ap x.2.2)]) (λx=>v.length-x.1) (0,[],[]) [] ⟨aa,by simp,E,E⟩ U ?_;rintro ⟨j,ds,ps⟩ ⟨hI,hj,hd,hp⟩;dsimp only at hI hj hd hp⊢;refine T ?_;constructor<;>intro h
 ·have ab:j<v.length:=qA h;have ai:(j:Int).toNat<v.length:=ab;clear h;have ep:v.drop j=v[(j:Int).toNat]'ai::v.drop (j+1):=yK ab;rw[ep,Afd]at hI;have q:=A7f (v[(j:Int).toNat]'ai) (by have:=jl _ (zJ ai);omega);generalize Ql (v[(j:Int).toNat]'ai)=hv at *;obtain ⟨a,b,ok⟩:=hv;dsimp only at hI q;cases ok
  ·rw[zE rfl]at hI;subst hI;refine gD q F48 ?_;refine Al 4 (cellsOf (Eu Alp)) E vL ?_;exact D
  ·rw[zD (by exact Bool.noConfusion)]at hI;refine gD q F48 ?_;refine Xd (Ag Γ.toTy 56 E E E E E (.row E) (.lit (e:=Ap) (l:=[a]) E E) y_ (by simp;omega) (by simp;omega)) ?_;refine Xd (Ag Γ.toTy 62 E E E E E (.row E) (.lit (e:=Ap) (l:=[b]) E E) y_ (by simp;omega) (by simp;omega)) ?_;exact Ax (j+1,ds++[a],ps++[b]) [(1001,56),(1002,62)] ⟨hI,ab,by simp;omega,by simp;omega⟩ (by dsimp only;omega) U
 ·have cm:j=v.length:=qB h;rw[cm,wQ,Afd]at hI;subst hI;clear h;refine T ?_;refine Aj 1001 E ?_;refine Aj 1002 E ?_;exact D
def Ao6(b:List UInt8)(hb:b.length≤1000000):Sp 9 [.sl 1 Ak b] (.tup [.sl 4 Eu (policyT b).1,Aa (policyT b).2.1,Aa (policyT b).2.2]):=cT F9 ntmps9 λF hF=>by
 have q1:=Aj7 b hb;have aa:=policyT.eq_1 b;have iu:=Qe b;generalize policyT b=res at *;generalize rowsT b=rt at *;obtain ⟨bq,e0⟩:=rt;dsimp only at aa iu q1;obtain ⟨hlen,bh⟩:=iu;by_cases tn:e0=0;rotate_left
 ·have f0:(e0 != 0)=true:=by rw[xB];exact tn
  rw[zE tn]at aa;subst aa;refine gD q1 F17 ?_;refine An 2 4 Eu E ?_;exact D
 have f0:(e0 != 0)=false:=by rw[tn];rfl
 rw[zD (λh=>h tn)]at aa;subst tn;refine gD q1 F17 ?_;refine Ce 2 1000 4 Eu E E ?_;refine Cj (λx:Nat×List TenM=>res=Kq x.1 x.2 (bq.drop x.1)∧x.1≤bq.length∧x.2.length≤x.1) (λx=>[(2,.osl 1000),(19,.sl 1 Ap bq),(20,Aa bq.length),(21,Aa x.1)]) (λx=>[(1000,.row 4 Eu x.2)]) (λx=>bq.length-x.1) (0,[]) [] ⟨aa,by simp,by simp⟩ U ?_;rintro ⟨j,out⟩ ⟨hI,hj,ky⟩;dsimp only at hI hj ky⊢;refine T ?_;constructor<;>intro h
 ·have ab:j<bq.length:=qA h;have aq:(j:Int).toNat<bq.length:=ab;have hr:(bq[(j:Int).toNat]'aq).size≤20000:=bh _ (zJ _);have ep:bq.drop j=bq[(j:Int).toNat]'aq::bq.drop (j+1):=yK ab;rw[ep,Kq]at hI;clear h;have q2:=Agl (bq[(j:Int).toNat]'aq) q_;have jq:=S1 (bq[(j:Int).toNat]'aq) hr;generalize wordsT (bq[(j:Int).toNat]'aq)=wt at *;obtain ⟨ws,we⟩:=wt;dsimp only at hI jq q2;by_cases he:we=0;rotate_left
  ·have f1:(we==0)=false:=by rw[zR];exact he
   have f2:(we != 0)=true:=by rw[xB];exact he
   rw[zE he]at hI;subst hI;refine gD q2 F18 ?_;refine An 2 4 Eu E ?_;exact D
  subst he;rw[zD (λh=>h rfl)]at hI;by_cases kz:ws.length=0
  ·rw[zE (zX kz)]at hI;have f1:((ws.length:Int)==0)=true:=by rw[kz];rfl
   refine gD q2 F18 ?_;exact Ax (j+1,out) [] ⟨hI,ab,by dsimp only;omega⟩ (by dsimp only;omega) U
  rw[zD (λe=>kz (by rw[e];rfl))]at hI;have f1:((ws.length:Int)==0)=false:=by rw[zR];omega
  have q3:=A6c ws ((j:Int)+1) q_ q_ jq.2;generalize tenantT ws ((j:Int)+1)=st at *;obtain ⟨t,se⟩:=st;dsimp only at hI q3;by_cases hs:se=0;rotate_left
  ·have f2:(se==0)=false:=by rw[zR];exact hs
   have f3:(se != 0)=true:=by rw[xB];exact hs
   rw[zE hs]at hI;subst hI;refine gA q2 F18 q3 F19 ?_;refine An 2 4 Eu E ?_;exact D
  subst hs;rw[zD (λh=>h rfl)]at hI;by_cases j7:out.length=10
  ·have f2:((out.length:Int)==10)=true:=by rw[j7];rfl
   rw[zE j7]at hI;subst hI;refine gA q2 F18 q3 F19 ?_;refine An 2 4 Eu E ?_;exact D
  have f2:((out.length:Int)==10)=false:=by rw[zR];omega
  rw[zD j7]at hI;refine gA q2 F18 q3 F19 ?_;refine X (Ag Γ.toTy 62 E E E E E (.row E) (.lit (e:=Eu) (l:=[t]) E E) y_ (by simp;omega) (by simp;omega)) ?_;exact Ax (j+1,out++[t]) [(1000,62)] ⟨hI,ab,by simp;omega⟩ (by dsimp only;omega) U
 ·have cm:j=bq.length:=qB h;rw[cm,wQ,Kq]at hI;subst hI;clear h;refine T ?_;refine Aj 1000 E ?_;exact D
end Go.Sy.YtolnneiipmfgaaaGreatDoor
namespace Go.Sy.YtolnneiipmfgaaaGreatDoor
open Go.Proofs Go.Proofs.Tryz
structure EntryM where
 mac:Nat
 where_:Int
 seen:Int
deriving DecidableEq
def Bf(e:EntryM):SV:=.agg [Bj e.mac,Aa e.where_,Aa e.seen]
def H2(m:Nat):Bool:=decide (m≤281474976710655)&&!Dx m
def Hq(now:Int):Bool:=decide (0≤now)&&decide (now≤1099511627776)
def Dw(t:List EntryM)(m:Nat):Int:=Br (λe=>decide (e.mac=m)) t
def Tz(t:List EntryM)(i:Nat)(e:EntryM):Bool:=H2 e.mac&&Hq e.seen&&decide (Dw t e.mac=i)
def tableB(t:List EntryM):Bool:=decide (t.length≤8)&&H7 (Tz t) t
def findE(t:List EntryM)(m:Nat):Int×Bool:=if Dw t m<0 then (0,false) else (((t[(Dw t m).toNat]?).map (·.where_)).getD 0,true)
def oldestU(t:List EntryM):Nat→Nat
 |0=>0
 |j+1=>if ((t[j]?).map (·.seen)).getD 0<((t[oldestU t j]?).map (·.seen)).getD 0 then j else oldestU t j
def learnT(t:List EntryM)(m:Nat)(wh now:Int):List EntryM :=
 if tableB t=false∨H2 m=false∨Hq now=false then t
 else if 0≤Dw t m then t.set (Dw t m).toNat ⟨m,wh,now⟩
 else (if t.length=8 then t.eraseIdx (oldestU t t.length) else t)++[⟨m,wh,now⟩]
def ageT(t:List EntryM)(now:Int):List EntryM:=if tableB t=false∨Hq now=false then t else t.filter λe=>decide (now-4≤e.seen)
def noF:FrameM:=⟨0,0,0,[]⟩
structure FrameOK(f:FrameM):Prop where
 dst:f.dst<281474976710656
 src:f.src<281474976710656
 typ:f.typ≤65535
 body:f.body.length≤1504
def takeF(b:List UInt8):FrameM×Int :=
 if b.length<14 then (noF,10) else if 1518<b.length then (noF,14)
 else (⟨Hz (b.take 6),Hz ((b.drop 6).take 6),Hz ((b.drop 12).take 2),b.drop 14⟩,0)
def Lu(f:FrameM):List UInt8:=frame f.dst f.src f.typ f.body
def stripT(f:FrameM):FrameM×Int×Int×Int :=
 if f.typ≠33024 then (noF,0,0,11) else if f.body.length<4 then (noF,0,0,10)
 else if 4094<Hz (f.body.take 2)%4096∨Hz ((f.body.drop 2).take 2)=33024 then (noF,0,0,15)
 else (⟨f.dst,f.src,Hz ((f.body.drop 2).take 2),f.body.drop 4⟩,(Hz (f.body.take 2)%4096:Nat),(Hz (f.body.take 2)/4096:Nat),0)
def tagT(f:FrameM)(v:Int):FrameM×Int :=
 if f.typ=33024 then (noF,15) else if 1500<f.body.length then (noF,14)
 else (⟨f.dst,f.src,33024,[UInt8.ofNat (v.toNat/256),UInt8.ofNat v.toNat,UInt8.ofNat (f.typ/256),UInt8.ofNat f.typ]++f.body⟩,0)
def vlanT(p:Port)(tagged:Bool)(gr:Int):Int×Bool :=
 if tagged=false∨gr=0 then (p.native,decide (p.native≠0)) else if inB p.tagged gr=true then (gr,true) else (0,false)
def J1(n:Net)(port:Int)(f:FrameM)(tagged:Bool)(gr:Int):Int×FrameM×Int :=
 if Dx f.src=true then (0,noF,11)
 else if (vlanT (nth n.ports port) tagged gr).2=false then (0,noF,16)
 else (B6 n (nth n.ports port).dev (vlanT (nth n.ports port) tagged gr).1,f,0)
def enterT(n:Net)(port:Int)(b:List UInt8):Int×FrameM×Int :=
 if Ai port n.ports.length=false∨Ac n=false then (0,noF,2)
 else if (takeF b).2≠0 then (0,noF,(takeF b).2)
 else if (takeF b).1.typ=33024 then
  (if (stripT (takeF b).1).2.2.2≠0 then (0,noF,(stripT (takeF b).1).2.2.2) else J1 n port (stripT (takeF b).1).1 true (stripT (takeF b).1).2.1)
 else J1 n port (takeF b).1 false 0
def leaveT(n:Net)(port dom:Int)(f:FrameM):List UInt8×Int :=
 if Ai port n.ports.length=false∨Ai dom n.domains.length=false∨Ac n=false then ([],2)
 else if (nth n.ports port).dev≠(nth n.domains dom).dev∨Cw (nth n.ports port) (nth n.domains dom).vlan=false then ([],16)
 else if f.typ=33024 then ([],15)
 else if (nth n.domains dom).vlan=(nth n.ports port).native then (Lu f,0)
 else if (tagT f (nth n.domains dom).vlan).2≠0 then ([],(tagT f (nth n.domains dom).vlan).2)
 else (Lu (tagT f (nth n.domains dom).vlan).1,0)
def linkT(n:Net)(port:Int)(b:List UInt8):Int×Int×FrameM×Int :=
 if Bb n port<0 then (0,0,noF,2) else (Bb n port,enterT n (Bb n port) b)
structure QueuedM where
 from_:Int
 peer:Int
 origin:Int
 frame:FrameM
def Ca(q:QueuedM):SV:=.agg [Aa q.from_,Aa q.peer,Aa q.origin,Bj q.frame.dst,Bj q.frame.src,Aa q.frame.typ,.sl 1 Ak q.frame.body]
def noQ:QueuedM:=⟨0,0,0,noF⟩
def pushT(l:List QueuedM)(q:QueuedM):List QueuedM×Bool:=if 64≤l.length then (l,false) else (l++[q],true)
def takeT(l:List QueuedM)(at_:Int):QueuedM×List QueuedM×Bool :=
 if at_<0∨(l.length:Int)≤at_ then (noQ,l,false) else ((l[at_.toNat]?).getD noQ,l.eraseIdx at_.toNat,true)
def usableB(n:Net)(fw:List Bool)(p:Int):Bool:=decide ((nth n.ports p).link<0)||(fw[(nth n.ports p).link.toNat]?).getD false
def Ld(n:Net)(fw:List Bool)(dom from_:Int):Bool :=
 Ai dom n.domains.length&&decide (fw.length=n.links.length)&&Ac n&&(decide (from_=-1)||decide (from_=-2)||inB (A6 n dom) from_)
def Cz(n:Net)(fw:List Bool)(from_:Int)(l:List Int):List Int:=l.filter λp=>!(decide (p=from_)||!(usableB n fw p))
def peersOut(n:Net)(dom from_:Int):List Int:=if from_=-1 then [] else (nth n.domains dom).peers
def floodT(n:Net)(fw:List Bool)(dom from_:Int):List Int×List Int×Int :=
 if Ld n fw dom from_=false then ([],[],2) else (Cz n fw from_ (A6 n dom),peersOut n dom from_,0)
def D8(n:Net)(dom:Int)(m:Nat):Int:=Br (λs:Static=>decide (s.domain=dom)&&decide (s.mac=(m:Int))) n.statics
def Dt(n:Net)(fw:List Bool)(t:List EntryM)(dom from_:Int)(m:Nat):List Int×List Int×Int :=
 if Ld n fw dom from_=false then ([],[],2)
 else if Dx m=true then (Cz n fw from_ (A6 n dom),peersOut n dom from_,0)
 else if 0≤D8 n dom m then (Cz n fw from_ [(nth n.statics (D8 n dom m)).port],[],0)
 else if (findE t m).2=true∧0≤(findE t m).1∧inB (A6 n dom) (findE t m).1=true then (Cz n fw from_ [(findE t m).1],[],0)
 else if (findE t m).2=true∧(findE t m).1<0∧inB (nth n.domains dom).peers (-1-(findE t m).1)=true then ([],if from_=-1 then [] else [-1-(findE t m).1],0)
 else (Cz n fw from_ (A6 n dom),peersOut n dom from_,0)
def bAt(b:List UInt8)(i:Nat):UInt8:=b.getD i 0
def numAt(b:List UInt8)(k m:Nat):Nat:=Hz ((b.drop k).take m)
def Dl(l:List Nat):List UInt8:=l.flatMap λn=>[UInt8.ofNat (n/256),UInt8.ofNat n]
def udpPort(a b:Nat):Nat:=49152+(a^^^b)%16384
def Aei(src dst:Nat)(body:List UInt8):List UInt8:=Dl [src,dst,8+body.length,0]++body
def udpTakeT(b:List UInt8):Int×Int×List UInt8×Int :=
 if b.length<8 then (0,0,[],10) else if numAt b 4 2<8 then (0,0,[],11) else if b.length<numAt b 4 2 then (0,0,[],10)
 else if numAt b 6 2≠0 then (0,0,[],12) else (numAt b 0 2,numAt b 2 2,(b.take (numAt b 4 2)).drop 8,0)
structure PacketM where
 tos:Nat
 id:Nat
 ttl:Nat
 proto:Nat
 src:Nat
 dst:Nat
 body:List UInt8
def noP:PacketM:=⟨0,0,0,0,0,0,[]⟩
def Z4(p:PacketM):SV:=.agg [Aa p.tos,Aa p.id,Aa p.ttl,Aa p.proto,A9 p.src,A9 p.dst,.sl 1 Ak p.body]
structure PacketOK(p:PacketM):Prop where
 tos:p.tos≤255
 id:p.id≤65535
 ttl:p.ttl≤255
 proto:p.proto≤255
 src:p.src<4294967296
 dst:p.dst<4294967296
def Hl(p:PacketM)(s:Nat):List UInt8:=Dl [17664+p.tos,20+p.body.length,p.id,0,p.ttl*256+p.proto,s,p.src/65536,p.src,p.dst/65536,p.dst]
def Iu(p:PacketM):Nat:=Ajm (Hl p 0)
def H4(p:PacketM):List UInt8:=Hl p (Iu p)++p.body
def ipPutT(p:PacketM):List UInt8×Int:=if 1480<p.body.length then ([],14) else (H4 p,0)
def ipTakeT(b:List UInt8):PacketM×Int :=
 if b.length<20 then (noP,10) else if bAt b 0≠69∨numAt b 2 2<20 then (noP,11) else if b.length<numAt b 2 2 then (noP,10)
 else if numAt b 6 2≠0 then (noP,11) else if H5 (O8 (b.take 20) 10)≠65535 then (noP,12)
 else (⟨(bAt b 1).toNat,numAt b 4 2,(bAt b 8).toNat,(bAt b 9).toNat,numAt b 12 4,numAt b 16 4,(b.take (numAt b 2 2)).drop 20⟩,0)
def K2(v:Nat):List UInt8:=[8,0,0,0,UInt8.ofNat (v/65536),UInt8.ofNat (v/256),UInt8.ofNat v,0]
def Ur(v:Int):Bool:=decide (v<1)||decide (16777215<v)
def vniT(b:List UInt8):Int×List UInt8×Int :=
 if b.length<8 then (0,[],10) else if numAt b 4 3=0∨b.take 8≠K2 (numAt b 4 3) then (0,[],11) else (numAt b 4 3,b.drop 8,0)
def Lc(from_ to:Nat)(v:Nat)(f:FrameM):PacketM:=⟨0,0,64,17,from_,to,Aei (udpPort f.dst f.src) 4789 (K2 v++Lu f)⟩
def wrapT(from_ to:Nat)(v:Int)(f:FrameM):List UInt8×Int :=
 if f.typ=33024 then ([],15) else if Ur v=true then ([],17) else if 1450<f.body.length then ([],14)
 else (frame (hostN to) (hostN from_) 2048 (H4 (Lc from_ to v.toNat f)),0)
def outerT(b:List UInt8):PacketM×Int :=
 if (takeF b).2≠0 then (noP,(takeF b).2) else if (takeF b).1.typ≠2048 then (noP,11)
 else if (ipTakeT (takeF b).1.body).2≠0 then (noP,(ipTakeT (takeF b).1.body).2)
 else ((ipTakeT (takeF b).1.body).1,if (ipTakeT (takeF b).1.body).1.proto≠17 then 11 else 0)
def Me(b:List UInt8):Int×FrameM×Int :=
 if (udpTakeT b).2.2.2≠0 then (0,noF,(udpTakeT b).2.2.2) else if (udpTakeT b).2.1≠4789 then (0,noF,11)
 else if (vniT (udpTakeT b).2.2.1).2.2≠0 then (0,noF,(vniT (udpTakeT b).2.2.1).2.2)
 else if (takeF (vniT (udpTakeT b).2.2.1).2.1).2≠0 then (0,noF,(takeF (vniT (udpTakeT b).2.2.1).2.1).2)
 else if (takeF (vniT (udpTakeT b).2.2.1).2.1).1.typ=33024 then (0,noF,15)
 else ((vniT (udpTakeT b).2.2.1).1,(takeF (vniT (udpTakeT b).2.2.1).2.1).1,0)
def Cn(b:List UInt8):Nat×Nat×Int×FrameM×Int :=
 if (outerT b).2≠0 then (0,0,0,noF,(outerT b).2) else if (Me (outerT b).1.body).2.2≠0 then (0,0,0,noF,(Me (outerT b).1.body).2.2)
 else ((outerT b).1.src,(outerT b).1.dst,(Me (outerT b).1.body).1,(Me (outerT b).1.body).2.1,0)
structure Net.Num(n:Net):Prop where
 vtep:∀d∈n.devices,0≤d.vtep∧d.vtep<4294967296
 addr:∀i∈n.irbs,0≤i.addr∧i.addr<4294967296
def C6(n:Net)(dom:Int):Int:=(nth n.devices (nth n.domains dom).dev).vtep
def meshT(n:Net)(dom peer:Int)(f:FrameM):List UInt8×Int :=
 if Ai peer n.domains.length=false∨Ai dom n.domains.length=false∨Ac n=false then ([],2)
 else if inB (nth n.domains dom).peers peer=false then ([],17)
 else wrapT (C6 n dom).toNat (C6 n peer).toNat (nth n.domains dom).vni f
def endsT(n:Net)(src dst:Nat)(vni:Int):Int×Int :=
 let dev:=Br (λd:Device=>decide (d.vtep=(dst:Int))) n.devices
 let dom:=Br (λd:Domain=>decide (d.dev=dev)&&decide (d.vni=vni)) n.domains
 if dev<0∨dom<0 then (-1,-1)
 else
  let i:=Br (λk:Int=>decide (C6 n k=(src:Int))) (nth n.domains dom).peers
  if i<0 then (-1,-1) else (nth (nth n.domains dom).peers i,dom)
def comeT(n:Net)(b:List UInt8):Int×Int×FrameM×Int :=
 if Ac n=false then (0,0,noF,2)
 else if (Cn b).2.2.2.2≠0 then (0,0,noF,(Cn b).2.2.2.2)
 else if (endsT n (Cn b).1 (Cn b).2.1 (Cn b).2.2.1).1<0 then (0,0,noF,17)
 else if Dx (Cn b).2.2.2.1.src=true then (0,0,noF,11)
 else ((endsT n (Cn b).1 (Cn b).2.1 (Cn b).2.2.1).1,(endsT n (Cn b).1 (Cn b).2.1 (Cn b).2.2.1).2,(Cn b).2.2.2.1,0)
def routerT(n:Net)(dom:Int)(m:Nat):Int×Bool :=
 if Ai dom n.domains.length=false∨Ac n=false then (0,false)
 else if (nth n.domains dom).irb<0∨hostN (nth n.irbs (nth n.domains dom).irb).addr≠m then (0,false)
 else ((nth n.domains dom).irb,true)
def Amx(p:PacketM):PacketM:=⟨p.tos,p.id,p.ttl-1,p.proto,p.src,p.dst,p.body⟩
def hopT(n:Net)(irb:Int)(f:FrameM):Int×FrameM×Int :=
 if Ai irb n.irbs.length=false∨Ac n=false then (0,noF,2)
 else if f.typ≠2048 then (0,noF,11)
 else if (ipTakeT f.body).2≠0 then (0,noF,(ipTakeT f.body).2)
 else if (ipTakeT f.body).1.ttl≤1 then (0,noF,13)
 else if (lookT n irb (ipTakeT f.body).1.dst).2=false then (0,noF,31)
 else if 1480<(ipTakeT f.body).1.body.length then (0,noF,14)
 else ((nth n.irbs (lookT n irb (ipTakeT f.body).1.dst).1).domain,
  ⟨hostN (ipTakeT f.body).1.dst,hostN (nth n.irbs (lookT n irb (ipTakeT f.body).1.dst).1).addr,2048,H4 (Amx (ipTakeT f.body).1)⟩,0)
structure OutM where
 kind:Int
 port:Int
 domain:Int
 bytes:List UInt8
 frame:FrameM
 error:Int
def H3(o:OutM):SV:=.agg [Aa o.kind,Aa o.port,Aa o.domain,.sl 1 Ak o.bytes,Bj o.frame.dst,Bj o.frame.src,Aa o.frame.typ,.sl 1 Ak o.frame.body,Aa o.error]
def learnQ(t:List EntryM)(q:QueuedM)(now:Int):List EntryM :=
 if q.from_=-2 then t else learnT t q.frame.src (if q.from_=-1 then -1-q.peer else q.from_) now
def Vo(o:OutM)(r:List UInt8×Int):OutM:=if r.2≠0 then ⟨5,o.port,o.domain,[],o.frame,r.2⟩ else ⟨o.kind,o.port,o.domain,r.1,o.frame,o.error⟩
def Uo(n:Net)(dom:Int)(f:FrameM)(p:Int):OutM:=Vo ⟨if (nth n.ports p).link<0 then 1 else 2,p,0,[],noF,0⟩ (leaveT n p dom f)
def Xg(n:Net)(dom:Int)(f:FrameM)(p:Int):OutM:=Vo ⟨3,0,p,[],noF,0⟩ (meshT n dom p f)
def bridgeT(n:Net)(fw:List Bool)(t:List EntryM)(dom:Int)(q:QueuedM)(now:Int):List EntryM×List OutM×Int :=
 if Ld n fw dom q.from_=false∨tableB t=false then ([],[],2)
 else if (routerT n dom q.frame.dst).2=true then
  (if (hopT n (routerT n dom q.frame.dst).1 q.frame).2.2≠0 then (learnQ t q now,[],(hopT n (routerT n dom q.frame.dst).1 q.frame).2.2)
   else (learnQ t q now,[⟨4,0,(hopT n (routerT n dom q.frame.dst).1 q.frame).1,[],(hopT n (routerT n dom q.frame.dst).1 q.frame).2.1,0⟩],0))
 else (learnQ t q now,(Dt n fw (learnQ t q now) dom q.from_ q.frame.dst).1.map (Uo n dom q.frame)++(Dt n fw (learnQ t q now) dom q.from_ q.frame.dst).2.1.map (Xg n dom q.frame),0)
attribute [local irreducible] Go.Sy.G Go.Sy.DR
set_option maxRecDepth 100000
set_option maxHeartbeats 4000000
def J5{κ:Ka}{w:World}{k sz:Nat}{α:Type}{e:α→SV}{l:List α}(af:l≠[])(h:ObOK κ w k (.row sz e l)):∃b n c,κ k=.row b n c:=by
 rcases h with ⟨_,h⟩|⟨b,cap,_,_,_,h,_⟩
 ·exact yB h af
 ·exact⟨b,_,cap,h⟩
def Anl(l:List Device)(hl:l.length<2147483648):Sp 103 [.sl 5 Aw l] (.sl 5 Aw l):=cT F103 ntmps103 λF hF=>by
 conv=>whnf
 refine Eh E (.inl E) E E E .sl E E ?_;intro b hb;cases b
 ·refine oF ?_;refine Ah (Ag Γ.toTy 7 E E E E E (.lit (e:=Aw) (l:=[]) E E) .sl y_ (by simp;omega) (by simp;omega)) E E ?_;refine Aj 7 E ?_;exact gF
 ·have h0:l=[]:=zX (hb rfl);subst h0;refine oT ?_;refine An 2 5 Aw E ?_;exact dN
def Avn(l:List Link)(hl:l.length<2147483648):Sp 105 [.sl 3 B5 l] (.sl 3 B5 l):=cT F105 ntmps105 λF hF=>by
 conv=>whnf
 refine Eh E (.inl E) E E E .sl E E ?_;intro b hb;cases b
 ·refine oF ?_;refine Ah (Ag Γ.toTy 7 E E E E E (.lit (e:=B5) (l:=[]) E E) .sl y_ (by simp;omega) (by simp;omega)) E E ?_;refine Aj 7 E ?_;exact gF
 ·have h0:l=[]:=zX (hb rfl);subst h0;refine oT ?_;refine An 2 3 B5 E ?_;exact dN
def Ani(l:List Static)(hl:l.length<2147483648):Sp 107 [.sl 4 A2 l] (.sl 4 A2 l):=cT F107 ntmps107 λF hF=>by
 conv=>whnf
 refine Eh E (.inl E) E E E .sl E E ?_;intro b hb;cases b
 ·refine oF ?_;refine Ah (Ag Γ.toTy 7 E E E E E (.lit (e:=A2) (l:=[]) E E) .sl y_ (by simp;omega) (by simp;omega)) E E ?_;refine Aj 7 E ?_;exact gF
 ·have h0:l=[]:=zX (hb rfl);subst h0;refine oT ?_;refine An 2 4 A2 E ?_;exact dN
def A00(l:List Irb)(hl:l.length<2147483648):Sp 110 [.sl 5 Cb l] (.sl 5 Cb l):=cT F110 ntmps110 λF hF=>by
 conv=>whnf
 refine Eh E (.inl E) E E E .sl E E ?_;intro b hb;cases b
 ·refine oF ?_;refine Ah (Ag Γ.toTy 7 E E E E E (.lit (e:=Cb) (l:=[]) E E) .sl y_ (by simp;omega) (by simp;omega)) E E ?_;refine Aj 7 E ?_;exact gF
 ·have h0:l=[]:=zX (hb rfl);subst h0;refine oT ?_;refine An 2 5 Cb E ?_;exact dN
def Ey(l:List Int)(hl:l.length<2147483648):Sp 111 [.sl 1 Aa l] (.sl 1 Aa l):=cT F111 ntmps111 λF hF=>by
 conv=>whnf
 refine Eh E (.inl E) E E E .sl E E ?_;intro b hb;cases b
 ·refine oF ?_;refine Ah (Ag Γ.toTy 7 E E E E E (.lit (e:=Aa) (l:=[]) E E) .sl y_ (by simp;omega) (by simp;omega)) E E ?_;refine Aj 7 E ?_;exact gF
 ·have h0:l=[]:=zX (hb rfl);subst h0;refine oT ?_;refine An 2 1 Aa E ?_;exact dN
def Acn(l:List Int)(hl:l.length<2147483648):Sp 112 [.sl 1 A9 l] (.sl 1 A9 l):=cT F112 ntmps112 λF hF=>by
 conv=>whnf
 refine Eh E (.inl E) E E E .sl E E ?_;intro b hb;cases b
 ·refine oF ?_;refine Ah (Ag Γ.toTy 7 E E E E E (.lit (e:=A9) (l:=[]) E E) .sl y_ (by simp;omega) (by simp;omega)) E E ?_;refine Aj 7 E ?_;exact gF
 ·have h0:l=[]:=zX (hb rfl);subst h0;refine oT ?_;refine An 2 1 A9 E ?_;exact dN
def Avp(l:List Bool)(hl:l.length<2147483648):Sp 43 [.sl 1 Ab l] (.sl 1 Ab l):=cT F43 ntmps43 λF hF=>by
 conv=>whnf
 refine Eh E (.inl E) E E E .sl E E ?_;intro b hb;cases b
 ·refine oF ?_;refine Ah (Ag Γ.toTy 7 E E E E E (.lit (e:=Ab) (l:=[]) E E) .sl y_ (by simp;omega) (by simp;omega)) E E ?_;refine Aj 7 E ?_;exact gF
 ·have h0:l=[]:=zX (hb rfl);subst h0;refine oT ?_;refine An 2 1 Ab E ?_;exact dN
def Ahx(l:List Port)(hl:l.length<2147483648):Sq 104 [.sl 7 A7 l] [] (.osl 0) [(0,.row 7 A7 l)]:=cT F104 ntmps104 λF hF=>by
 conv=>whnf
 refine Eh E (.inl E) E E E .sl E E ?_;intro b hb;cases b
 ·refine oF ?_;refine Ah (Ag Γ.toTy 7 E E E E E (.lit (e:=A7) (l:=[]) E E) .sl y_ (by simp;omega) (by simp;omega)) E E ?_;refine oO ?_;exact done E (.cons .tmp .nil) [(0,7)] [(0,.row 7 A7 l)] (λ_ h=>h) E E uU
 ·have h0:l=[]:=zX (hb rfl);subst h0;refine oT ?_;refine Ce 2 1000 7 A7 E E ?_;exact done E (.cons .tmp .nil) [(0,1000)] [(0,.row 7 A7 [])] (λ_ h=>h) E E uU
def Aa7(l:List Domain)(hl:l.length<2147483648):Sq 106 [.sl 6 Aq l] [] (.osl 0) [(0,.row 6 Aq l)]:=cT F106 ntmps106 λF hF=>by
 conv=>whnf
 refine Eh E (.inl E) E E E .sl E E ?_;intro b hb;cases b
 ·refine oF ?_;refine Ah (Ag Γ.toTy 7 E E E E E (.lit (e:=Aq) (l:=[]) E E) .sl y_ (by simp;omega) (by simp;omega)) E E ?_;refine oO ?_;exact done E (.cons .tmp .nil) [(0,7)] [(0,.row 6 Aq l)] (λ_ h=>h) E E uU
 ·have h0:l=[]:=zX (hb rfl);subst h0;refine oT ?_;refine Ce 2 1000 6 Aq E E ?_;exact done E (.cons .tmp .nil) [(0,1000)] [(0,.row 6 Aq [])] (λ_ h=>h) E E uU
def Ad2(l:List Flood)(hl:l.length<2147483648):Sq 108 [.sl 4 Bh l] [] (.osl 0) [(0,.row 4 Bh l)]:=cT F108 ntmps108 λF hF=>by
 conv=>whnf
 refine Eh E (.inl E) E E E .sl E E ?_;intro b hb;cases b
 ·refine oF ?_;refine Ah (Ag Γ.toTy 7 E E E E E (.lit (e:=Bh) (l:=[]) E E) .sl y_ (by simp;omega) (by simp;omega)) E E ?_;refine oO ?_;exact done E (.cons .tmp .nil) [(0,7)] [(0,.row 4 Bh l)] (λ_ h=>h) E E uU
 ·have h0:l=[]:=zX (hb rfl);subst h0;refine oT ?_;refine Ce 2 1000 4 Bh E E ?_;exact done E (.cons .tmp .nil) [(0,1000)] [(0,.row 4 Bh [])] (λ_ h=>h) E E uU
def Ak7(l:List Vrf)(hl:l.length<2147483648):Sq 109 [.sl 5 Ck l] [] (.osl 0) [(0,.row 5 Ck l)]:=cT F109 ntmps109 λF hF=>by
 conv=>whnf
 refine Eh E (.inl E) E E E .sl E E ?_;intro b hb;cases b
 ·refine oF ?_;refine Ah (Ag Γ.toTy 7 E E E E E (.lit (e:=Ck) (l:=[]) E E) .sl y_ (by simp;omega) (by simp;omega)) E E ?_;refine oO ?_;exact done E (.cons .tmp .nil) [(0,7)] [(0,.row 5 Ck l)] (λ_ h=>h) E E uU
 ·have h0:l=[]:=zX (hb rfl);subst h0;refine oT ?_;refine Ce 2 1000 5 Ck E E ?_;exact done E (.cons .tmp .nil) [(0,1000)] [(0,.row 5 Ck [])] (λ_ h=>h) E E uU
def copyS(n:Net)(hn:n.Fin):Sp 38 [Ao n] (Ao n):=cT F38 ntmps38 λF hF=>by
 have h1:n.devices.length<2147483648∧n.ports.length<2147483648∧n.links.length<2147483648∧n.domains.length<2147483648∧n.statics.length<2147483648∧n.floods.length<2147483648∧n.vrfs.length<2147483648∧n.irbs.length<2147483648:=⟨hn.devices,hn.ports,hn.links,hn.domains,hn.statics,hn.floods,hn.vrfs,hn.irbs⟩
 have h2:(∀p∈n.ports,p.tagged.length<2147483648)∧(∀p∈n.domains,p.peers.length<2147483648)∧(∀p∈n.floods,p.addrs.length<2147483648)∧(∀p∈n.vrfs,p.imports.length<2147483648∧p.exports.length<2147483648):=⟨hn.tagged,hn.peers,hn.addrs,λv hv=>⟨hn.imports v hv,hn.exports v hv⟩⟩
 conv=>whnf
 refine cD (Anl n.devices h1.1) F103 ?_;refine oD ?_;refine Bv (Ad [(0,14)] E F104 (Ahx n.ports h1.2.1) E Y E ⟨.inr E,Y⟩) z_ E ?_;refine oD ?_;refine cD (Avn n.links h1.2.2.1) F105 ?_;refine oD ?_;refine Bv (Ad [(0,20)] E F106 (Aa7 n.domains h1.2.2.2.1) E Y E ⟨.inr E,Y⟩) z_ E ?_;refine oD ?_;refine cD (Ani n.statics h1.2.2.2.2.1) F107 ?_;refine oD ?_;refine Bv (Ad [(0,26)] E F108 (Ad2 n.floods h1.2.2.2.2.2.1) E Y E ⟨.inr E,Y⟩) z_ E ?_;refine oD ?_;refine Bv (Ad [(0,29)] E F109 (Ak7 n.vrfs h1.2.2.2.2.2.2.1) E Y E ⟨.inr E,Y⟩) z_ E ?_;refine oD ?_;refine cD (A00 n.irbs h1.2.2.2.2.2.2.2) F110 ?_;refine gH ?_;refine A8 n.ports.length (λj=>[(2,.ptr 2 0),(3,.ptr 3 0),(36,Aa n.ports.length),(37,Aa j)]) (λ_=>[(2,.box [.val (.slice none 0 0),.val (.slice none 0 0),.val (.slice none 0 0),.val (.slice none 0 0),.val (.slice none 0 0),.val (.slice none 0 0),.val (.slice none 0 0),.val (.slice none 0 0)]),(3,.box [.sl 5 Aw n.devices,.osl 14,.sl 3 B5 n.links,.osl 20,.sl 4 A2 n.statics,.osl 26,.osl 29,.sl 5 Cb n.irbs]),(14,.row 7 A7 n.ports),(20,.row 6 Aq n.domains),(26,.row 4 Bh n.floods),(29,.row 5 Ck n.vrfs)]) []
  uU ?_
 intro j hj;refine oO ?_;constructor<;>intro h
 ·have ab:j<n.ports.length:=by simpa using h
  obtain ⟨p,hp⟩:∃p,n.ports[(j:Int).toNat]'q_=p:=⟨_,rfl⟩
  have af:n.ports≠[]:=λe=>by rw[e]at ab;cases ab
  have a6:n.ports.set (j:Int).toNat p=n.ports:=by rw[←hp];exact wO _
  have a7:=h2.1 p (by rw[←hp];exact zJ _);refine oO ?_;refine⟨by omega,by show _<n.ports.length;omega,?_⟩
  conv=>whnf
  refine⟨af,?_⟩
  conv=>whnf
  refine⟨E,by omega,?_⟩;rw[hp]
  conv=>whnf
  refine cD (Ey p.tagged a7) F111 ?_;refine oD ?_;refine⟨by omega,by show _<n.ports.length;omega,?_⟩
  conv=>whnf
  refine⟨af,?_⟩
  conv=>whnf
  refine⟨E,by omega,p,(by rw[hp];rfl),(by rw[hp];rfl),?_⟩
  conv=>whnf
  refine kW ?_;refine iW ?_;exact Az [] ab ⟨⟨E,E,E,E,E,E,E,E,Y⟩,⟨.inl E,E,.inl E,E,.inl (zH (Ob.row 7 A7) a6.symm),E,.inl E,E,.inl E,E,.inl E,E,Y⟩,E,E⟩
 ·refine oO ?_;refine A8 n.domains.length (λj=>[(2,.ptr 2 0),(3,.ptr 3 0),(55,Aa n.domains.length),(56,Aa j)]) (λ_=>[(2,.box [.val (.slice none 0 0),.val (.slice none 0 0),.val (.slice none 0 0),.val (.slice none 0 0),.val (.slice none 0 0),.val (.slice none 0 0),.val (.slice none 0 0),.val (.slice none 0 0)]),(3,.box [.sl 5 Aw n.devices,.osl 14,.sl 3 B5 n.links,.osl 20,.sl 4 A2 n.statics,.osl 26,.osl 29,.sl 5 Cb n.irbs]),(14,.row 7 A7 n.ports),(20,.row 6 Aq n.domains),(26,.row 4 Bh n.floods),(29,.row 5 Ck n.vrfs)]) []
   uU ?_
  intro j hj;refine oO ?_;constructor<;>intro h
  ·have ab:j<n.domains.length:=by simpa using h
   obtain ⟨p,hp⟩:∃p,n.domains[(j:Int).toNat]'q_=p:=⟨_,rfl⟩
   have af:n.domains≠[]:=λe=>by rw[e]at ab;cases ab
   have a6:n.domains.set (j:Int).toNat p=n.domains:=by rw[←hp];exact wO _
   have a7:=h2.2.1 p (by rw[←hp];exact zJ _);refine oO ?_;refine⟨by omega,by show _<n.domains.length;omega,?_⟩
   conv=>whnf
   refine⟨af,?_⟩
   conv=>whnf
   refine⟨E,by omega,?_⟩;rw[hp]
   conv=>whnf
   refine cD (Ey p.peers a7) F111 ?_;refine oD ?_;refine⟨by omega,by show _<n.domains.length;omega,?_⟩
   conv=>whnf
   refine⟨af,?_⟩
   conv=>whnf
   refine⟨E,by omega,p,(by rw[hp];rfl),(by rw[hp];rfl),?_⟩
   conv=>whnf
   refine kW ?_;refine iW ?_;exact Az [] ab ⟨⟨E,E,E,E,E,E,E,E,Y⟩,⟨.inl E,E,.inl E,E,.inl E,E,.inl (zH (Ob.row 6 Aq) a6.symm),E,.inl E,E,.inl E,E,Y⟩,E,E⟩
  ·refine oO ?_;refine A8 n.floods.length (λj=>[(2,.ptr 2 0),(3,.ptr 3 0),(74,Aa n.floods.length),(75,Aa j)]) (λ_=>[(2,.box [.val (.slice none 0 0),.val (.slice none 0 0),.val (.slice none 0 0),.val (.slice none 0 0),.val (.slice none 0 0),.val (.slice none 0 0),.val (.slice none 0 0),.val (.slice none 0 0)]),(3,.box [.sl 5 Aw n.devices,.osl 14,.sl 3 B5 n.links,.osl 20,.sl 4 A2 n.statics,.osl 26,.osl 29,.sl 5 Cb n.irbs]),(14,.row 7 A7 n.ports),(20,.row 6 Aq n.domains),(26,.row 4 Bh n.floods),(29,.row 5 Ck n.vrfs)]) []
    uU ?_
   intro j hj;refine oO ?_;constructor<;>intro h
   ·have ab:j<n.floods.length:=by simpa using h
    obtain ⟨p,hp⟩:∃p,n.floods[(j:Int).toNat]'q_=p:=⟨_,rfl⟩
    have af:n.floods≠[]:=λe=>by rw[e]at ab;cases ab
    have a6:n.floods.set (j:Int).toNat p=n.floods:=by rw[←hp];exact wO _
    have a7:=h2.2.2.1 p (by rw[←hp];exact zJ _);refine oO ?_;refine⟨by omega,by show _<n.floods.length;omega,?_⟩
    conv=>whnf
    refine⟨af,?_⟩
    conv=>whnf
    refine⟨E,by omega,?_⟩;rw[hp]
    conv=>whnf
    refine cD (Acn p.addrs a7) F112 ?_;refine oD ?_;refine⟨by omega,by show _<n.floods.length;omega,?_⟩
    conv=>whnf
    refine⟨af,?_⟩
    conv=>whnf
    refine⟨E,by omega,p,(by rw[hp];rfl),(by rw[hp];rfl),?_⟩
    conv=>whnf
    refine kW ?_;refine iW ?_;exact Az [] ab ⟨⟨E,E,E,E,E,E,E,E,Y⟩,⟨.inl E,E,.inl E,E,.inl E,E,.inl E,E,.inl (zH (Ob.row 4 Bh) a6.symm),E,.inl E,E,Y⟩,E,E⟩
   ·refine oO ?_;refine A8 n.vrfs.length (λj=>[(2,.ptr 2 0),(3,.ptr 3 0),(93,Aa n.vrfs.length),(94,Aa j)]) (λ_=>[(2,.box [.val (.slice none 0 0),.val (.slice none 0 0),.val (.slice none 0 0),.val (.slice none 0 0),.val (.slice none 0 0),.val (.slice none 0 0),.val (.slice none 0 0),.val (.slice none 0 0)]),(3,.box [.sl 5 Aw n.devices,.osl 14,.sl 3 B5 n.links,.osl 20,.sl 4 A2 n.statics,.osl 26,.osl 29,.sl 5 Cb n.irbs]),(14,.row 7 A7 n.ports),(20,.row 6 Aq n.domains),(26,.row 4 Bh n.floods),(29,.row 5 Ck n.vrfs)]) []
     uU ?_
    intro j hj;refine oO ?_;constructor<;>intro h
    ·have ab:j<n.vrfs.length:=by simpa using h
     obtain ⟨p,hp⟩:∃p,n.vrfs[(j:Int).toNat]'q_=p:=⟨_,rfl⟩
     have af:n.vrfs≠[]:=λe=>by rw[e]at ab;cases ab
     have a6:n.vrfs.set (j:Int).toNat p=n.vrfs:=by rw[←hp];exact wO _
     have a7:=h2.2.2.2 p (by rw[←hp];exact zJ _);refine oO ?_;have lp:n.vrfs.set (j:Int).toNat p≠[]:=by rw[a6];exact af
     have d8:(n.vrfs.set (j:Int).toNat p)[(j:Int).toNat]'(by rw[a6];omega)=p:=by simp
     have pl:(n.vrfs.set (j:Int).toNat p).set (j:Int).toNat p=n.vrfs:=by rw[a6,a6]
     refine⟨by omega,by show _<n.vrfs.length;omega,?_⟩
     conv=>whnf
     refine Bv (Dc E (.inr (.inr (.inr ⟨29,5,_,0,E,λκ w h=>J5 af h,E⟩)))) z_ E ?_;refine oD ?_;refine⟨af,?_⟩
     conv=>whnf
     refine⟨E,by omega,?_⟩;rw[hp]
     conv=>whnf
     refine cD (Ey p.imports a7.1) F111 ?_;refine oD ?_;refine Bv (Dc E (.inr (.inr (.inr ⟨29,5,_,0,E,λκ w h=>J5 af h,E⟩)))) z_ E ?_;refine oD ?_;refine⟨af,?_⟩
     conv=>whnf
     refine⟨E,by omega,?_⟩;rw[hp]
     conv=>whnf
     refine cD (Ey p.exports a7.2) F111 ?_;refine oD ?_;refine Bv (Dc E (.inr (.inr (.inr ⟨29,5,_,0,E,λκ w h=>J5 af h,E⟩)))) z_ E ?_;refine oD ?_;refine⟨af,?_⟩
     conv=>whnf
     refine⟨E,by omega,p,(by rw[hp];rfl),(by rw[hp];rfl),?_⟩
     conv=>whnf
     refine Bv (Dc E (.inr (.inr (.inr ⟨29,5,_,0,E,λκ w h=>J5 lp h,E⟩)))) z_ E ?_;refine oD ?_;refine⟨lp,?_⟩
     conv=>whnf
     refine⟨E,by rw[a6];omega,p,(by rw[d8];rfl),(by rw[d8];rfl),?_⟩
     conv=>whnf
     refine kW ?_;refine iW ?_;exact Az [] ab ⟨⟨E,E,E,E,E,E,E,E,Y⟩,⟨.inl E,E,.inl E,E,.inl E,E,.inl E,E,.inl E,E,.inl (zH (Ob.row 5 Ck) pl.symm),E,Y⟩,E,E⟩
    ·refine oO ?_;refine Aj 14 E ?_;refine Aj 20 E ?_;refine Aj 26 E ?_;refine Aj 29 E ?_;exact dN
def T5(l:List UInt8)(hl:l.length<2147483648):Sp 254 [.sl 1 Ak l] (.sl 1 Ak l):=cT F254 ntmps254 λF hF=>by
 conv=>whnf
 refine Eh E (.inl E) E E E .sl E E ?_;intro b hb;cases b
 ·refine oF ?_;refine Ah (Ag Γ.toTy 7 E E E E E (.lit (e:=Ak) (l:=[]) E E) .sl y_ (by simp;omega) (by simp;omega)) E E ?_;refine Aj 7 E ?_;exact gF
 ·have h0:l=[]:=zX (hb rfl);subst h0;refine oT ?_;refine An 2 1 Ak E ?_;exact dN
def cut6(b:List UInt8)(k j:Nat)(hj:j<6)(h:k+6≤b.length):Hz (((b.drop k).take 6).take (j+1))=Hz (((b.drop k).take 6).take j)*256+(b[k+j]'q_).toNat:=by
 rw[Axx _ (by rw[zY,yQ];omega)];congr 2;rw[wD,vQ]
def Aps(b:List UInt8)(k:Nat)(h:k+6≤b.length)(hb:b.length<100000):Sp 152 [.sl 1 Ak b,Aa k] (.tup [Bj (Hz ((b.drop k).take 6)),Ab true]):=cT F152 ntmps152 λF hF=>by
 ((conv=>whnf);refine aF ?_;refine rg ?_;conv=>whnf)
 refine iW ?_
 (refine⟨λh=>False.elim (by simp at h;omega),λ_=>?_⟩;refine rg ?_;conv=>whnf)
 refine A8 6 (λj=>[(0,.sl 1 Ak b),(1,Aa k),(6,Bj (Hz (((b.drop k).take 6).take j))),(17,Aa j)]) (λ_=>[]) [] uU ?_;intro j hj;have cz:=S4 _ (((b.drop k).take 6).take j) rfl;refine oO ?_;constructor<;>intro h2
 ·have zx:j<6:=by have:=zO h2;omega
  have hs:=cut6 b k j zx h;have kc:(((b.drop k).take 6).take j).length=j:=by rw[zY,zY,yQ];omega
  rw[kc]at cz;have h5:Hz (((b.drop k).take 6).take j)<1099511627776:=yW cz (by
   have:(256:Nat) ^ j≤256 ^ 5:=wX j_ q_;exact this)
  have dg:((k:Int)+(j:Int)).toNat<b.length:=by omega
  obtain ⟨c,hc⟩:∃c,b[((k:Int)+(j:Int)).toNat]'dg=c:=⟨_,rfl⟩
  have fk:b[k+j]'q_=c:=by rw[←hc];congr 1
  rw[fk]at hs;have hcat:=A58 _ c h5;refine oO ?_;refine⟨by decide,?_⟩
  conv=>whnf
  refine iW ?_;refine⟨E,by omega,dg,?_⟩;rw[hc]
  conv=>whnf
  refine iW ?_;exact Az [] zx ⟨⟨E,E,E,E,zH (λz:Int=>SV.val (.int .u64 z)) (hcat.trans (zH Int.ofNat hs.symm)).symm,E,E,E,Y⟩,Y,E,E⟩
 ·have zx:j=6:=by have:=zT h2;omega
  subst zx;rw[List.take_take,Nat.min_self];exact gF
def Aji(a b:UInt8):Hz [a,b]=a.toNat*256+b.toNat:=by simp[Hz]
def Zl{b:List UInt8}{k:Nat}(h:k+2≤b.length):(b.drop k).take 2=[b[k]'q_,b[k+1]'q_]:=by
 rw[yK (by omega:k<b.length),yK (by omega:k+1<b.length)];rfl
def Tx(b:List UInt8)(hb:b.length<100000):Sp 81 [.sl 1 Ak b] (.tup [De (takeF b).1,Aa (takeF b).2]):=cT F81 ntmps81 λF hF=>by
 have aa:=takeF.eq_1 b;generalize takeF b=res at *
 conv=>whnf
 constructor<;>intro h
 ·rw[zE (qA h)]at aa;subst aa;refine oO ?_;refine Al 2 [Bj 0,Bj 0,Aa 0,.sl 1 Ak []] E vL ?_;exact dN
 rw[zD (qB h)]at aa;have h14:14≤b.length:=qB h;refine oO ?_;constructor<;>intro h
 ·rw[zE (qA h)]at aa;subst aa;refine oO ?_;refine Al 2 [Bj 0,Bj 0,Aa 0,.sl 1 Ak []] E vL ?_;exact dN
 rw[zD (qB h)]at aa;have q1:=Aps b 0 q_ hb;have q2:=Aps b 6 q_ hb;rw[Zl q_,Aji]at aa;have hp:=I8 (b[12]'q_) (b[13]'q_);have fu:(b.drop 14).length=b.length-14:=yQ;have hn:((b.length:Int)-14)=((b.length-14:Nat):Int):=by omega
 have nk:(b.drop 14).take (List.replicate (b.length-14) (0:UInt8)).length++(List.replicate (b.length-14) (0:UInt8)).drop (b.drop 14).length=b.drop 14:=by
  have e1:(List.replicate (b.length-14) (0:UInt8)).drop (b.length-14)=[]:=vI y_;rw[xS,fu,e1,xM];exact xG q_
 have wv:(b.take b.length).drop 14=b.drop 14:=by rw[yN]
 have i12:(12:Int).toNat<b.length:=by show 12<_;omega
 have i13:(13:Int).toNat<b.length:=by show 13<_;omega
 refine oO ?_;refine c0 q1 F152 ?_;refine oO ?_;refine c0 q2 F152 ?_;refine gE ?_;refine Ah (B4 Γ.toTy (d:=32) (n:=b.length-14) Ak 0 E E E E E E (zH (λz=>SV.val (.int .i64 z)) hn) (zH (λz=>SV.val (.int .i64 z)) hn) q_ q_ E E E) E E ?_;refine oO ?_;refine Ah (D0 (lo:=14) (hi:=b.length) Γ.toTy E E E E (.inr ⟨_,_,E,E⟩) (.inl ⟨E,E⟩) q_ (yD _)) E E ?_;rw[wv];refine oO ?_;refine Ah (Wy Γ.toTy E E E E E .sl) E E ?_;rw[nk];refine Aj 32 E ?_;refine oO ?_;refine⟨E,by decide,i12,?_⟩
 conv=>whnf
 refine⟨by decide,?_⟩
 conv=>whnf
 refine⟨E,by decide,i13,?_⟩
 conv=>whnf
 refine kW ?_;refine As E (.cons (.cell E E E E) (.cons .tmp .nil)) ?_ E;rw[aa];show SV.tup [.agg [_,_,Aa ((b[12].toNat*256+b[13].toNat:Nat):Int),_],_]=_;rw[←hp];rfl
def On(m:Nat)(h:m<18446744073709551616):Sp 177 [Bj m] (Ab (Dx m)):=cT F177 ntmps177 λF hF=>by
 have e:=Akk m h;refine fW ?_;refine As E (.cons .tmp .nil) ?_ E;exact zH Ab e.symm
def Wo(f:FrameM):Sp 153 [De f] (Ab (decide (f.typ=33024))):=cT F153 ntmps153 λF hF=>by
 conv=>whnf
 refine As E (.cons .tmp .nil) ?_ E;refine zH Ab ?_;rw[wF];simp;omega
def T0(p:Port)(tg:Bool)(gr:Int)(hl:Am p.tagged):Sp 178 [A7 p,Ab tg,Aa gr] (.tup [Aa (vlanT p tg gr).1,Ab (vlanT p tg gr).2]):=cT F178 ntmps178 λF hF=>by
 have aa:=vlanT.eq_1 p tg gr;generalize vlanT p tg gr=res at *;have q:=Eb p.tagged gr hl;have hz:decide (p.native≠0)=(p.native != 0):=by rw[wF];simp
 rw[hz]at aa;cases tg
 ·rw[zE (.inl rfl)]at aa;subst aa
  ((conv=>whnf);refine aT ?_;refine rg ?_;conv=>whnf)
  refine kW ?_;exact dN
 ((conv=>whnf);refine aF ?_;refine rg ?_;conv=>whnf)
 constructor<;>intro h
 ·rw[zE (.inr (by simpa using h))]at aa;subst aa;refine oO ?_;refine kW ?_;exact dN
 rw[zD (by simpa using h)]at aa;refine oO ?_;refine c0 q F74 ?_;cases hi:inB p.tagged gr
 ·rw[zD (by simp[hi])]at aa;subst aa;refine oF ?_;exact dN
 ·rw[zE hi]at aa;subst aa;refine oT ?_;exact dN
def A5m(n:Nat)(h:n<9223372036854775808):bits .and .i64 (n:Int) 4095=((n%4096:Nat):Int):=by
 have:=Lk n 4095 h j_;rw[show ((4095:Nat):Int)=4095 from rfl]at this;rw[this];have h2:=uN n 12;rw[show 2^12-1=4095 from rfl,show 2^12=4096 from rfl]at h2;rw[h2]
def A5i{b:List UInt8}(h:4≤b.length):b.take 2=[b[0]'q_,b[1]'q_]∧(b.drop 2).take 2=[b[2]'q_,b[3]'q_]:=by
 have h1:=Zl (b:=b) (k:=0) q_;have h2:=Zl (b:=b) (k:=2) q_;exact⟨h1,h2⟩
abbrev zF:List SV:=[Bj 0,Bj 0,Aa 0,.sl 1 Ak []]
def Ax4(f:FrameM)(hb:f.body.length<100000):Sp 176 [De f] (.tup [De (stripT f).1,Aa (stripT f).2.1,Aa (stripT f).2.2.1,Aa (stripT f).2.2.2]):=cT F176 ntmps176 λF hF=>by
 have aa:=stripT.eq_1 f;generalize stripT f=res at *;have q0:=Wo f;obtain ⟨d,s,t,b⟩:=f;dsimp only at aa hb q0
 conv=>whnf
 refine c0 q0 F153 ?_;by_cases ht:t=33024;rotate_left
 ·rw[zE ht]at aa;subst aa;rw[zI ht];refine oT ?_;refine Al 2 zF E vL ?_;exact dN
 rw[zD (by simpa using ht)]at aa;rw[zL ht];refine oF ?_;constructor<;>intro h
 ·rw[zE (by have:=zO h;dsimp only at this;omega)]at aa;subst aa;refine oO ?_;refine Al 2 zF E vL ?_;exact dN
 have h4:4≤b.length:=by have:=zT h;dsimp only at this;omega
 rw[zD q_,(A5i h4).1,(A5i h4).2,Aji,Aji]at aa;have c1:=T5 (b.drop 4) (by rw[yQ];omega);have wv:(b.take b.length).drop 4=b.drop 4:=by rw[yN]
 rw[←wv]at c1;have i0:(0:Int).toNat<b.length:=by show 0<_;omega
 have i1:(1:Int).toNat<b.length:=by show 1<_;omega
 have i2:(2:Int).toNat<b.length:=by show 2<_;omega
 have i3:(3:Int).toNat<b.length:=by show 3<_;omega
 have e0:b[(0:Int).toNat]'i0=b[0]'q_:=rfl;have e1:b[(1:Int).toNat]'i1=b[1]'q_:=rfl;have e2:b[(2:Int).toNat]'i2=b[2]'q_:=rfl;have e3:b[(3:Int).toNat]'i3=b[3]'q_:=rfl;have gu:=I8 (b[0]'q_) (b[1]'q_);have d8:=I8 (b[2]'q_) (b[3]'q_);have l0:=(b[0]'q_).toNat_lt;have l1:=(b[1]'q_).toNat_lt;obtain ⟨P,hP⟩:∃P,(b[0]'q_).toNat*256+(b[1]'q_).toNat=P:=⟨_,rfl⟩
 obtain ⟨Q,hQ⟩:∃Q,(b[2]'q_).toNat*256+(b[3]'q_).toNat=Q:=⟨_,rfl⟩
 have hPl:P<65536:=by omega
 rw[hP]at gu aa;rw[hQ]at d8 aa;have ha:=A5m P q_;have hs:(P:Int).fdiv (2^(min (Int.toNat 12) IntKind.i64.bits))=((P/4096:Nat):Int):=Awd P 12 j_;refine oO ?_;refine⟨E,by decide,i0,?_⟩;rw[e0]
 conv=>whnf
 refine⟨by decide,?_⟩
 conv=>whnf
 refine⟨E,by decide,i1,?_⟩;rw[e1]
 conv=>whnf
 refine⟨z_,?_⟩;rw[gu]
 conv=>whnf
 refine⟨E,by decide,i2,?_⟩;rw[e2]
 conv=>whnf
 refine⟨by decide,?_⟩
 conv=>whnf
 refine⟨E,by decide,i3,?_⟩;rw[e3]
 conv=>whnf
 refine⟨z_,?_⟩;rw[d8]
 conv=>whnf
 refine⟨by decide,?_⟩;rw[ha,hs]
 conv=>whnf
 constructor<;>intro h
 ·rw[zE (.inl (qA h))]at aa;subst aa;refine oO ?_;refine Al 2 zF E vL ?_;exact dN
 have h5:¬4094<P%4096:=qB h;refine oO ?_;constructor<;>intro h
 ·rw[zE (.inr (by have:(Q:Int)=33024:=(by simpa using h);omega))]at aa;subst aa;refine oO ?_;refine Al 2 zF E vL ?_;exact dN
 have h6:¬Q=33024:=λe=>by rw[e]at h;simp at h
 rw[zD q_]at aa;subst aa;refine oO ?_;refine Bv (D0 (lo:=4) (hi:=b.length) Γ.toTy E E E E (.inr ⟨_,_,E,E⟩) (.inl ⟨E,E⟩) h4 (yD _)) z_ E ?_;refine oD ?_;refine cD c1 F254 ?_;refine gH ?_;refine As E (.cons (.cell E E E E) (.cons .tmp (.cons .tmp (.cons .tmp .nil)))) ?_ E;show SV.tup [.agg [_,_,_,.sl 1 Ak (b.drop 4)],_,_,_]=SV.tup [.agg [_,_,_,.sl 1 Ak ((b.take b.length).drop 4)],_,_,_];rw[wv];rfl
def M2(f:FrameM)(h:FrameOK f):Sq 83 [De f] [] (.tup [.osl 0,Aa 0]) [(0,.row 1 Ak (Lu f))]:=Aqx f.dst f.src f.typ f.body h.dst h.src h.typ h.body
def Aog(f:FrameM)(v:Nat)(h:FrameOK f)(hv:v≤4094):Sp 82 [De f,Aa v,Aa 0] (.tup [De (tagT f v).1,Aa (tagT f v).2]):=by
 have aa:=tagT.eq_1 f v;have q0:=Wo f;obtain ⟨d,s,t,b⟩:=f;have h1:=h.typ;have h2:=h.body;dsimp only at aa q0 h1 h2;by_cases ht:t=33024
 ·rw[zE ht]at aa;rw[aa];rw[zL ht]at q0;refine Su Γ hm 100 F82 ntmps82 E λF hF=>by
   conv=>whnf
   refine c0 q0 F153 ?_
   (refine oT ?_;refine bT ?_;refine bT ?_;refine bT ?_;refine bT ?_)
   refine Al 6 zF E vL ?_;exact dN
 rw[zD ht]at aa;by_cases hb:1500<b.length
 ·rw[zE hb]at aa;rw[aa];rw[zI ht]at q0;refine Su Γ hm 100 F82 ntmps82 E λF hF=>by
   conv=>whnf
   refine c0 q0 F153 ?_
   (refine oF ?_;refine bF ?_)
   (refine⟨λh=>False.elim (by simp at h;omega),λ_=>?_⟩;refine rg ?_;(conv=>whnf);refine aF ?_;refine rg ?_;(conv=>whnf);refine aF ?_;refine rg ?_;(conv=>whnf);refine aF ?_;refine rg ?_;(conv=>whnf);refine⟨λh=>False.elim (by simp at h;omega),λ_=>?_⟩;refine rg ?_;(conv=>whnf);refine⟨λ_=>?_,λh=>False.elim (by simp at h;omega)⟩;refine rg ?_;conv=>whnf)
   refine Al 6 zF E vL ?_;exact dN
 rw[zD hb]at aa;rw[aa];exact A6d d s t v b ht h1 hv q_
def Ax3{b:List UInt8}(h:(takeF b).2≠0):(takeF b).1=noF:=by
 unfold takeF at h⊢;split
 ·rfl
 rw[zD (by assumption)]at h;split
 ·rfl
 rw[zD (by assumption)]at h;exact yB E h
def Aff{b:List UInt8}(h:(takeF b).2=0):FrameOK (takeF b).1:=by
 unfold takeF at h⊢;split
 ·rw[zE (by assumption)]at h;cases h
 rw[zD (by assumption)]at h;split
 ·rw[zE (by assumption)]at h;cases h
 rename_i h1 h2;have l1:((b.take 6).length)=6:=by rw[zY];omega
 have l2:(((b.drop 6).take 6).length)=6:=by rw[zY,yQ];omega
 have l3:(((b.drop 12).take 2).length)=2:=by rw[zY,yQ];omega
 have a1:=S4 _ _ l1;have a2:=S4 _ _ l2;have a3:=S4 _ _ l3;refine⟨a1,a2,?_,?_⟩
 ·dsimp only;exact Nat.le_of_lt_succ a3
 ·dsimp only;rw[yQ];omega
def A18{f:FrameM}(hf:FrameOK f)(h:(stripT f).2.2.2=0):FrameOK (stripT f).1:=by
 unfold stripT at h⊢;split
 ·rw[zE (by assumption)]at h;cases h
 rw[zD (by assumption)]at h;split
 ·rw[zE (by assumption)]at h;cases h
 rw[zD (by assumption)]at h;split
 ·rw[zE (by assumption)]at h;cases h
 rename_i h1 h2 h3;have l3:(((f.body.drop 2).take 2).length)=2:=by rw[zY,yQ];omega
 have a3:=S4 _ _ l3;have hb:=hf.body;refine⟨hf.dst,hf.src,?_,?_⟩
 ·dsimp only;exact Nat.le_of_lt_succ a3
 ·dsimp only;rw[yQ];omega
def strip_bad{f:FrameM}(h:(stripT f).2.2.2≠0):(stripT f).1=noF∧(stripT f).2.1=0:=by
 unfold stripT at h⊢;split
 ·exact⟨E,E⟩
 rw[zD (by assumption)]at h;split
 ·exact⟨E,E⟩
 rw[zD (by assumption)]at h;split
 ·exact⟨E,E⟩
 rw[zD (by assumption)]at h;exact yB E h
def Aqz(n:Net)(hn:n.Fin)(port:Int)(b:List UInt8)(hb:b.length<100000):Sp 113 [Ao n,Aa port,.sl 1 Ak b] (.tup [Aa (enterT n port b).1,De (enterT n port b).2.1,Aa (enterT n port b).2.2]):=cT F113 ntmps113 λF hF=>by
 have aa:=enterT.eq_1 n port b;generalize enterT n port b=res at *;have hr:=A0 n hn;refine fW ?_;by_cases jr:port<0
 ·rw[zE (.inl (by rw[Ai,zI q_];rfl))]at aa;subst aa
  (repeat (first|(refine⟨λh=>False.elim (by first|(exact yB h j_)|(simp at h;done)|(simp at h;omega)),λ_=>?_⟩;(refine fU ?_))|(refine⟨λ_=>?_,λh=>False.elim (by first|(exact yB h j_)|(simp at h;done)|(simp at h;omega))⟩;(refine fU ?_))))
  refine Al 7 zF E vL ?_;exact dN
 refine⟨λh=>yB (zO h) jr,λ_=>?_⟩;refine Ba 3 8 (Ao n) E E E ?_;by_cases ww:(n.ports.length:Int)≤port
 ·rw[zE (.inl (by rw[Ai,zI (by omega:¬port<_),wK]))]at aa;subst aa;refine fU ?_
  (repeat (first|(refine⟨λh=>False.elim (by first|(exact yB h j_)|(simp at h;done)|(simp at h;omega)),λ_=>?_⟩;(refine fU ?_))|(refine⟨λ_=>?_,λh=>False.elim (by first|(exact yB h j_)|(simp at h;done)|(simp at h;omega))⟩;(refine fU ?_))))
  refine Al 7 zF E vL ?_;exact dN
 have a7:Ai port n.ports.length=true:=by rw[Ai,zL q_,zL q_];rfl
 refine fU ?_
 (refine⟨λh=>False.elim (by first|(exact yB h j_)|(simp at h;done)|(simp at h;omega)),λ_=>?_⟩;(refine fU ?_))
 refine c0 hr F20 ?_;cases hbn:Ac n
 ·rw[zE (.inr hbn)]at aa;subst aa;refine fU ?_;refine Al 7 zF E vL ?_;exact dN
 rw[zD (by simp[hbn,a7])]at aa;have d7:0≤port:=by omega
 have hk:port.toNat<n.ports.length:=by omega
 have e1:nth n.ports port=n.ports[port.toNat]:=Af hk;have lc:=hn.tagged _ (zJ hk);obtain ⟨p,hp⟩:∃p,n.ports[port.toNat]'hk=p:=⟨_,rfl⟩
 rw[hp]at e1 lc;have qt:=Tx b hb;have dt:=@Aff b;have jz:=@Ax3 b;generalize takeF b=tf at *;obtain ⟨f,e⟩:=tf;dsimp only at aa qt dt jz;have qi:=Wo f;refine fU ?_;refine c0 qt F81 ?_;refine fU ?_;refine c0 qi F153 ?_;by_cases he:e=0;rotate_left
 ·rw[zE he]at aa;subst aa;obtain rfl:=jz he;refine fU ?_
  (refine⟨λh=>False.elim (by first|(exact yB h j_)|(simp at h;done)|(simp at h;omega)),λ_=>?_⟩;(refine fU ?_))
  (refine⟨λh=>False.elim (by first|(exact yB h j_)|(simp at h;done)|(simp at h;omega)),λ_=>?_⟩;(refine fU ?_))
  refine⟨E,d7,hk,?_⟩;rw[hp];refine fW ?_;refine c0 (T0 p false 0 lc) F178 ?_;refine fU ?_
  (repeat (first|(refine⟨λh=>False.elim (by first|(exact yB h j_)|(simp at h;done)|(simp at h;omega)),λ_=>?_⟩;(refine fU ?_))|(refine⟨λ_=>?_,λh=>False.elim (by first|(exact yB h j_)|(simp at h;done)|(simp at h;omega))⟩;(refine fU ?_))))
  refine Al 7 zF E vL ?_;exact dN
 subst he;rw[zD j_]at aa;have pk:=dt rfl;by_cases ht:f.typ=33024
 ·rw[zE ht]at aa;rw[zL ht];have qs:=Ax4 f (by have:=pk.body;omega);have hso:=@A18 f pk;have hsb:=@strip_bad f;generalize stripT f=st at *;obtain ⟨g,gr,prio,e2⟩:=st;dsimp only at aa qs hso hsb;refine fU ?_;refine c0 qs F176 ?_;by_cases dq:e2=0;rotate_left
  ·rw[zE dq]at aa;subst aa;obtain ⟨rfl,rfl⟩:=hsb dq;refine fU ?_
   (refine⟨λh=>False.elim (by first|(exact yB h j_)|(simp at h;done)|(simp at h;omega)),λ_=>?_⟩;(refine fU ?_))
   refine⟨E,d7,hk,?_⟩;rw[hp];refine fW ?_;refine c0 (T0 p true 0 lc) F178 ?_;refine fU ?_
   (repeat (first|(refine⟨λh=>False.elim (by first|(exact yB h j_)|(simp at h;done)|(simp at h;omega)),λ_=>?_⟩;(refine fU ?_))|(refine⟨λ_=>?_,λh=>False.elim (by first|(exact yB h j_)|(simp at h;done)|(simp at h;omega))⟩;(refine fU ?_))))
   refine Al 7 zF E vL ?_;exact dN
  subst dq;rw[zD j_]at aa;have hgo:=hso rfl;have ux:=hgo.src;have qg:=On g.src q_;rw[J1,e1]at aa;have qv:=T0 p true gr lc;have qd:=Ks n hn p.dev (vlanT p true gr).1;refine fU ?_;refine c0 qg F177 ?_;cases xq:Dx g.src;rotate_left
  ·rw[zE xq]at aa;subst aa;refine fU ?_;refine⟨E,d7,hk,?_⟩;rw[hp];refine fW ?_;refine c0 qv F178 ?_;refine fU ?_
   (repeat (first|(refine⟨λh=>False.elim (by first|(exact yB h j_)|(simp at h;done)|(simp at h;omega)),λ_=>?_⟩;(refine fU ?_))|(refine⟨λ_=>?_,λh=>False.elim (by first|(exact yB h j_)|(simp at h;done)|(simp at h;omega))⟩;(refine fU ?_))))
   refine Al 7 zF E vL ?_;exact dN
  rw[zD (by simp[xq])]at aa;refine fU ?_;refine⟨E,d7,hk,?_⟩;rw[hp];refine fW ?_;refine c0 qv F178 ?_;generalize vlanT p true gr=vl at *;obtain ⟨vl,vok⟩:=vl;dsimp only at aa qd⊢;cases vok
  ·rw[zE rfl]at aa;subst aa;refine fU ?_;refine Al 7 zF E vL ?_;exact dN
  rw[zD y_]at aa;subst aa;refine fU ?_;refine cD qd F141 ?_;refine fU ?_;refine⟨z_,?_⟩;refine fW ?_;exact dN
 ·rw[zD ht]at aa;rw[zI ht];have hgo:=pk;have ux:=hgo.src;have qg:=On f.src q_;rw[J1,e1]at aa;have qv:=T0 p false 0 lc;have qd:=Ks n hn p.dev (vlanT p false 0).1;refine fU ?_;refine c0 qg F177 ?_;cases xq:Dx f.src;rotate_left
  ·rw[zE xq]at aa;subst aa;refine fU ?_;refine⟨E,d7,hk,?_⟩;rw[hp];refine fW ?_;refine c0 qv F178 ?_;refine fU ?_
   (repeat (first|(refine⟨λh=>False.elim (by first|(exact yB h j_)|(simp at h;done)|(simp at h;omega)),λ_=>?_⟩;(refine fU ?_))|(refine⟨λ_=>?_,λh=>False.elim (by first|(exact yB h j_)|(simp at h;done)|(simp at h;omega))⟩;(refine fU ?_))))
   refine Al 7 zF E vL ?_;exact dN
  rw[zD (by simp[xq])]at aa;refine fU ?_;refine⟨E,d7,hk,?_⟩;rw[hp];refine fW ?_;refine c0 qv F178 ?_;generalize vlanT p false 0=vl at *;obtain ⟨vl,vok⟩:=vl;dsimp only at aa qd⊢;cases vok
  ·rw[zE rfl]at aa;subst aa;refine fU ?_;refine Al 7 zF E vL ?_;exact dN
  rw[zD y_]at aa;subst aa;refine fU ?_;refine cD qd F141 ?_;refine fU ?_;refine⟨z_,?_⟩;refine fW ?_;exact dN
def C0{i:Int}{n:Nat}(h:Ai i n=true):0≤i∧i<n:=by simpa [Ai] using h
def Qj(i:Int)(n:Nat):Sp 265 [Aa i,Aa n] (Ab (Ai i n)):=cT F265 ntmps265 λF hF=>by
 conv=>whnf
 (repeat' (first|(refine⟨λh=>?_,λh=>?_⟩<;>(repeat (first|simp only[zK]at h|simp only[yE]at h))<;>((refine oO ?_)))|(refine As rfl (.cons .tmp .nil) ?_ rfl)))
 all_goals (refine zH Ab ?_)
 all_goals grind [Ai]
def Aui(n:Net)(f:FrameM)(h:FrameOK f)(v:Int):Sp 267 [Ao n,De f,Aa v] (.tup [.sl 1 Ak (Lu f),Aa 0]):=cT F267 ntmps267 λF hF=>by
 conv=>whnf
 refine Ah (Ad [(0,55)] E F83 (M2 f h) E Y E ⟨.inr E,Y⟩) E E ?_;refine Aj 55 E ?_;exact gF
def A15{f:FrameM}(hf:FrameOK f)(v:Nat)(_hv:v≤4094)(h:(tagT f v).2=0):FrameOK (tagT f v).1:=by
 unfold tagT at h⊢;split
 ·rw[zE (by assumption)]at h;cases h
 rw[zD (by assumption)]at h;split
 ·rw[zE (by assumption)]at h;cases h
 refine⟨hf.dst,hf.src,?_,?_⟩
 ·show (33024:Nat)≤65535;decide
 ·dsimp only;simp;omega
def Amr(n:Net)(f:FrameM)(h:FrameOK f)(v:Nat)(hv:v≤4094):Sp 266 [Ao n,De f,Aa v] (.tup [.sl 1 Ak (if (tagT f v).2≠0 then [] else Lu (tagT f v).1),Aa (if (tagT f v).2≠0 then (tagT f v).2 else 0)]):=by
 have q:=Aog f v h hv;have ho:=A15 h v hv;generalize tagT f v=t at *;obtain ⟨g,e⟩:=t;dsimp only at q ho⊢;refine Su Γ hm 100 F266 ntmps266 E λF hF=>by
  conv=>whnf
  refine c0 q F82 ?_;refine oO ?_;by_cases he:e=0
  ·subst he
   (refine⟨λh=>False.elim (yB h j_),λ_=>?_⟩;refine rg ?_;conv=>whnf)
   refine Ba 8 4 (De g) E E E ?_;refine oO ?_;refine Ah (Ad [(0,55)] E F83 (M2 g (ho E)) E Y E ⟨.inr E,Y⟩) E E ?_;refine Aj 55 E ?_;exact gF
  ·rw[zE he,zE he]
   (refine⟨λ_=>?_,λh=>False.elim (by simp at h;omega)⟩;refine rg ?_;conv=>whnf)
   refine An 6 1 Ak E ?_;exact dN
def Y4{n:Net}(h:Ac n=true){i:Nat}(hi:i<n.domains.length):1≤n.domains[i].vlan∧n.domains[i].vlan≤4094:=by
 simp only[Ac,zG]at h;have hb:H7 (O4 n) n.domains=true:=h.1.1.1.1.1.1.1.2;have:=allB_iff.1 hb i hi;simp only[O4,zG,zK]at this;omega
def A39(n:Net)(hn:n.Fin)(port dom:Int)(f:FrameM)(h:FrameOK f):Sp 187 [Ao n,Aa port,Aa dom,De f] (.tup [.sl 1 Ak (leaveT n port dom f).1,Aa (leaveT n port dom f).2]):=cT F187 ntmps187 λF hF=>by
 have aa:=leaveT.eq_1 n port dom f;generalize leaveT n port dom f=res at *;have hr:=A0 n hn;have hpS:=Qj port n.ports.length;have hdS:=Qj dom n.domains.length
 conv=>whnf
 refine c0 hpS F265 ?_;cases a7:Ai port n.ports.length
 ·rw[zE (.inl a7)]at aa;subst aa
  (refine oT ?_;refine bT ?_;refine bT ?_)
  refine An 8 1 Ak E ?_;exact dN
 refine oF ?_;refine c0 hdS F265 ?_;cases fu:Ai dom n.domains.length
 ·rw[zE (.inr (.inl fu))]at aa;subst aa
  (refine oT ?_;refine bT ?_)
  refine An 8 1 Ak E ?_;exact dN
 refine oF ?_;refine c0 hr F20 ?_;cases hbn:Ac n
 ·rw[zE (.inr (.inr hbn))]at aa;subst aa;refine oT ?_;refine An 8 1 Ak E ?_;exact dN
 rw[zD (by simp[hbn,a7,fu])]at aa;have j4:=C0 a7;have mu:=C0 fu;have d7:0≤port:=j4.1;have rk:0≤dom:=mu.1;have hk:port.toNat<n.ports.length:=by omega
 have cd:dom.toNat<n.domains.length:=by omega
 have e1:nth n.ports port=n.ports[port.toNat]:=Af hk;have e2:nth n.domains dom=n.domains[dom.toNat]:=Af cd;have lc:=hn.tagged _ (zJ hk);have hv:=Y4 hbn cd;obtain ⟨p,hp⟩:∃p,n.ports[port.toNat]'hk=p:=⟨_,rfl⟩
 obtain ⟨d,hd⟩:∃d,n.domains[dom.toNat]'cd=d:=⟨_,rfl⟩
 rw[hp]at e1 lc;rw[hd]at e2 hv;rw[e1,e2]at aa;have qm:=Z9 p d.vlan lc;refine oF ?_;refine⟨E,d7,hk,E,rk,cd,?_⟩;rw[hp,hd]
 conv=>whnf
 refine kW ?_;constructor<;>intro h1
 ·rw[zE (.inl (by simpa using h1))]at aa;subst aa;refine oT ?_;refine An 8 1 Ak E ?_;exact dN
 refine Ba 10 7 (A7 p) E E E ?_;refine oO ?_;refine c0 qm F131 ?_;cases ck:Cw p d.vlan
 ·rw[zE (.inr ck)]at aa;subst aa;refine oT ?_;refine An 8 1 Ak E ?_;exact dN
 rw[zD (by simp at h1;simp[ck,h1])]at aa;have qt:=Wo f;by_cases ht:f.typ=33024
 ·rw[zE ht]at aa;subst aa;rw[zL ht]at qt;refine oF ?_;refine c0 qt F153 ?_;refine oT ?_;refine An 8 1 Ak E ?_;exact dN
 rw[zD ht]at aa;rw[zI ht]at qt;refine oF ?_;refine c0 qt F153 ?_;refine oF ?_;constructor<;>intro h2
 ·rw[zE (by simpa using h2)]at aa;subst aa;refine oO ?_;refine Eg ⟨⟨_,_,F267⟩,Aui n f h d.vlan⟩ E E E E E E ?_;exact gF
 rw[zD (by simpa using h2)]at aa;refine oO ?_;have zy:(d.vlan.toNat:Int)=d.vlan:=by omega
 have qg:=Amr n f h d.vlan.toNat q_;rw[zy]at qg;refine Eg ⟨⟨_,_,F266⟩,qg⟩ E E E E E E ?_;refine oO ?_;by_cases he:(tagT f d.vlan).2=0
 ·rw[zD (by simpa using he)]at aa;subst aa;rw[zD (by simpa using he),zD (by simpa using he)];exact dN
 ·rw[zE he]at aa;subst aa;rw[zE he,zE he];exact dN
def inB_mem{l:List Int}{x:Int}:inB l x=true↔x∈l:=by
 simp[inB]
def Aug(n:Net)(hn:n.Fin)(port:Int)(b:List UInt8)(hb:b.length<100000):Sp 191 [Ao n,Aa port,.sl 1 Ak b] (.tup [Aa (linkT n port b).1,Aa (linkT n port b).2.1,De (linkT n port b).2.2.1,Aa (linkT n port b).2.2.2]):=cT F191 ntmps191 λF hF=>by
 have aa:=linkT.eq_1 n port b;generalize linkT n port b=res at *;have qo:=Aac n hn port;have qe:=Aqz n hn (Bb n port) b hb;generalize Bb n port=o at *
 conv=>whnf
 refine c0 qo F271 ?_;refine oO ?_;constructor<;>intro h1
 ·rw[zE (by simpa using h1)]at aa;subst aa;refine oO ?_;refine Al 8 zF E vL ?_;exact dN
 rw[zD (by simpa using h1)]at aa;refine oO ?_;refine c0 qe F113 ?_;generalize enterT n o b=en at *;obtain ⟨x1,g,x2⟩:=en;subst aa;refine oO ?_;refine kW ?_;exact dN
end Go.Sy.YtolnneiipmfgaaaGreatDoor
namespace Go.Sy.YtolnneiipmfgaaaGreatDoor
open Go.Proofs Go.Proofs.Tryz
def Qq(l:List Nat):(Dl l).length=2*l.length:=by
 induction l with
 |nil=>rfl
 |cons a l ih=>simp only[Dl,vP,zQ,yM,xF]at ih⊢;omega
def Lp(l:List Nat)(n:Nat):Dl (l++[n])=Dl l++[UInt8.ofNat (n/256),UInt8.ofNat n]:=by simp[Dl]
def Sd(b:List UInt8)(k m:Nat):numAt b k m<256^m:=by
 have h:=S4 _ ((b.drop k).take m) rfl;have h2:((b.drop k).take m).length≤m:=by rw[zY];omega
 exact yW h (wX j_ h2)
def Yu{b:List UInt8}{k:Nat}(h:k+2≤b.length):numAt b k 2=(b[k]'q_).toNat*256+(b[k+1]'q_).toNat:=by
 rw[numAt,Zl h,Aji]
def Anp{b:List UInt8}{k:Nat}(h:k<b.length):bAt b k=b[k]:=Au0 h
def A14{b:List UInt8}{k:Nat}(h:k+3≤b.length):(b.drop k).take 3=[b[k]'q_,b[k+1]'q_,b[k+2]'q_]:=by
 rw[yK q_,yK (i:=k+1) q_,yK (i:=k+2) q_];rfl
def A13{b:List UInt8}{k:Nat}(h:k+4≤b.length):(b.drop k).take 4=[b[k]'q_,b[k+1]'q_,b[k+2]'q_,b[k+3]'q_]:=by
 rw[yK q_,yK (i:=k+1) q_,yK (i:=k+2) q_,yK (i:=k+3) q_];rfl
def numAt3{b:List UInt8}{k:Nat}(h:k+3≤b.length):numAt b k 3=((b[k]'q_).toNat*256+(b[k+1]'q_).toNat)*256+(b[k+2]'q_).toNat:=by
 rw[numAt,A14 h];simp[Hz]
def At0{b:List UInt8}{k:Nat}(h:k+4≤b.length):numAt b k 4=numAt b k 2*65536+numAt b (k+2) 2:=by
 have e:b[k+2+1]'q_=b[k+3]'q_:=rfl;rw[numAt,A13 h,Yu q_,Yu q_,e];simp[Hz];omega
def D5(f:FrameM):(Lu f).length=14+f.body.length:=by
 simp[Lu,frame,Dj];omega
def Jl(p:PacketM)(s:Nat):(Hl p s).length=20:=by rw[Hl,Qq];rfl
def Iv(p:PacketM):(H4 p).length=20+p.body.length:=by rw[H4,zQ,Jl]
def Ux(s d:Nat)(b:List UInt8):(Aei s d b).length=8+b.length:=by rw[Aei,zQ,Qq];rfl
def Hw(v:Nat):(K2 v).length=8:=rfl
def Er:FrameOK noF:=⟨by decide,by decide,by decide,by decide⟩
def Vx(ip:Nat)(h:ip<4294967296):hostN ip<281474976710656:=by rw[hostN,zZ];omega
def Aiy(n:Net)(port dom:Int)(f:FrameM)(hf:FrameOK f):(leaveT n port dom f).1.length≤1518:=by
 have h4:=hf.body;unfold leaveT;split
 ·simp
 split
 ·simp
 split
 ·simp
 split
 ·rw[D5];omega
 split
 ·simp
 ·rw[D5];rename_i h;have h2:(tagT f (nth n.domains dom).vlan).2=0:=Classical.byContradiction h;unfold tagT at h2⊢;split
  ·rw[zE (by assumption)]at h2;cases h2
  rw[zD (by assumption)]at h2;split
  ·rw[zE (by assumption)]at h2;cases h2
  ·dsimp only;simp;omega
def Agw{b:List UInt8}(h:(ipTakeT b).2=0):PacketOK (ipTakeT b).1∧(ipTakeT b).1.body.length+20≤b.length:=by
 unfold ipTakeT at h⊢;split
 ·rw[zE (by assumption)]at h;cases h
 rw[zD (by assumption)]at h;split
 ·rw[zE (by assumption)]at h;cases h
 rw[zD (by assumption)]at h;split
 ·rw[zE (by assumption)]at h;cases h
 rw[zD (by assumption)]at h;split
 ·rw[zE (by assumption)]at h;cases h
 rw[zD (by assumption)]at h;split
 ·rw[zE (by assumption)]at h;cases h
 have l1:=(bAt b 1).toNat_lt;have l8:=(bAt b 8).toNat_lt;have l9:=(bAt b 9).toNat_lt;have n4:=Sd b 4 2;have z1:=Sd b 12 4;have z6:=Sd b 16 4;refine⟨⟨?_,?_,?_,?_,?_,?_⟩,?_⟩
 ·show (bAt b 1).toNat≤255;omega
 ·show numAt b 4 2≤65535;omega
 ·show (bAt b 8).toNat≤255;omega
 ·show (bAt b 9).toNat≤255;omega
 ·exact z1
 ·exact z6
 ·show ((b.take (numAt b 2 2)).drop 20).length+20≤b.length;rw[yQ,zY];omega
def A8g{b:List UInt8}(h:(ipTakeT b).2≠0):(ipTakeT b).1=noP:=by
 unfold ipTakeT at h⊢;split
 ·rfl
 rw[zD (by assumption)]at h;split
 ·rfl
 rw[zD (by assumption)]at h;split
 ·rfl
 rw[zD (by assumption)]at h;split
 ·rfl
 rw[zD (by assumption)]at h;split
 ·rfl
 rw[zD (by assumption)]at h;exact yB E h
def At1:PacketOK noP:=⟨by decide,by decide,by decide,by decide,by decide,by decide⟩
def Yf:∀(l:List Nat) (j:Nat),j≤l.length→(∀n∈l,n<4294967296)→O8 (Dl l) j=((l.take j).map (·%65536)).sum
 |l,0,_,_=>by simp[O8]
 |l,j+1,h,hl=>by
  have ih:=Yf l j q_ hl;have hj:j<l.length:=by omega
  have e1:(Dl l).getD (2*j) 0=UInt8.ofNat (l[j]/256)∧(Dl l).getD (2*j+1) 0=UInt8.ofNat l[j]:=by
   clear ih hl
   induction l generalizing j with
   |nil=>simp at hj
   |cons a l xr=>
    cases j with
    |zero=>simp[Dl]
    |succ j=>
     have:=xr j (by simpa using h) (by simpa using hj);rw[Dl,vP,show 2*(j+1)+1=(2*j+1)+1+1 by omega,show 2*(j+1)=2*j+1+1 by omega];simpa [Dl] using this
  rw[O8,ih,e1.1,e1.2,yC hj,wZ,List.sum_append];have hx:=hl l[j] (zJ hj);generalize l[j]=x at *;simp only[xW,vU,List.sum_cons,List.sum_nil,E2];omega
def Ac2{p:PacketM}(hp:PacketOK p)(hb:p.body.length≤1480)(s:Nat)(hs:s≤65535):∀n∈[17664+p.tos,20+p.body.length,p.id,0,p.ttl*256+p.proto,s,p.src/65536,p.src,p.dst/65536,p.dst],n<4294967296:=by
 have h1:=hp.tos;have h2:=hp.proto;have h3:=hp.ttl;have h4:=hp.id;have h5:=hp.src;have h6:=hp.dst;intro n hn;simp only[yH,xU,uH]at hn;rcases hn with rfl|rfl|rfl|rfl|rfl|rfl|rfl|rfl|rfl|rfl<;>omega
def Aus(p:PacketM)(s:Nat):((Hl p 0).set 10 (UInt8.ofNat (s/256))).set 11 (UInt8.ofNat s)=Hl p s:=by
 simp only[Hl,Dl,vP,List.flatMap_nil,xY,wP,List.set_cons_succ,uR]
def A1j(a b v:Nat)(f:FrameM)(ha:a<4294967296)(hb:b<4294967296):PacketOK (Lc a b v f):=⟨xQ _,xQ _,by show (64:Nat)≤255;decide,by show (17:Nat)≤255;decide,ha,hb⟩
def Mp(a b v:Nat)(f:FrameM):(Lc a b v f).body.length=30+f.body.length:=by
 simp only[Lc,Ux,zQ,Hw,D5];omega
def Alg(a b:Nat)(v:Int)(f:FrameM):(wrapT a b v f).1.length≤1514:=by
 unfold wrapT;split
 ·simp
 split
 ·simp
 split
 ·simp
 ·simp only[frame,zQ,Dj,Iv,Mp,yM,xF];omega
def Amo(n:Net)(dom peer:Int)(f:FrameM):(meshT n dom peer f).1.length≤1514:=by
 unfold meshT;split
 ·simp
 split
 ·simp
 ·exact Alg _ _ _ _
def A5z{b:List UInt8}:(udpTakeT b).2.2.1.length≤b.length:=by
 unfold udpTakeT
 repeat' split
 all_goals first|(simp;done)|(simp only[yQ,zY];omega)
def vniT_body{b:List UInt8}:(vniT b).2.1.length≤b.length:=by
 unfold vniT
 repeat' split
 all_goals first|(simp;done)|(simp only[yQ];omega)
def Ab9(b:List UInt8):PacketOK (outerT b).1∧(outerT b).1.body.length≤b.length:=by
 unfold outerT;split
 ·exact⟨At1,by simp[noP]⟩
 split
 ·exact⟨At1,by simp[noP]⟩
 split
 ·exact⟨At1,by simp[noP]⟩
 ·rename_i h1 h2 h3;have h4:(takeF b).2=0:=Classical.byContradiction h1;have h5:(ipTakeT (takeF b).1.body).2=0:=Classical.byContradiction h3;obtain ⟨h6,h7⟩:=Agw h5;refine⟨h6,?_⟩;have h8:(takeF b).1.body.length≤b.length:=by
   unfold takeF
   repeat' split
   all_goals simp[noF]
  dsimp only;omega
def Akf(b:List UInt8):FrameOK (Me b).2.1∧0≤(Me b).1:=by
 unfold Me
 repeat' split
 all_goals first|exact⟨Er,wB _⟩|skip
 rename_i h1 h2 h3 h4 h5;refine⟨Aff (Classical.byContradiction h4),?_⟩;show 0≤(vniT (udpTakeT b).2.2.1).1;unfold vniT
 repeat' split
 all_goals omega
def Afb(b:List UInt8):(Cn b).1<4294967296∧(Cn b).2.1<4294967296∧0≤(Cn b).2.2.1∧FrameOK (Cn b).2.2.2.1:=by
 unfold Cn;split
 ·exact⟨Nat.zero_lt_succ _,Nat.zero_lt_succ _,wB _,Er⟩
 split
 ·exact⟨Nat.zero_lt_succ _,Nat.zero_lt_succ _,wB _,Er⟩
 ·exact⟨(Ab9 b).1.src,(Ab9 b).1.dst,(Akf _).2,(Akf _).1⟩
def Akw(n:Net)(port:Int)(f:FrameM)(hf:FrameOK f)(tg:Bool)(gr:Int):FrameOK (J1 n port f tg gr).2.1:=by
 unfold J1;split
 ·exact Er
 split
 ·exact Er
 ·exact hf
def Acm(n:Net)(port:Int)(b:List UInt8):FrameOK (enterT n port b).2.1:=by
 unfold enterT;split
 ·exact Er
 split
 ·exact Er
 rename_i h1 h2;have h3:=Aff (Classical.byContradiction h2);split
 ·split
  ·exact Er
  ·rename_i h5;exact Akw _ _ _ (A18 h3 (Classical.byContradiction h5)) _ _
 ·exact Akw _ _ _ h3 _ _
def Ap2(n:Net)(port:Int)(b:List UInt8):FrameOK (linkT n port b).2.2.1:=by
 unfold linkT;split
 ·exact Er
 ·exact Acm _ _ _
def Aq9(n:Net)(b:List UInt8):FrameOK (comeT n b).2.2.1:=by
 unfold comeT;split
 ·exact Er
 split
 ·exact Er
 split
 ·exact Er
 split
 ·exact Er
 ·exact(Afb b).2.2.2
def A7d(n:Net)(hm:n.Num)(irb:Int)(f:FrameM)(ar:∀(d:Int),(lookT n irb d).2=true→0≤(lookT n irb d).1∧(lookT n irb d).1.toNat<n.irbs.length):FrameOK (hopT n irb f).2.1:=by
 unfold hopT;split
 ·exact Er
 split
 ·exact Er
 split
 ·exact Er
 split
 ·exact Er
 split
 ·exact Er
 split
 ·exact Er
 rename_i h1 h2 h3 h4 h5 h6;have hp:=(Agw (Classical.byContradiction h3)).1;have hl:=ar ((ipTakeT f.body).1.dst:Int) (by simpa using h5);have ha:=hm.addr _ (zJ hl.2);rw[←Af hl.2]at ha;refine⟨Vx _ hp.dst,?_,?_,?_⟩
 ·show hostN (nth n.irbs _).addr<_;rw[hostN];omega
 ·show (2048:Nat)≤65535;decide
 ·show (H4 (Amx (ipTakeT f.body).1)).length≤1504;rw[Iv];show 20+(ipTakeT f.body).1.body.length≤1504;omega
attribute [local irreducible] Go.Sy.G Go.Sy.DR
set_option maxRecDepth 100000
set_option maxHeartbeats 4000000
def Aeq(a b:Nat)(ha:a<4294967296)(hb:b<4294967296):bits .or .u32 (a:Int) (b:Int)=((a|||b:Nat):Int):=by
 have hx:a|||b<2^32:=Nat.or_lt_two_pow q_ q_;have h1:(BitVec.ofInt 32 (a:Int)).toNat=a:=by
  rw[BitVec.ofInt_natCast,BitVec.toNat_ofNat];exact xH q_
 have h2:(BitVec.ofInt 32 (b:Int)).toNat=b:=by
  rw[BitVec.ofInt_natCast,BitVec.toNat_ofNat];exact xH q_
 show IntKind.u32.wrap ((BitVec.ofInt 32 (a:Int)|||BitVec.ofInt 32 (b:Int)).toNat:Int)=_;rw[BitVec.toNat_or,h1,h2,IntKind.wrap_u32];omega
def Axj(x:UInt8)(k:UInt8):((x.toNat:Int) != (k.toNat:Int))=decide (x≠k):=by
 rw[wF];simp only[xB,zK,ne_eq,←UInt8.toNat_inj];omega
def Aah(b:List UInt8)(k:Nat)(h:k+2≤b.length)(hb:b.length<100000):Sp 323 [.sl 1 Ak b,Aa k] (Aa (numAt b k 2)):=cT F323 ntmps323 λF hF=>by
 have i0:(k:Int).toNat<b.length:=by simpa using (by omega:k<b.length)
 have i1:((k:Int)+1).toNat<b.length:=by omega
 have e0:b[(k:Int).toNat]'i0=b[k]'q_:=rfl;have e1:b[((k:Int)+1).toNat]'i1=b[k+1]'q_:=rfl;have hp:=I8 (b[k]'q_) (b[k+1]'q_);have hn:=Yu h;rw[←hn]at hp
 conv=>whnf
 refine⟨E,by omega,i0,?_⟩;rw[e0]
 conv=>whnf
 refine⟨by decide,?_⟩
 conv=>whnf
 refine iW ?_;refine⟨E,by omega,i1,?_⟩;rw[e1]
 conv=>whnf
 refine⟨z_,?_⟩;rw[hp]
 conv=>whnf
 exact dN
def A1x(x y:Nat)(hx:x<65536)(hy:y<65536):bits .or .u32 (IntKind.u32.wrap ((IntKind.u32.wrap (x:Int))*2^min (Int.toNat 16) IntKind.u32.bits)) (IntKind.u32.wrap (y:Int))=((x*65536+y:Nat):Int):=by
 have e1:IntKind.u32.wrap (x:Int)=(x:Int):=by rw[IntKind.wrap_u32];omega
 have e2:IntKind.u32.wrap (y:Int)=(y:Int):=by rw[IntKind.wrap_u32];omega
 rw[e1,e2];have e3:IntKind.u32.wrap ((x:Int)*2^min (Int.toNat 16) IntKind.u32.bits)=((x*65536:Nat):Int):=by
  show IntKind.u32.wrap ((x:Int)*65536)=_;rw[IntKind.wrap_u32];omega
 rw[e3,Aeq _ _ q_ q_];congr 1;have h:=xP (i:=16) (b:=y) q_ x;rw[vB x 65536];exact h.symm
def Aw3(b:List UInt8)(k:Nat)(h:k+4≤b.length)(hb:b.length<100000):Sp 325 [.sl 1 Ak b,Aa k] (A9 (numAt b k 4)):=cT F325 ntmps325 λF hF=>by
 have q1:=Aah b k q_ hb;have q2:=Aah b (k+2) q_ hb;rw[show ((k+2:Nat):Int)=(k:Int)+2 by omega]at q2;have hf:=A1x (numAt b k 2) (numAt b (k+2) 2) (by have:=Sd b k 2;omega) (by have:=Sd b (k+2) 2;omega);rw[←At0 h]at hf
 conv=>whnf
 refine c0 q1 F323 ?_;refine oO ?_;refine⟨by decide,?_⟩
 conv=>whnf
 refine iW ?_;refine c0 q2 F323 ?_;refine oO ?_;rw[hf];exact dN
def Ax6(l:List UInt8)(hl:l.length<100000)(h2:l.length%2=0):Sp 324 [.sl 1 Ak l] (Ab (decide (H5 (O8 l (l.length/2))=65535))):=cT F324 ntmps324 λF hF=>by
 have ha:=Av9 l hl h2
 conv=>whnf
 refine c0 ha F284 ?_;refine oO ?_;refine As E (.cons .tmp .nil) (zH Ab ?_) E;rw[wF];simp only[yI,zK];omega
abbrev zP:List SV:=[Aa 0,Aa 0,Aa 0,Aa 0,A9 0,A9 0,.sl 1 Ak []]
def Aw2(b:List UInt8)(hb:b.length<100000):Sp 261 [.sl 1 Ak b] (.tup [Z4 (ipTakeT b).1,Aa (ipTakeT b).2]):=cT F261 ntmps261 λF hF=>by
 have aa:=ipTakeT.eq_1 b;generalize ipTakeT b=res at *
 conv=>whnf
 constructor<;>intro h
 ·rw[zE (qA h)]at aa;subst aa;refine oO ?_;refine Al 2 zP E vL ?_;exact dN
 have h20:20≤b.length:=qB h;rw[zD q_]at aa;clear h;have i0:(0:Int).toNat<b.length:=by show 0<_;omega
 have i1:(1:Int).toNat<b.length:=by show 1<_;omega
 have i8:(8:Int).toNat<b.length:=by show 8<_;omega
 have i9:(9:Int).toNat<b.length:=by show 9<_;omega
 have e0:b[(0:Int).toNat]'i0=bAt b 0:=(Anp q_).symm;have q2:=Aah b 2 q_ hb;have q4:=Aah b 4 q_ hb;have q6:=Aah b 6 q_ hb;have q12:=Aw3 b 12 q_ hb;have q16:=Aw3 b 16 q_ hb;have xu:(b.take 20).length=20:=by rw[zY];omega
 have hdiv:(b.take 20).length/2=10:=by rw[xu]
 have qs:=Ax6 (b.take 20) q_ (by rw[xu]);rw[hdiv]at qs;refine oO ?_;refine⟨E,by decide,i0,?_⟩;rw[e0]
 conv=>whnf
 constructor<;>intro h
 ·rw[zE (.inl (by rw[show ((69:Int))=((69:UInt8).toNat:Int) from rfl,Axj]at h;exact zO h))]at aa;subst aa;refine oT ?_;refine Al 2 zP E vL ?_;exact dN
 have h69:¬bAt b 0≠69:=by rw[show ((69:Int))=((69:UInt8).toNat:Int) from rfl,Axj]at h;exact zT h
 clear h;refine oO ?_;refine c0 q2 F323 ?_;refine oO ?_;constructor<;>intro h
 ·rw[zE (.inr (qA h))]at aa;subst aa;refine oO ?_;refine Al 2 zP E vL ?_;exact dN
 have hs20:20≤numAt b 2 2:=qB h;rw[zD (λh=>h.elim h69 q_)]at aa;clear h;refine oO ?_;refine c0 q2 F323 ?_;refine oO ?_;constructor<;>intro h
 ·rw[zE (qA h)]at aa;subst aa;refine oO ?_;refine Al 2 zP E vL ?_;exact dN
 have lq:numAt b 2 2≤b.length:=qB h;rw[zD q_]at aa;clear h;refine oO ?_;refine c0 q6 F323 ?_;refine oO ?_;constructor<;>intro h
 ·rw[zE (by have:(numAt b 6 2:Int)≠0:=(by simpa using h);omega)]at aa;subst aa;refine oO ?_;refine Al 2 zP E vL ?_;exact dN
 rw[zD (by have:(numAt b 6 2:Int)=0:=(by simpa using h);omega)]at aa;clear h;refine oO ?_;refine Ah (D0 (lo:=0) (hi:=20) Γ.toTy E E E E (.inl ⟨E,E⟩) (.inr ⟨_,_,E,E⟩) q_ h20) E E ?_;refine oO ?_;refine c0 qs F324 ?_;by_cases lr:H5 (O8 (b.take 20) 10)=65535;rotate_left
 ·rw[zE lr]at aa;subst aa;rw[zI lr];refine oT ?_;refine Al 2 zP E vL ?_;exact dN
 rw[zD (λh=>h lr)]at aa;subst aa;rw[zL lr];have qc:=T5 ((b.take (numAt b 2 2)).drop 20) (by rw[yQ,zY];omega);have w1:IntKind.i64.wrap ((b[(1:Int).toNat]'i1).toNat:Int)=((bAt b 1).toNat:Int):=by
  rw[Anp (show 1<b.length by omega)];have:=(b[1]'q_).toNat_lt;show IntKind.i64.wrap ((b[1]'q_).toNat:Int)=_;rw[IntKind.wrap_i64];omega
 have w8:IntKind.i64.wrap ((b[(8:Int).toNat]'i8).toNat:Int)=((bAt b 8).toNat:Int):=by
  rw[Anp (show 8<b.length by omega)];have:=(b[8]'q_).toNat_lt;show IntKind.i64.wrap ((b[8]'q_).toNat:Int)=_;rw[IntKind.wrap_i64];omega
 have w9:IntKind.i64.wrap ((b[(9:Int).toNat]'i9).toNat:Int)=((bAt b 9).toNat:Int):=by
  rw[Anp (show 9<b.length by omega)];have:=(b[9]'q_).toNat_lt;show IntKind.i64.wrap ((b[9]'q_).toNat:Int)=_;rw[IntKind.wrap_i64];omega
 refine oF ?_;refine⟨E,by decide,i1,?_⟩
 conv=>whnf
 refine cD q4 F323 ?_;refine oD ?_;refine⟨E,by decide,i8,?_⟩
 conv=>whnf
 refine⟨E,by decide,i9,?_⟩
 conv=>whnf
 refine cD q12 F325 ?_;refine oD ?_;refine cD q16 F325 ?_;refine oD ?_;refine cD q2 F323 ?_;refine oD ?_;refine Bv (D0 (lo:=20) (hi:=numAt b 2 2) Γ.toTy E E E E (.inr ⟨_,_,E,E⟩) (.inr ⟨_,_,E,E⟩) hs20 lq) z_ E ?_;refine oD ?_;refine cD qc F254 ?_;refine gH ?_;refine As E (.cons (.cell E E E E) (.cons .tmp .nil)) ?_ E;show SV.tup [.agg [Aa (bAt b 1).toNat,_,Aa (bAt b 8).toNat,Aa (bAt b 9).toNat,_,_,_],_]=SV.tup [.agg [Aa (IntKind.i64.wrap ((b[(1:Int).toNat]'i1).toNat:Int)),_,Aa (IntKind.i64.wrap ((b[(8:Int).toNat]'i8).toNat:Int)),Aa (IntKind.i64.wrap ((b[(9:Int).toNat]'i9).toNat:Int)),_,_,_],_];rw[w1,w8,w9];rfl
def A3a(t:Nat)(h:t≤255):bits .or .i64 17664 (t:Int)=((17664+t:Nat):Int):=by
 have h1:=Ez 17664 t j_ q_;rw[show ((17664:Nat):Int)=17664 from rfl]at h1;rw[h1];congr 1;have h2:=xP (i:=8) (b:=t) q_ 69;rw[show 2^8*69=17664 from rfl]at h2;rw[←h2]
def A6u(x y:Nat)(hx:x≤255)(hy:y≤255):bits .or .i64 (IntKind.i64.wrap ((x:Int)*2^min (Int.toNat 8) IntKind.i64.bits)) (y:Int)=((x*256+y:Nat):Int):=by
 have h3:IntKind.i64.wrap ((x:Int)*2^min (Int.toNat 8) IntKind.i64.bits)=((x*256:Nat):Int):=by
  show IntKind.i64.wrap ((x:Int)*256)=_;rw[IntKind.wrap_i64];omega
 rw[h3,Ez _ _ q_ q_];congr 1;have h:=xP (i:=8) (b:=y) q_ x;rw[vB x 256];exact h.symm
def Aql(x:Nat)(h:x<4294967296):IntKind.i64.wrap ((x:Int).fdiv (2^(min (Int.toNat 16) IntKind.u32.bits)))=((x/65536:Nat):Int):=by
 show IntKind.i64.wrap ((x:Int).fdiv 65536)=_;rw[wL _ j_,IntKind.wrap_i64];omega
def Awx(x:Nat)(h:x<4294967296):IntKind.i64.wrap (x:Int)=(x:Int):=by rw[IntKind.wrap_i64];omega
def Amt(p:PacketM)(hp:PacketOK p)(hb:p.body.length<100000):Sp 150 [Z4 p] (.tup [.sl 1 Ak (ipPutT p).1,Aa (ipPutT p).2]):=cT F150 ntmps150 λF hF=>by
 have aa:=ipPutT.eq_1 p;generalize ipPutT p=res at *;have h1:=hp.tos;have h2:=hp.id;have h3:=hp.ttl;have h4:=hp.proto;have h5:=hp.src;have h6:=hp.dst
 conv=>whnf
 refine Eg ⟨⟨_,_,F209⟩,Alv p.tos 255 q_⟩ E E E E E E ?_;refine oF ?_;refine Eg ⟨⟨_,_,F209⟩,Alv p.ttl 255 q_⟩ E E E E E E ?_;refine oF ?_;refine Eg ⟨⟨_,_,F209⟩,Alv p.proto 255 q_⟩ E E E E E E ?_;refine oF ?_;refine Eg ⟨⟨_,_,F209⟩,Alv p.id 65535 q_⟩ E E E E E E ?_;refine oF ?_;constructor<;>intro h
 ·rw[zE (qA h)]at aa;subst aa;refine oO ?_;refine An 2 1 Ak E ?_;exact dN
 have hl:p.body.length≤1480:=qB h;rw[zD q_]at aa;subst aa;clear h;have bh:H4 p=((Hl p 0).set 10 (UInt8.ofNat (Iu p/256))).set 11 (UInt8.ofNat (Iu p))++p.body:=by rw[Aus,H4]
 rw[bh];have ls:=Jl p 0;have hs:=sumOfS (Hl p 0) (by rw[ls];decide) (by rw[ls]);have xv:=A4a [17664+p.tos,20+p.body.length,p.id,0,p.ttl*256+p.proto,0,p.src/65536,p.src,p.dst/65536,p.dst] y_;rw[show Ok [17664+p.tos,20+p.body.length,p.id,0,p.ttl*256+p.proto,0,p.src/65536,p.src,p.dst/65536,p.dst]=Hl p 0 from rfl]at xv;have hss:Ajm (Hl p 0)=Iu p:=rfl;rw[hss]at hs;have lq:Iu p≤65535:=Nat.sub_le _ _;generalize Iu p=s at *;have jz:=I2 s;have o1:=A3a p.tos h1;have o2:=A6u p.ttl p.proto h3 h4;have g1:=Aql p.src h5;have g2:=Awx p.src h5;have g3:=Aql p.dst h6;have g4:=Awx p.dst h6;generalize Hl p 0=b at *;refine gE ?_;refine⟨by decide,?_⟩
 conv=>whnf
 refine⟨by decide,?_⟩
 conv=>whnf
 refine⟨by decide,?_⟩
 conv=>whnf
 refine Aru 68 (e:=A3l) (l:=[17664+p.tos,20+p.body.length,p.id,0,p.ttl*256+p.proto,0,p.src/65536,p.src,p.dst/65536,p.dst]) E ?_ ?_
 ·show _=[SV.val (.int .i64 (bits .or .i64 17664 (p.tos:Int))),SV.val _,SV.val _,SV.val _,SV.val (.int .i64 (bits .or .i64 (IntKind.i64.wrap ((p.ttl:Int) * 2 ^ min (Int.toNat 8) IntKind.i64.bits)) (p.proto:Int))),SV.val _,
   SV.val (.int .i64 (IntKind.i64.wrap ((p.src:Int).fdiv (2 ^ (min (Int.toNat 16) IntKind.u32.bits))))),SV.val (.int .i64 (IntKind.i64.wrap (p.src:Int))),SV.val (.int .i64 (IntKind.i64.wrap ((p.dst:Int).fdiv (2 ^ (min (Int.toNat 16) IntKind.u32.bits))))),SV.val (.int .i64 (IntKind.i64.wrap (p.dst:Int)))]
  rw[o1,o2,g1,g2,g3,g4];rfl
 refine Aj 68 E ?_;refine Ah (Ad [(0,69)] E F210 xv E Y E ⟨.inr E,Y⟩) E E ?_;refine oO ?_;refine Axi [69] hs F211 E (.cons (.row E E) .nil) E E E ?_;refine oO ?_;have gv:=(List.cons.inj jz).1;have dw:=(List.cons.inj (List.cons.inj jz).2).1;refine⟨by omega,?_⟩
 conv=>whnf
 refine⟨by decide,by rw[ls];decide,?_⟩
 conv=>whnf
 refine⟨E,by rw[ls];decide,UInt8.ofNat (s/256),zH (λz=>[z]) gv,E,?_⟩
 conv=>whnf
 refine⟨by decide,by simp[ls],?_⟩
 conv=>whnf
 refine⟨E,by simp[ls],UInt8.ofNat s,zH (λz=>[z]) dw,E,?_⟩
 conv=>whnf
 refine Ah (Ag Γ.toTy 84 E E E E E (.row E) .sl j_ (by simp[ls];omega) (by simp[ls];omega)) E E ?_;refine Aj 84 E ?_;exact gF
def hop1(p:PacketM):PacketM×Int:=if p.ttl≤1 then (noP,13) else (Amx p,0)
def ipHopS(p:PacketM)(hb:p.body.length<100000)(ht:p.ttl≤255):Sp 262 [Z4 p] (.tup [Z4 (hop1 p).1,Aa (hop1 p).2]):=cT F262 ntmps262 λF hF=>by
 have aa:=hop1.eq_1 p;generalize hop1 p=res at *;have qc:=T5 p.body q_
 conv=>whnf
 constructor<;>intro h
 ·rw[zE (qA h)]at aa;subst aa;refine oO ?_;refine Al 2 zP E vL ?_;exact dN
 have h2:¬p.ttl≤1:=qB h;rw[zD h2]at aa;subst aa;have e:((p.ttl-1:Nat):Int)=(p.ttl:Int)-1:=by omega
 refine gE ?_;refine c0 qc F254 ?_;refine oO ?_;refine As E (.cons (.cell E E E E) (.cons .tmp .nil)) ?_ E;show SV.tup [.agg [_,_,Aa ((p.ttl-1:Nat):Int),_,_,_,_],_]=SV.tup [.agg [_,_,Aa ((p.ttl:Int)-1),_,_,_,_],_];rw[e];rfl
def udpU(b:List UInt8):Nat→List SV
 |0=>[Aa 0,Aa 0,Aa 0,Aa 0]
 |1=>[Aa (numAt b 0 2),Aa 0,Aa 0,Aa 0]
 |2=>[Aa (numAt b 0 2),Aa (numAt b 2 2),Aa 0,Aa 0]
 |3=>[Aa (numAt b 0 2),Aa (numAt b 2 2),Aa (numAt b 4 2),Aa 0]
 |_=>[Aa (numAt b 0 2),Aa (numAt b 2 2),Aa (numAt b 4 2),Aa (numAt b 6 2)]
def A1u(b:List UInt8)(hb:b.length<100000):Sp 371 [.sl 1 Ak b] (.tup [Aa (udpTakeT b).1,Aa (udpTakeT b).2.1,.sl 1 Ak (udpTakeT b).2.2.1,Aa (udpTakeT b).2.2.2]):=cT F371 ntmps371 λF hF=>by
 have aa:=udpTakeT.eq_1 b;generalize udpTakeT b=res at *
 conv=>whnf
 constructor<;>intro h
 ·rw[zE (qA h)]at aa;subst aa;refine oO ?_;refine An 4 1 Ak E ?_;exact dN
 have h8:8≤b.length:=qB h;rw[zD q_]at aa;clear h;have d7:=I8 (b[0]'q_) (b[1]'q_);rw[←Yu (show 0+2≤b.length by omega)]at d7;have gu:=I8 (b[2]'q_) (b[3]'q_);rw[←Yu (show 2+2≤b.length by omega)]at gu;have d8:=I8 (b[4]'q_) (b[5]'q_);rw[←Yu (show 4+2≤b.length by omega)]at d8;have tp:=I8 (b[6]'q_) (b[7]'q_);rw[←Yu (show 6+2≤b.length by omega)]at tp;refine oO ?_;refine A8 4 (λj=>[(0,.sl 1 Ak b),(6,.ptr 6 0),(11,Aa j)]) (λj=>[(6,.box (udpU b j))]) [] uU ?_;intro j hj;have da:j=0∨j=1∨j=2∨j=3∨j=4:=by omega
 rcases da with rfl|rfl|rfl|rfl|rfl
 ·refine oT ?_;refine iW ?_;refine⟨E,by omega,by omega,?_⟩
  conv=>whnf
  refine⟨by decide,?_⟩
  conv=>whnf
  refine iW ?_;refine iW ?_;refine⟨E,by omega,by omega,?_⟩
  conv=>whnf
  refine⟨by decide,by decide,?_⟩
  conv=>whnf
  refine kW ?_;refine iW ?_;exact Az [] j_ ⟨⟨E,E,E,E,E,E,Y⟩,⟨.inl (zH (λz:Int=>Ob.box [Aa z,Aa 0,Aa 0,Aa 0]) d7.symm),E,Y⟩,E,E⟩
 ·refine oT ?_;refine iW ?_;refine⟨E,by omega,by omega,?_⟩
  conv=>whnf
  refine⟨by decide,?_⟩
  conv=>whnf
  refine iW ?_;refine iW ?_;refine⟨E,by omega,by omega,?_⟩
  conv=>whnf
  refine⟨by decide,by decide,?_⟩
  conv=>whnf
  refine kW ?_;refine iW ?_;exact Az [] j_ ⟨⟨E,E,E,E,E,E,Y⟩,⟨.inl (zH (λz:Int=>Ob.box [Aa (numAt b 0 2),Aa z,Aa 0,Aa 0]) gu.symm),E,Y⟩,E,E⟩
 ·refine oT ?_;refine iW ?_;refine⟨E,by omega,by omega,?_⟩
  conv=>whnf
  refine⟨by decide,?_⟩
  conv=>whnf
  refine iW ?_;refine iW ?_;refine⟨E,by omega,by omega,?_⟩
  conv=>whnf
  refine⟨by decide,by decide,?_⟩
  conv=>whnf
  refine kW ?_;refine iW ?_;exact Az [] j_ ⟨⟨E,E,E,E,E,E,Y⟩,⟨.inl (zH (λz:Int=>Ob.box [Aa (numAt b 0 2),Aa (numAt b 2 2),Aa z,Aa 0]) d8.symm),E,Y⟩,E,E⟩
 ·refine oT ?_;refine iW ?_;refine⟨E,by omega,by omega,?_⟩
  conv=>whnf
  refine⟨by decide,?_⟩
  conv=>whnf
  refine iW ?_;refine iW ?_;refine⟨E,by omega,by omega,?_⟩
  conv=>whnf
  refine⟨by decide,by decide,?_⟩
  conv=>whnf
  refine kW ?_;refine iW ?_;exact Az [] j_ ⟨⟨E,E,E,E,E,E,Y⟩,⟨.inl (zH (λz:Int=>Ob.box [Aa (numAt b 0 2),Aa (numAt b 2 2),Aa (numAt b 4 2),Aa z]) tp.symm),E,Y⟩,E,E⟩
 clear d7 gu d8 tp;refine oF ?_;refine⟨by decide,by decide,?_⟩
 conv=>whnf
 constructor<;>intro h
 ·rw[zE (qA h)]at aa;subst aa;refine oO ?_;refine An 4 1 Ak E ?_;exact dN
 have hs8:8≤numAt b 4 2:=qB h;rw[zD q_]at aa;clear h;refine oO ?_;refine⟨by decide,by decide,?_⟩
 conv=>whnf
 constructor<;>intro h
 ·rw[zE (qA h)]at aa;subst aa;refine oO ?_;refine An 4 1 Ak E ?_;exact dN
 have lq:numAt b 4 2≤b.length:=qB h;rw[zD q_]at aa;clear h;refine oO ?_;refine⟨by decide,by decide,?_⟩
 conv=>whnf
 constructor<;>intro h
 ·rw[zE (by have:(numAt b 6 2:Int)≠0:=(by simpa using h);omega)]at aa;subst aa;refine oO ?_;refine An 4 1 Ak E ?_;exact dN
 rw[zD (by have:(numAt b 6 2:Int)=0:=(by simpa using h);omega)]at aa;subst aa;clear h;have qc:=T5 ((b.take (numAt b 4 2)).drop 8) (by rw[yQ,zY];omega);refine oO ?_;refine⟨by decide,by decide,?_⟩
 conv=>whnf
 refine⟨by decide,by decide,?_⟩
 conv=>whnf
 refine⟨by decide,by decide,?_⟩
 conv=>whnf
 refine Bv (D0 (lo:=8) (hi:=numAt b 4 2) Γ.toTy E E E E (.inr ⟨_,_,E,E⟩) (.inr ⟨_,_,E,E⟩) hs8 lq) z_ E ?_;refine oD ?_;refine cD qc F254 ?_;refine gH ?_;exact dN
def A57(src dst:Nat)(body:List UInt8)(h1:src≤65535)(h2:dst≤65535)(h3:body.length≤1472):Sp 335 [Aa src,Aa dst,.sl 1 Ak body] (.tup [.sl 1 Ak (Aei src dst body),Aa 0]):=cT F335 ntmps335 λF hF=>by
 ((conv=>whnf);refine aF ?_;refine rg ?_;conv=>whnf)
 (refine⟨λh=>False.elim (by simp at h;omega),λ_=>?_⟩;refine rg ?_;(conv=>whnf);refine aF ?_;refine rg ?_;(conv=>whnf);refine⟨λh=>False.elim (by simp at h;omega),λ_=>?_⟩;refine rg ?_;(conv=>whnf);refine⟨λh=>False.elim (by simp at h;omega),λ_=>?_⟩;refine rg ?_;conv=>whnf)
 refine iW ?_;refine Ce 8 1000 1 Ak E E ?_;refine Ah (V1 Γ.toTy E E E E E E) E E ?_;refine oO ?_;have key:∀(x:Nat) (pre:List Nat),pre.length≤4→Dl (pre++[x])=Dl pre++[UInt8.ofNat (x/256),UInt8.ofNat x]:=λx pre _=>Lp pre x
 have sh:∀l:List Nat,(Dl l).length=2*l.length:=Qq;obtain ⟨ws,jq⟩:∃ws:List Nat,ws=[src,dst,8+body.length,0]:=⟨_,rfl⟩
 refine A8 4 (λj=>[(2,.sl 1 Ak body),(8,.osl 1000),(35,.agg [Aa src,Aa dst,Aa (8+body.length:Nat),Aa 0]),(36,Aa j)]) (λj=>[(1000,.row 1 Ak (Dl (ws.take j)))]) [] ⟨⟨E,E,E,E,E,E,E,E,Y⟩,⟨.inl (zH (Ob.row 1 Ak) (by simp[Dl])),E,Y⟩,E,E⟩ ?_;intro j hj;have da:j=0∨j=1∨j=2∨j=3∨j=4:=by omega
 rcases da with rfl|rfl|rfl|rfl|rfl
 ·have hs:Dl (ws.take 1)=Dl (ws.take 0)++[UInt8.ofNat (src/256),UInt8.ofNat src]:=by subst jq;exact Lp [] src
  have hl:=sh (ws.take 0);have js:(ws.take 0).length≤4:=by rw[zY];omega
  have jz:=I2 src;refine oT ?_;refine Ah (Ch (k:=.int .i64) Γ.toTy E E E Tryz.underlying3 E E j_ j_ E) E E ?_;refine oO ?_;refine⟨by decide,?_⟩
  conv=>whnf
  refine Ah (Ag Γ.toTy 46 E E E E E (.row E) (.lit (e:=Ak) (l:=[UInt8.ofNat (src/256),UInt8.ofNat src]) E jz) y_ (by rw[hl];simp only[yM,xF];omega) (by rw[hl];simp only[yM,xF];omega)) E E ?_;refine gE ?_;exact Az [(1000,46)] j_ ⟨⟨E,E,E,E,E,E,E,E,Y⟩,⟨.inl (zH (Ob.row 1 Ak) hs),E,Y⟩,E,E⟩
 ·have hs:Dl (ws.take 2)=Dl (ws.take 1)++[UInt8.ofNat (dst/256),UInt8.ofNat dst]:=by subst jq;exact Lp [src] dst
  have hl:=sh (ws.take 1);have js:(ws.take 1).length≤4:=by rw[zY];omega
  have jz:=I2 dst;refine oT ?_;refine Ah (Ch (k:=.int .i64) Γ.toTy E E E Tryz.underlying3 E E j_ j_ E) E E ?_;refine oO ?_;refine⟨by decide,?_⟩
  conv=>whnf
  refine Ah (Ag Γ.toTy 46 E E E E E (.row E) (.lit (e:=Ak) (l:=[UInt8.ofNat (dst/256),UInt8.ofNat dst]) E jz) y_ (by rw[hl];simp only[yM,xF];omega) (by rw[hl];simp only[yM,xF];omega)) E E ?_;refine gE ?_;exact Az [(1000,46)] j_ ⟨⟨E,E,E,E,E,E,E,E,Y⟩,⟨.inl (zH (Ob.row 1 Ak) hs),E,Y⟩,E,E⟩
 ·have hs:Dl (ws.take 3)=Dl (ws.take 2)++[UInt8.ofNat ((8+body.length)/256),UInt8.ofNat (8+body.length)]:=by subst jq;exact Lp [src,dst] (8+body.length)
  have hl:=sh (ws.take 2);have js:(ws.take 2).length≤4:=by rw[zY];omega
  have jz:=I2 (8+body.length);refine oT ?_;refine Ah (Ch (k:=.int .i64) Γ.toTy E E E Tryz.underlying3 E E j_ j_ E) E E ?_;refine oO ?_;refine⟨by decide,?_⟩
  conv=>whnf
  refine Ah (Ag Γ.toTy 46 E E E E E (.row E) (.lit (e:=Ak) (l:=[UInt8.ofNat ((8+body.length)/256),UInt8.ofNat (8+body.length)]) E jz) y_ (by rw[hl];simp only[yM,xF];omega) (by rw[hl];simp only[yM,xF];omega)) E E ?_;refine gE ?_;exact Az [(1000,46)] j_ ⟨⟨E,E,E,E,E,E,E,E,Y⟩,⟨.inl (zH (Ob.row 1 Ak) hs),E,Y⟩,E,E⟩
 ·have hs:Dl (ws.take 4)=Dl (ws.take 3)++[UInt8.ofNat (0/256),UInt8.ofNat 0]:=by subst jq;exact Lp [src,dst,8+body.length] 0
  have hl:=sh (ws.take 3);have js:(ws.take 3).length≤4:=by rw[zY];omega
  have jz:=I2 0;refine oT ?_;refine Ah (Ch (k:=.int .i64) Γ.toTy E E E Tryz.underlying3 E E j_ j_ E) E E ?_;refine oO ?_;refine⟨by decide,?_⟩
  conv=>whnf
  refine Ah (Ag Γ.toTy 46 E E E E E (.row E) (.lit (e:=Ak) (l:=[UInt8.ofNat (0/256),UInt8.ofNat 0]) E jz) y_ (by rw[hl];simp only[yM,xF];omega) (by rw[hl];simp only[yM,xF];omega)) E E ?_;refine gE ?_;exact Az [(1000,46)] j_ ⟨⟨E,E,E,E,E,E,E,E,Y⟩,⟨.inl (zH (Ob.row 1 Ak) hs),E,Y⟩,E,E⟩
 have hl:=sh (ws.take 4);have e:ws.take 4=[src,dst,8+body.length,0]:=by rw[jq];rfl
 rw[e]at hl⊢;have lg:(Dl [src,dst,8+body.length,0]).length=8:=hl;refine oF ?_;refine Ah (Ag Γ.toTy 50 E E E E E (.row E) .sl y_ (by rw[lg];simp;omega) (by rw[lg];omega)) E E ?_;refine Aj 50 E ?_;exact gF
def A1v(a b:Nat)(ha:a<18446744073709551616)(hb:b<18446744073709551616):Sp 336 [Bj a,Bj b] (Aa (udpPort a b:Nat)):=cT F336 ntmps336 λF hF=>by
 have hx:=bits_xor_u64_nat a b ha hb;have hmd:((a^^^b:Nat):Int).tmod 16384=(((a^^^b)%16384:Nat):Int):=by rw[tZ q_];omega
 have hl:=tX (a^^^b) (show 0<16384 by decide);have hw:IntKind.i64.wrap (((a^^^b)%16384:Nat):Int)=(((a^^^b)%16384:Nat):Int):=by rw[IntKind.wrap_i64];omega
 conv=>whnf
 refine⟨by decide,?_⟩;rw[hx,hmd]
 conv=>whnf
 rw[hw];refine iW ?_;refine As E (.cons .tmp .nil) ?_ E;refine zH (λz:Int=>SV.val (.int .i64 z)) ?_;rw[udpPort];omega
def Aw4(v:Int)(h:Ur v=true):Sp 334 [Aa v] (.tup [.sl 1 Ak [],Aa 17]):=cT F334 ntmps334 λF hF=>by
 simp only[Ur,yO,zK]at h
 conv=>whnf
 constructor<;>intro h1
 ·refine oT ?_;refine An 2 1 Ak E ?_;exact dN
 refine oO ?_;refine⟨λh2=>?_,λh2=>yB (zT h2) (by have:=zT h1;omega)⟩;refine oO ?_;refine An 2 1 Ak E ?_;exact dN
def A1n{v:Int}(h:Ur v=false):1≤v∧v≤16777215:=by
 simp only[Ur,wJ,yE]at h;omega
def A0d(k:Nat):(K2 k).map Ak=[SV.val (.int .u8 8),SV.val (.int .u8 0),SV.val (.int .u8 0),SV.val (.int .u8 0),SV.val (.int .u8 (IntKind.u8.wrap ((k:Int).fdiv (2 ^ (min (Int.toNat 16) IntKind.i64.bits))))),
  SV.val (.int .u8 (IntKind.u8.wrap ((k:Int).fdiv (2 ^ (min (Int.toNat 8) IntKind.i64.bits))))),SV.val (.int .u8 (IntKind.u8.wrap (k:Int))),SV.val (.int .u8 0)]:=by
 have h1:IntKind.u8.wrap ((k:Int).fdiv (2^(min (Int.toNat 16) IntKind.i64.bits)))=((UInt8.ofNat (k/65536)).toNat:Int):=by
  show IntKind.u8.wrap ((k:Int).fdiv 65536)=_;rw[wL _ j_,IntKind.wrap_u8];simp
 have h2:IntKind.u8.wrap ((k:Int).fdiv (2^(min (Int.toNat 8) IntKind.i64.bits)))=((UInt8.ofNat (k/256)).toNat:Int):=by
  show IntKind.u8.wrap ((k:Int).fdiv 256)=_;rw[wL _ j_,IntKind.wrap_u8];simp
 have h3:=u8_of k;rw[h1,h2,h3];rfl
def A4n(k:Nat)(h:1≤k∧k≤16777215):Sq 334 [Aa k] [] (.tup [.osl 0,Aa 0]) [(0,.row 1 Ak (K2 k))]:=cT F334 ntmps334 λF hF=>by
 have hl:=A0d k
 conv=>whnf
 refine⟨λh1=>yB (zO h1) q_,λ_=>?_⟩;refine oO ?_;refine⟨λh1=>yB (zO h1) q_,λ_=>?_⟩;refine oO ?_;refine⟨by decide,?_⟩
 conv=>whnf
 refine⟨by decide,?_⟩
 conv=>whnf
 refine J3 18 Ak (K2 k) E hl ?_;exact done E (.cons .tmp (.cons .tmp .nil)) [(0,18)] [(0,.row 1 Ak (K2 k))] (λ_ h=>h) E E uU
def A03(a b:List UInt8):((⟨a.toArray⟩:ByteArray)==(⟨b.toArray⟩:ByteArray))=decide (a=b):=by
 have key:=Go.MapKept.bytes_beq (⟨a.toArray⟩:ByteArray) ⟨b.toArray⟩;by_cases h:a=b
 ·subst h;rw[zL rfl];exact key.2 E
 ·rw[zI h];cases hb:((⟨a.toArray⟩:ByteArray)==(⟨b.toArray⟩:ByteArray)) with
  |false=>rfl
  |true=>
   have:=zH (λz:ByteArray=>z.data.toList) (key.1 hb);exact yB (by simpa using this) h
def A1z(x y z:UInt8):bits .or .i64 (bits .or .i64 (IntKind.i64.wrap ((IntKind.i64.wrap (x.toNat:Int))*2^min (Int.toNat 16) IntKind.i64.bits)) (IntKind.i64.wrap ((IntKind.i64.wrap (y.toNat:Int))*2^min (Int.toNat 8) IntKind.i64.bits))) (IntKind.i64.wrap (z.toNat:Int))
  = (((x.toNat*256+y.toNat)*256+z.toNat:Nat):Int):=by
 have h1:=x.toNat_lt;have h2:=y.toNat_lt;have h3:=z.toNat_lt;have e1:IntKind.i64.wrap (x.toNat:Int)=(x.toNat:Int):=by rw[IntKind.wrap_i64];omega
 have e2:IntKind.i64.wrap (y.toNat:Int)=(y.toNat:Int):=by rw[IntKind.wrap_i64];omega
 have e3:IntKind.i64.wrap (z.toNat:Int)=(z.toNat:Int):=by rw[IntKind.wrap_i64];omega
 rw[e1,e2,e3];have f1:IntKind.i64.wrap ((x.toNat:Int)*2^min (Int.toNat 16) IntKind.i64.bits)=((x.toNat*65536:Nat):Int):=by
  show IntKind.i64.wrap ((x.toNat:Int)*65536)=_;rw[IntKind.wrap_i64];omega
 have f2:IntKind.i64.wrap ((y.toNat:Int)*2^min (Int.toNat 8) IntKind.i64.bits)=((y.toNat*256:Nat):Int):=by
  show IntKind.i64.wrap ((y.toNat:Int)*256)=_;rw[IntKind.wrap_i64];omega
 rw[f1,f2,Ez _ _ q_ q_];have g1:x.toNat*65536|||y.toNat*256=x.toNat*65536+y.toNat*256:=by
  have h:=xP (i:=16) (b:=y.toNat*256) q_ x.toNat;rw[vB x.toNat 65536];exact h.symm
 rw[g1,Ez _ _ q_ q_];refine zH (λn:Nat=>(n:Int)) ?_;have h:256*(x.toNat*256+y.toNat)+z.toNat=256*(x.toNat*256+y.toNat)|||z.toNat:=xP (i:=8) (b:=z.toNat) q_ (x.toNat*256+y.toNat);have e:x.toNat*65536+y.toNat*256=256*(x.toNat*256+y.toNat):=by omega
 rw[e,←h];omega
def vniS(b:List UInt8)(hb:b.length<100000):Sp 372 [.sl 1 Ak b] (.tup [Aa (vniT b).1,.sl 1 Ak (vniT b).2.1,Aa (vniT b).2.2]):=cT F372 ntmps372 λF hF=>by
 have aa:=vniT.eq_1 b;generalize vniT b=res at *
 conv=>whnf
 constructor<;>intro h
 ·rw[zE (qA h)]at aa;subst aa;refine oO ?_;refine An 3 1 Ak E ?_;exact dN
 have h8:8≤b.length:=qB h;rw[zD q_]at aa;clear h;have i4:(4:Int).toNat<b.length:=by show 4<_;omega
 have i5:(5:Int).toNat<b.length:=by show 5<_;omega
 have i6:(6:Int).toNat<b.length:=by show 6<_;omega
 have hv:bits .or .i64 (bits .or .i64 (IntKind.i64.wrap ((IntKind.i64.wrap ((b[(4:Int).toNat]'i4).toNat:Int))*2^min (Int.toNat 16) IntKind.i64.bits)) (IntKind.i64.wrap ((IntKind.i64.wrap ((b[(5:Int).toNat]'i5).toNat:Int))*2^min (Int.toNat 8) IntKind.i64.bits))) (IntKind.i64.wrap ((b[(6:Int).toNat]'i6).toNat:Int))
   = (numAt b 4 3:Int):=by
  rw[A1z,numAt3 (show 4+3≤b.length by omega)];rfl
 have ft:=Sd b 4 3;refine oO ?_;refine⟨E,by decide,i4,?_⟩
 conv=>whnf
 refine⟨by decide,?_⟩
 conv=>whnf
 refine⟨E,by decide,i5,?_⟩
 conv=>whnf
 refine⟨by decide,?_⟩
 conv=>whnf
 refine⟨E,by decide,i6,?_⟩
 conv=>whnf
 refine⟨z_,?_⟩;rw[hv];generalize hvv:numAt b 4 3=v at *
 conv=>whnf
 by_cases h0:v=0
 ·rw[zE (.inl h0)]at aa;subst aa;have q:=Aw4 v (by rw[h0];decide);refine c0 q F334 ?_
  (refine rg ?_;(conv=>whnf);refine aT ?_;refine oD ?_)
  refine⟨z_,?_⟩
  ((conv=>whnf);refine aT ?_;refine rg ?_;conv=>whnf)
  refine An 3 1 Ak E ?_;exact dN
 have q:=A4n v q_;refine Ah (Ad [(0,55)] E F334 q E Y E ⟨.inr E,Y⟩) E E ?_;refine Aj 55 E ?_
 (refine rg ?_;(conv=>whnf);refine aF ?_;refine oD ?_)
 refine Bv (K3 Γ.toTy (bs:=K2 v) E E E E E E E .sl) z_ E ?_;refine oD ?_;refine Bv (D0 (lo:=0) (hi:=8) Γ.toTy E E E E (.inl ⟨E,E⟩) (.inr ⟨_,_,E,E⟩) q_ h8) z_ E ?_;refine oD ?_;refine Bv (K3 Γ.toTy (bs:=b.take 8) E E E E E E E .sl) z_ E ?_;refine gH ?_;have z7:=A03 (K2 v) (b.take 8);rw[z7];by_cases he:b.take 8=K2 v;rotate_left
 ·rw[zE (.inr he)]at aa;subst aa;rw[zI (λe=>he e.symm)];refine⟨λ_=>?_,λh=>yB h j_⟩;refine oO ?_;refine An 3 1 Ak E ?_;exact dN
 rw[zD (λh=>h.elim h0 (λh2=>h2 he))]at aa;subst aa;rw[zL he.symm];have wv:(b.take b.length).drop 8=b.drop 8:=by rw[yN]
 refine⟨λh=>yB h j_,λ_=>?_⟩;refine oO ?_;refine Ah (D0 (lo:=8) (hi:=b.length) Γ.toTy E E E E (.inr ⟨_,_,E,E⟩) (.inl ⟨E,E⟩) h8 (yD _)) E E ?_;refine oO ?_;refine Ah (Ag Γ.toTy 45 E E E E E .nil .sl y_ (by simp;omega) (by simp;omega)) E E ?_;refine Aj 45 E ?_;refine oO ?_;refine As E (.cons .tmp (.cons .tmp (.cons .tmp .nil))) ?_ E;show SV.tup [_,.sl 1 Ak (b.drop 8),_]=SV.tup [_,.sl 1 Ak ([]++(b.take b.length).drop 8),_];rw[wv];rfl
def Aqd(a c v:Nat)(f:FrameM)(h:f.body.length≤1450):ipPutT (Lc a c v f)=(H4 (Lc a c v f),0):=by
 rw[ipPutT,zD (by rw[Mp];omega)]
def Ar5(a b:Nat):udpPort a b≤65535:=by
 have:=tX (a^^^b) (show 0<16384 by decide);unfold udpPort;omega
def A29(a c v:Nat)(f:FrameM)(ha:a<4294967296)(hc:c<4294967296)(h:f.body.length≤1450):FrameOK ⟨hostN c,hostN a,2048,H4 (Lc a c v f)⟩ :=
 ⟨Vx c hc,Vx a ha,by show (2048:Nat)≤65535;decide,by show (H4 (Lc a c v f)).length≤1504;rw[Iv,Mp];omega⟩
def A54(a c:Nat)(v:Int)(f:FrameM)(ha:a<4294967296)(hc:c<4294967296)(hf:FrameOK f):Sp 268 [A9 a,A9 c,Aa v,De f] (.tup [.sl 1 Ak (wrapT a c v f).1,Aa (wrapT a c v f).2]):=cT F268 ntmps268 λF hF=>by
 have aa:=wrapT.eq_1 a c v f;generalize wrapT a c v f=res at *;have q0:=Wo f;have hd:=hf.dst;have hs:=hf.src;have hb:=hf.body;have a7:=D5 f
 conv=>whnf
 refine Ba 7 4 (De f) E E E ?_;by_cases ht:f.typ=33024
 ·rw[zE ht]at aa;subst aa;rw[zL ht]at q0;refine oO ?_;refine c0 q0 F153 ?_;refine oT ?_;refine An 8 1 Ak E ?_;exact dN
 rw[zD ht]at aa;rw[zI ht]at q0;refine oO ?_;refine c0 q0 F153 ?_;refine oF ?_;refine Ah (Ad [(0,55)] E F83 (M2 f hf) E Y E ⟨.inr E,Y⟩) E E ?_;refine Aj 55 E ?_;refine oF ?_;cases hv:Ur v;rotate_left
 ·rw[zE hv]at aa;subst aa;refine c0 (Aw4 v hv) F334 ?_;refine oT ?_;refine An 8 1 Ak E ?_;exact dN
 rw[zD (by rw[hv];decide)]at aa;have hvg:=A1n hv;obtain ⟨k,rfl⟩:=xK (show 0≤v by omega);rw[zZ]at aa;refine Ah (Ad [(0,56)] E F334 (A4n k q_) E Y E ⟨.inr E,Y⟩) E E ?_;refine oF ?_;constructor<;>intro h
 ·rw[zE (qA h)]at aa;subst aa;refine oO ?_;refine An 8 1 Ak E ?_;exact dN
 have hl:f.body.length≤1450:=qB h;rw[zD q_]at aa;subst aa;clear h;have qp:=A1v f.dst f.src q_ q_;have mw:=Ar5 f.dst f.src;have qu:=A57 (udpPort f.dst f.src) 4789 (K2 k++Lu f) mw j_ (by rw[zQ,Hw,a7];omega);have hwb:(Lc a c k f).body=Aei (udpPort f.dst f.src) 4789 (K2 k++Lu f):=rfl;have qi:=Amt (Lc a c k f) (A1j a c k f ha hc) (by rw[Mp];omega);rw[Aqd a c k f hl]at qi;have qe:=M2 _ (A29 a c k f ha hc hl);refine oO ?_;refine c0 qp F336 ?_;refine oO ?_;refine Ah (Ag Γ.toTy 46 E E E E E (.row E) .sl j_ (by rw[Hw,a7];simp;omega) (by rw[Hw,a7];omega)) E E ?_;refine Aj 46 E ?_;refine oO ?_;refine c0 qu F335 ?_;refine oO ?_;refine c0 qi F150 ?_;refine oO ?_;refine c0 (Aki c hc) F151 ?_;refine oO ?_;refine c0 (Aki a ha) F151 ?_;refine oO ?_;refine Ah (Ad [(0,57)] E F83 qe E Y E ⟨.inr E,Y⟩) E E ?_;refine Aj 57 E ?_;exact gF
end Go.Sy.YtolnneiipmfgaaaGreatDoor
