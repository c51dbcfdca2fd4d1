/-
  VD4 KM K25 S3 K1 K2 K3 K4 K5 K6 K7 K26 K27 K28 K29 K30 K31: parts of a proof, joined by program.
-/
import Derived.Test.YtiijbikecbjdaaaGreatDoorXU7
import Derived.Test.YtiijbikecbjdaaaGreatDoorXU8
import Derived.Test.YtiijbikecbjdaaaGreatDoorXU9
import Derived.Test.YtiijbikecbjdaaaGreatDoorXU6
import Derived.Test.YtiijbikecbjdaaaGreatDoorXU4
import Derived.Test.YtiijbikecbjdaaaGreatDoorXU5
import Derived.Test.YtiijbikecbjdaaaGreatDoorXU10
set_option linter.all false
set_option linter.unusedVariables false
set_option linter.unusedSimpArgs false
set_option linter.deprecated false
namespace Go.Sy.YtiijbikecbjdaaaGreatDoor
open Go.Proofs
attribute [local irreducible] Go.Sy.G Go.Sy.DR
set_option maxRecDepth 100000
set_option maxHeartbeats 4000000
theorem Ahs (s:ByteArray):(cutT 46 s).1.size≤s.size∧(cutT 46 s).2.1.size≤s.size:=by
 unfold cutT
 split
 ·simp only[ByteArray.size_extract];omega
 ·exact⟨yC _,xZ _⟩
def okH (k x y:Bool):Nat→Bool
 | 0=>k
 | 1=>k && x
 | _=>k && x && y
theorem A0t (w:ByteArray) (hw:w.size≤100000):Sp 47 [Ao w] (.tup [.agg [Ao (Mg w).1,Ao (Mg w).2.1],Ab (Mg w).2.2]):=cT F47 Tryz.ntmps47 λ F hF=>by
 have q1:=Wu w 46 q_
 have hs:=Ahs w
 have qa:=Ef (cutT 46 w).1 q_
 have qb:=Ef (cutT 46 w).2.1 q_
 simp only[Mg]
 generalize cutT 46 w=c at *
 obtain ⟨a,b,k⟩:=c
 dsimp only at *
 generalize Ay a=x at *
 generalize Ay b=y at *
 refine T ?_
 refine C q1 F43 ?_
 refine X (Tg Γ.toTy (out:=[Ao a,Ao b]) E E E E E E) ?_
 refine B6 (λ j:Nat=>j≤2) (λ j=>[(2,.ptr 2 0),(6,Ab (okH k x y j)),(7,.ptr 7 0),(19,.agg [Ao a,Ao b]),(20,Aa j)]) (λ _=>[(2,.box [.val (.string .empty),.val (.string .empty)]),(7,.box [Ao a,Ao b])]) (λ j=>2-j) 0 [] q_ U ?_
 intro j hj
 obtain rfl | rfl | rfl:j=0∨j=1∨j=2:=by omega
 ·refine T ?_
  refine X (B7 (k:=.string) Γ.toTy E E E Tryz.underlying9 E E j_ j_ E) ?_
  cases k
  ·refine T ?_
   exact Av 1 [] j_ j_ U
  ·refine T ?_
   refine C qa F46 ?_
   exact Av 1 [] j_ j_ U
 ·refine T ?_
  refine X (B7 (k:=.string) Γ.toTy E E E Tryz.underlying9 E E j_ j_ E) ?_
  cases k
  ·refine T ?_
   exact Av 2 [] j_ j_ U
  ·cases x
   ·refine T ?_
    exact Av 2 [] j_ j_ U
   ·refine T ?_
    refine C qb F46 ?_
    exact Av 2 [] j_ j_ U
 ·refine T ?_
  exact D
theorem Azx (w:List ByteArray) (row:Int) (h0:0<w.length) (hw:w.length≤100000) (hs:∀ s∈w,s.size≤40):Sp 23 [.sl 1 Ao w,Aa row] (.tup [D1 (tenantT w row).1,Aa (tenantT w row).2]):=cT F23 Tryz.ntmps23 λ F hF=>by
 have hres:=tenantT.eq_1 w row
 generalize tenantT w row=res at *
 have h00:(0:Int).toNat<w.length:=h0
 have e0:wdT w 0=w[(0:Int).toNat]'h00:=C2 h0
 rw[e0]at hres
 by_cases k1:w[(0:Int).toNat]'h00=Aq6
 rotate_left
 ·have f1:(w[(0:Int).toNat]'h00 == (⟨#[116,101,110,97,110,116]⟩:ByteArray))=false:=by
   cases hb:(w[(0:Int).toNat]'h00 == (⟨#[116,101,110,97,110,116]⟩:ByteArray))
   ·rfl
   ·exact yB ((Ajw _ _).1 hb) k1
  have f1':(!(w[(0:Int).toNat]'h00 == (⟨#[116,101,110,97,110,116]⟩:ByteArray)))=true:=by rw[f1];rfl
  rw[zE (.inl k1)]at hres
  subst hres
  refine T ?_
  refine Ai 4 (cellsOf (D1 Ah8)) E vL ?_
  exact D
 have f1:(w[(0:Int).toNat]'h00 == (⟨#[116,101,110,97,110,116]⟩:ByteArray))=true:=(Ajw _ _).2 k1
 have f1':(!(w[(0:Int).toNat]'h00 == (⟨#[116,101,110,97,110,116]⟩:ByteArray)))=false:=by rw[f1];rfl
 by_cases k2:w.length≤2
 ·have f2:decide ((w.length:Int)≤2)=true:=zR q_
  rw[zE (.inr (.inl k2))]at hres
  subst hres
  refine T ?_
  refine Ai 4 (cellsOf (D1 Ah8)) E vL ?_
  exact D
 have f2:decide ((w.length:Int)≤2)=false:=zI q_
 by_cases k3:18<w.length
 ·have f3:decide ((w.length:Int)>18)=true:=zR q_
  rw[zE (.inr (.inr k3))]at hres
  subst hres
  refine T ?_
  refine Ai 4 (cellsOf (D1 Ah8)) E vL ?_
  exact D
 have f3:decide ((w.length:Int)>18)=false:=zI q_
 rw[zD (λ h=>h.elim (λ h=>h k1) λ h=>h.elim k2 k3)]at hres
 have h10:(1:Int).toNat<w.length:=by show 1<w.length;omega
 have e1:wdT w 1=w[(1:Int).toNat]'h10:=C2 (show 1<w.length by omega)
 rw[e1]at hres
 have qn:=Ef (w[(1:Int).toNat]'h10) (by have:=hs _ (zJ h10);omega)
 cases hn:Ay (w[(1:Int).toNat]'h10) with
 | false =>
  rw[hn]at qn
  rw[zE hn]at hres
  subst hres
  refine T ?_
  refine C qn F46 ?_
  refine Ai 4 (cellsOf (D1 Ah8)) E vL ?_
  exact D
 | true =>
 rw[hn]at qn
 rw[zD (by rw[hn];exact Bool.noConfusion)]at hres
 have hvl:(w.drop 2).length=w.length-2:=yM
 have hvs:∀ s∈w.drop 2,s.size≤40:=λ s h=>hs s (List.mem_of_mem_drop h)
 refine T ?_
 refine C qn F46 ?_
 refine X (Ii (lo:=2) (hi:=w.length) Γ.toTy (w.drop 2) E E E E (.inr ⟨_,_,E,E⟩) (.inl ⟨E,E⟩) q_ (yC _) (by rw[yG])) ?_
 obtain ⟨nm,hnm⟩:∃ nm,w[(1:Int).toNat]'h10=nm:=⟨_,rfl⟩
 rw[hnm]at hres ⊢
 generalize w.drop 2=v at *
 refine On 6 2 1001 1 Ao E E E E ?_
 refine On 6 3 1002 1 Ao E E E E ?_
 refine B6 (λ x:Nat × List ByteArray × List ByteArray=>res=Ack ⟨row,nm,x.2.1,x.2.2⟩ (v.drop x.1)∧x.1≤v.length∧x.2.1.length=x.1∧x.2.2.length=x.1) (λ x=>[(4,.ptr 4 0),(6,.ptr 6 0),(37,.sl 1 Ao v),(38,Aa v.length),(39,Aa x.1)]) (λ x=>[(4,.box [Aa 0,.val (.string .empty),.val (.slice none 0 0),.val (.slice none 0 0)]),(6,.box [Aa row,Ao nm,.osl 1001,.osl 1002]),(1001,.row 1 Ao x.2.1),(1002,.row 1 Ao x.2.2)]) (λ x=>v.length-x.1) (0,[],[]) [] ⟨hres,by simp,E,E⟩ U ?_
 rintro ⟨j,ds,ps⟩ ⟨hI,hj,hd,hp⟩
 dsimp only at hI hj hd hp ⊢
 refine T ?_
 constructor<;>intro h
 ·have hlt:j<v.length:=qA h
  have hj0:((j:Nat):Int).toNat<v.length:=hlt
  clear h
  have hdr:v.drop j=v[((j:Nat):Int).toNat]'hj0::v.drop (j+1):=yJ hlt
  rw[hdr,Ack]at hI
  have q:=A0t (v[((j:Nat):Int).toNat]'hj0) (by have:=hvs _ (zJ hj0);omega)
  generalize Mg (v[((j:Nat):Int).toNat]'hj0)=hv at *
  obtain ⟨a,b,ok⟩:=hv
  dsimp only at hI q
  cases ok
  ·rw[zE rfl]at hI
   subst hI
   refine T ?_
   refine C q F47 ?_
   refine Ai 4 (cellsOf (D1 Ah8)) E vL ?_
   exact D
  ·rw[zD (by exact Bool.noConfusion)]at hI
   refine T ?_
   refine C q F47 ?_
   refine Xd (Ae Γ.toTy 56 E E E E E (.row E) (.lit (e:=Ao) (l:=[a]) E E) y_ (by simp;omega) (by simp;omega)) ?_
   refine Xd (Ae Γ.toTy 62 E E E E E (.row E) (.lit (e:=Ao) (l:=[b]) E E) y_ (by simp;omega) (by simp;omega)) ?_
   exact Av (j+1,ds++[a],ps++[b]) [(1001,56),(1002,62)] ⟨hI,hlt,by simp;omega,by simp;omega⟩ (by dsimp only;omega) U
 ·have hje:j=v.length:=qB h
  rw[hje,wH,Ack]at hI
  subst hI
  clear h
  refine T ?_
  refine Ag 1001 E ?_
  refine Ag 1002 E ?_
  exact D
theorem Aai (b:List UInt8) (hb:b.length≤1000000):Sp 11 [.sl 1 Ah b] (.tup [.sl 4 D1 (policyT b).1,Aa (policyT b).2.1,Aa (policyT b).2.2]):=cT F11 Tryz.ntmps11 λ F hF=>by
 have q1:=Agz b hb
 have hres:=policyT.eq_1 b
 have hsm:=L9 b
 generalize policyT b=res at *
 generalize rowsT b=rt at *
 obtain ⟨rows,e0⟩:=rt
 dsimp only at hres hsm q1
 obtain ⟨hlen,hsz⟩:=hsm
 by_cases he0:e0=0
 rotate_left
 ·have f0:(e0 != 0)=true:=by rw[yQ];exact he0
  rw[zE he0]at hres
  subst hres
  refine T ?_
  refine C q1 F21 ?_
  refine Am 2 4 D1 E ?_
  exact D
 have f0:(e0 != 0)=false:=by rw[he0];rfl
 rw[zD (λ h=>h he0)]at hres
 subst he0
 refine T ?_
 refine C q1 F21 ?_
 refine B9 2 1000 4 D1 E E ?_
 refine B6 (λ x:Nat × List TenM=>res=Ja x.1 x.2 (rows.drop x.1)∧x.1≤rows.length∧x.2.length≤x.1) (λ x=>[(2,.osl 1000),(19,.sl 1 Ao rows),(20,Aa rows.length),(21,Aa x.1)]) (λ x=>[(1000,.row 4 D1 x.2)]) (λ x=>rows.length-x.1) (0,[]) [] ⟨hres,by simp,by simp⟩ U ?_
 rintro ⟨j,out⟩ ⟨hI,hj,hol⟩
 dsimp only at hI hj hol ⊢
 refine T ?_
 constructor<;>intro h
 ·have hlt:j<rows.length:=qA h
  have hlt0:((j:Nat):Int).toNat<rows.length:=hlt
  have hr:(rows[((j:Nat):Int).toNat]'hlt0).size≤20000:=hsz _ (zJ _)
  have hdr:rows.drop j=rows[((j:Nat):Int).toNat]'hlt0::rows.drop (j+1):=yJ hlt
  rw[hdr,Ja]at hI
  clear h
  have q2:=Adq (rows[((j:Nat):Int).toNat]'hlt0) q_
  have hws:=Oo (rows[((j:Nat):Int).toNat]'hlt0) hr
  generalize wordsT (rows[((j:Nat):Int).toNat]'hlt0)=wt at *
  obtain ⟨ws,we⟩:=wt
  dsimp only at hI hws q2
  by_cases he:we=0
  rotate_left
  ·have f1:(we == 0)=false:=by rw[zL];exact he
   have f2:(we != 0)=true:=by rw[yQ];exact he
   rw[zE he]at hI
   subst hI
   refine T ?_
   refine C q2 F22 ?_
   refine Am 2 4 D1 E ?_
   exact D
  subst he
  rw[zD (λ h=>h rfl)]at hI
  by_cases hw0:ws.length=0
  ·rw[zE (zU hw0)]at hI
   have f1:((ws.length:Int) == 0)=true:=by rw[hw0];rfl
   refine T ?_
   refine C q2 F22 ?_
   exact Av (j+1,out) [] ⟨hI,hlt,by dsimp only;omega⟩ (by dsimp only;omega) U
  rw[zD (λ e=>hw0 (by rw[e];rfl))]at hI
  have f1:((ws.length:Int) == 0)=false:=by rw[zL];omega
  have q3:=Azx ws ((j:Int)+1) q_ q_ hws.2
  generalize tenantT ws ((j:Int)+1)=st at *
  obtain ⟨t,se⟩:=st
  dsimp only at hI q3
  by_cases hs:se=0
  rotate_left
  ·have f2:(se == 0)=false:=by rw[zL];exact hs
   have f3:(se != 0)=true:=by rw[yQ];exact hs
   rw[zE hs]at hI
   subst hI
   refine T ?_
   refine C q2 F22 ?_
   refine C q3 F23 ?_
   refine Am 2 4 D1 E ?_
   exact D
  subst hs
  rw[zD (λ h=>h rfl)]at hI
  by_cases h10:out.length=10
  ·have f2:((out.length:Int) == 10)=true:=by rw[h10];rfl
   rw[zE h10]at hI
   subst hI
   refine T ?_
   refine C q2 F22 ?_
   refine C q3 F23 ?_
   refine Am 2 4 D1 E ?_
   exact D
  have f2:((out.length:Int) == 10)=false:=by rw[zL];omega
  rw[zD h10]at hI
  refine T ?_
  refine C q2 F22 ?_
  refine C q3 F23 ?_
  refine X (Ae Γ.toTy 62 E E E E E (.row E) (.lit (e:=D1) (l:=[t]) E E) y_ (by simp;omega) (by simp;omega)) ?_
  exact Av (j+1,out++[t]) [(1000,62)] ⟨hI,hlt,by simp;omega⟩ (by dsimp only;omega) U
 ·have hje:j=rows.length:=qB h
  rw[hje,wH,Ja]at hI
  subst hI
  clear h
  refine T ?_
  refine Ag 1000 E ?_
  exact D
end Go.Sy.YtiijbikecbjdaaaGreatDoor
namespace Go.Sy.YtiijbikecbjdaaaGreatDoor
open Go.Proofs
structure EntryM where
 mac:Nat
 where_:Int
 seen:Int
deriving DecidableEq
def Bc (e:EntryM):SV:=.agg [Bf e.mac,Aa e.where_,Aa e.seen]
def J7 (m:Nat):Bool:=decide (m≤281474976710655) && !Iu m
def I6 (now:Int):Bool:=decide (0≤now) && decide (now≤1099511627776)
def Hu (t:List EntryM) (m:Nat):Int:=Co (λ e=>decide (e.mac=m)) t
def Zv (t:List EntryM) (i:Nat) (e:EntryM):Bool:=J7 e.mac && I6 e.seen && decide (Hu t e.mac=i)
def tableB (t:List EntryM):Bool:=decide (t.length≤8) && Ho (Zv t) t
def findE (t:List EntryM) (m:Nat):Int × Bool:=if Hu t m<0 then (0,false) else (((t[(Hu t m).toNat]?).map (·.where_)).getD 0,true)
def oldestU (t:List EntryM):Nat→Nat
 | 0=>0
 | j+1=>if ((t[j]?).map (·.seen)).getD 0<((t[oldestU t j]?).map (·.seen)).getD 0 then j else oldestU t j
def learnT (t:List EntryM) (m:Nat) (wh now:Int):List EntryM :=
 if tableB t=false∨J7 m=false∨I6 now=false then t
 else if 0≤Hu t m then t.set (Hu t m).toNat ⟨m,wh,now⟩
 else (if t.length=8 then t.eraseIdx (oldestU t t.length) else t)++[⟨m,wh,now⟩]
def ageT (t:List EntryM) (now:Int):List EntryM:=if tableB t=false∨I6 now=false then t else t.filter λ e=>decide (now-4≤e.seen)
def noF:FrameM:=⟨0,0,0,[]⟩
structure FrameOK (f:FrameM):Prop where
 dst:f.dst<281474976710656
 src:f.src<281474976710656
 typ:f.typ≤65535
 body:f.body.length≤1504
def takeF (b:List UInt8):FrameM × Int :=
 if b.length<14 then (noF,10) else if 1518<b.length then (noF,14)
 else (⟨Kz (b.take 6),Kz ((b.drop 6).take 6),Kz ((b.drop 12).take 2),b.drop 14⟩,0)
def Xc (f:FrameM):List UInt8:=frame f.dst f.src f.typ f.body
def stripT (f:FrameM):FrameM × Int × Int × Int :=
 if f.typ≠33024 then (noF,0,0,11) else if f.body.length<4 then (noF,0,0,10)
 else if 4094<Kz (f.body.take 2) % 4096∨Kz ((f.body.drop 2).take 2)=33024 then (noF,0,0,15)
 else (⟨f.dst,f.src,Kz ((f.body.drop 2).take 2),f.body.drop 4⟩,(Kz (f.body.take 2) % 4096:Nat),(Kz (f.body.take 2) / 4096:Nat),0)
def tagT (f:FrameM) (v:Int):FrameM × Int :=
 if f.typ=33024 then (noF,15) else if 1500<f.body.length then (noF,14)
 else (⟨f.dst,f.src,33024,[UInt8.ofNat (v.toNat / 256),UInt8.ofNat v.toNat,UInt8.ofNat (f.typ / 256),UInt8.ofNat f.typ]++f.body⟩,0)
def vlanT (p:Port) (tagged:Bool) (vid:Int):Int × Bool :=
 if tagged=false∨vid=0 then (p.native,decide (p.native≠0)) else if inB p.tagged vid=true then (vid,true) else (0,false)
def Lx (n:Net) (port:Int) (f:FrameM) (tagged:Bool) (vid:Int):Int × FrameM × Int :=
 if Iu f.src=true then (0,noF,11)
 else if (vlanT (nth n.ports port) tagged vid).2=false then (0,noF,16)
 else (De n (nth n.ports port).dev (vlanT (nth n.ports port) tagged vid).1,f,0)
def enterT (n:Net) (port:Int) (b:List UInt8):Int × FrameM × Int :=
 if An port n.ports.length=false∨Ac n=false then (0,noF,2)
 else if (takeF b).2≠0 then (0,noF,(takeF b).2)
 else if (takeF b).1.typ=33024 then
  (if (stripT (takeF b).1).2.2.2≠0 then (0,noF,(stripT (takeF b).1).2.2.2) else Lx n port (stripT (takeF b).1).1 true (stripT (takeF b).1).2.1)
 else Lx n port (takeF b).1 false 0
def leaveT (n:Net) (port dom:Int) (f:FrameM):List UInt8 × Int :=
 if An port n.ports.length=false∨An dom n.domains.length=false∨Ac n=false then ([],2)
 else if (nth n.ports port).dev≠(nth n.domains dom).dev∨D0 (nth n.ports port) (nth n.domains dom).vlan=false then ([],16)
 else if f.typ=33024 then ([],15)
 else if (nth n.domains dom).vlan=(nth n.ports port).native then (Xc f,0)
 else if (tagT f (nth n.domains dom).vlan).2≠0 then ([],(tagT f (nth n.domains dom).vlan).2)
 else (Xc (tagT f (nth n.domains dom).vlan).1,0)
def linkT (n:Net) (port:Int) (b:List UInt8):Int × Int × FrameM × Int :=
 if D3 n port<0 then (0,0,noF,2) else (D3 n port,enterT n (D3 n port) b)
structure QueuedM where
 from_:Int
 peer:Int
 origin:Int
 frame:FrameM
def B1 (q:QueuedM):SV:=.agg [Aa q.from_,Aa q.peer,Aa q.origin,Bf q.frame.dst,Bf q.frame.src,Aa q.frame.typ,.sl 1 Ah q.frame.body]
def noQ:QueuedM:=⟨0,0,0,noF⟩
def pushT (l:List QueuedM) (q:QueuedM):List QueuedM × Bool:=if 64≤l.length then (l,false) else (l++[q],true)
def takeT (l:List QueuedM) (at_:Int):QueuedM × List QueuedM × Bool :=
 if at_<0∨(l.length:Int)≤at_ then (noQ,l,false) else ((l[at_.toNat]?).getD noQ,l.eraseIdx at_.toNat,true)
def usableB (n:Net) (fw:List Bool) (p:Int):Bool:=decide ((nth n.ports p).link<0) || (fw[(nth n.ports p).link.toNat]?).getD false
def Qv (n:Net) (fw:List Bool) (dom from_:Int):Bool :=
 An dom n.domains.length && decide (fw.length=n.links.length) && Ac n && (decide (from_=-1) || decide (from_=-2) || inB (Bg n dom) from_)
def E8 (n:Net) (fw:List Bool) (from_:Int) (l:List Int):List Int:=l.filter λ p=>!(decide (p=from_) || !(usableB n fw p))
def peersOut (n:Net) (dom from_:Int):List Int:=if from_=-1 then [] else (nth n.domains dom).peers
def floodT (n:Net) (fw:List Bool) (dom from_:Int):List Int × List Int × Int :=
 if Qv n fw dom from_=false then ([],[],2) else (E8 n fw from_ (Bg n dom),peersOut n dom from_,0)
def En (n:Net) (dom:Int) (m:Nat):Int:=Co (λ s:Static=>decide (s.domain=dom) && decide (s.mac=(m:Int))) n.statics
def Dn (n:Net) (fw:List Bool) (t:List EntryM) (dom from_:Int) (m:Nat):List Int × List Int × Int :=
 if Qv n fw dom from_=false then ([],[],2)
 else if Iu m=true then (E8 n fw from_ (Bg n dom),peersOut n dom from_,0)
 else if 0≤En n dom m then (E8 n fw from_ [(nth n.statics (En n dom m)).port],[],0)
 else if (findE t m).2=true∧0≤(findE t m).1∧inB (Bg n dom) (findE t m).1=true then (E8 n fw from_ [(findE t m).1],[],0)
 else if (findE t m).2=true∧(findE t m).1<0∧inB (nth n.domains dom).peers (-1-(findE t m).1)=true then ([],if from_=-1 then [] else [-1-(findE t m).1],0)
 else (E8 n fw from_ (Bg n dom),peersOut n dom from_,0)
def bAt (b:List UInt8) (i:Nat):UInt8:=b.getD i 0
def numAt (b:List UInt8) (k m:Nat):Nat:=Kz ((b.drop k).take m)
def D2 (l:List Nat):List UInt8:=l.flatMap λ n=>[UInt8.ofNat (n / 256),UInt8.ofNat n]
def udpPort (a b:Nat):Nat:=49152+(a ^^^ b) % 16384
def Avq (src dst:Nat) (body:List UInt8):List UInt8:=D2 [src,dst,8+body.length,0]++body
def udpTakeT (b:List UInt8):Int × Int × List UInt8 × Int :=
 if b.length<8 then (0,0,[],10) else if numAt b 4 2<8 then (0,0,[],11) else if b.length<numAt b 4 2 then (0,0,[],10)
 else if numAt b 6 2≠0 then (0,0,[],12) else (numAt b 0 2,numAt b 2 2,(b.take (numAt b 4 2)).drop 8,0)
structure PacketM where
 tos:Nat
 id:Nat
 ttl:Nat
 proto:Nat
 src:Nat
 dst:Nat
 body:List UInt8
def noP:PacketM:=⟨0,0,0,0,0,0,[]⟩
def Xj (p:PacketM):SV:=.agg [Aa p.tos,Aa p.id,Aa p.ttl,Aa p.proto,A6 p.src,A6 p.dst,.sl 1 Ah p.body]
structure PacketOK (p:PacketM):Prop where
 tos:p.tos≤255
 id:p.id≤65535
 ttl:p.ttl≤255
 proto:p.proto≤255
 src:p.src<4294967296
 dst:p.dst<4294967296
def Jv (p:PacketM) (s:Nat):List UInt8:=D2 [17664+p.tos,20+p.body.length,p.id,0,p.ttl * 256+p.proto,s,p.src / 65536,p.src,p.dst / 65536,p.dst]
def Ag6 (p:PacketM):Nat:=Aq7 (Jv p 0)
def Abr (p:PacketM):List UInt8:=Jv p (Ag6 p)++p.body
def ipPutT (p:PacketM):List UInt8 × Int:=if 1480<p.body.length then ([],14) else (Abr p,0)
def ipTakeT (b:List UInt8):PacketM × Int :=
 if b.length<20 then (noP,10) else if bAt b 0≠69∨numAt b 2 2<20 then (noP,11) else if b.length<numAt b 2 2 then (noP,10)
 else if numAt b 6 2≠0 then (noP,11) else if Jr (Wl (b.take 20) 10)≠65535 then (noP,12)
 else (⟨(bAt b 1).toNat,numAt b 4 2,(bAt b 8).toNat,(bAt b 9).toNat,numAt b 12 4,numAt b 16 4,(b.take (numAt b 2 2)).drop 20⟩,0)
def Qy (v:Nat):List UInt8:=[8,0,0,0,UInt8.ofNat (v / 65536),UInt8.ofNat (v / 256),UInt8.ofNat v,0]
def Yz (v:Int):Bool:=decide (v<1) || decide (16777215<v)
def vniT (b:List UInt8):Int × List UInt8 × Int :=
 if b.length<8 then (0,[],10) else if numAt b 4 3=0∨b.take 8≠Qy (numAt b 4 3) then (0,[],11) else (numAt b 4 3,b.drop 8,0)
def Ut (from_ to:Nat) (v:Nat) (f:FrameM):PacketM:=⟨0,0,64,17,from_,to,Avq (udpPort f.dst f.src) 4789 (Qy v++Xc f)⟩
def wrapT (from_ to:Nat) (v:Int) (f:FrameM):List UInt8 × Int :=
 if f.typ=33024 then ([],15) else if Yz v=true then ([],17) else if 1450<f.body.length then ([],14)
 else (frame (Kf to) (Kf from_) 2048 (Abr (Ut from_ to v.toNat f)),0)
def outerT (b:List UInt8):PacketM × Int :=
 if (takeF b).2≠0 then (noP,(takeF b).2) else if (takeF b).1.typ≠2048 then (noP,11)
 else if (ipTakeT (takeF b).1.body).2≠0 then (noP,(ipTakeT (takeF b).1.body).2)
 else ((ipTakeT (takeF b).1.body).1,if (ipTakeT (takeF b).1.body).1.proto≠17 then 11 else 0)
def Mu (b:List UInt8):Int × FrameM × Int :=
 if (udpTakeT b).2.2.2≠0 then (0,noF,(udpTakeT b).2.2.2) else if (udpTakeT b).2.1≠4789 then (0,noF,11)
 else if (vniT (udpTakeT b).2.2.1).2.2≠0 then (0,noF,(vniT (udpTakeT b).2.2.1).2.2)
 else if (takeF (vniT (udpTakeT b).2.2.1).2.1).2≠0 then (0,noF,(takeF (vniT (udpTakeT b).2.2.1).2.1).2)
 else if (takeF (vniT (udpTakeT b).2.2.1).2.1).1.typ=33024 then (0,noF,15)
 else ((vniT (udpTakeT b).2.2.1).1,(takeF (vniT (udpTakeT b).2.2.1).2.1).1,0)
def Ci (b:List UInt8):Nat × Nat × Int × FrameM × Int :=
 if (outerT b).2≠0 then (0,0,0,noF,(outerT b).2) else if (Mu (outerT b).1.body).2.2≠0 then (0,0,0,noF,(Mu (outerT b).1.body).2.2)
 else ((outerT b).1.src,(outerT b).1.dst,(Mu (outerT b).1.body).1,(Mu (outerT b).1.body).2.1,0)
structure Net.Num (n:Net):Prop where
 vtep:∀ d∈n.devices,0≤d.vtep∧d.vtep<4294967296
 addr:∀ i∈n.irbs,0≤i.addr∧i.addr<4294967296
def Kv (n:Net) (dom:Int):Int:=(nth n.devices (nth n.domains dom).dev).vtep
def meshT (n:Net) (dom peer:Int) (f:FrameM):List UInt8 × Int :=
 if An peer n.domains.length=false∨An dom n.domains.length=false∨Ac n=false then ([],2)
 else if inB (nth n.domains dom).peers peer=false then ([],17)
 else wrapT (Kv n dom).toNat (Kv n peer).toNat (nth n.domains dom).vni f
def endsT (n:Net) (src dst:Nat) (vni:Int):Int × Int :=
 let dev:=Co (λ d:Device=>decide (d.vtep=(dst:Int))) n.devices
 let dom:=Co (λ d:Domain=>decide (d.dev=dev) && decide (d.vni=vni)) n.domains
 if dev<0∨dom<0 then (-1,-1)
 else
  let i:=Co (λ k:Int=>decide (Kv n k=(src:Int))) (nth n.domains dom).peers
  if i<0 then (-1,-1) else (nth (nth n.domains dom).peers i,dom)
def comeT (n:Net) (b:List UInt8):Int × Int × FrameM × Int :=
 if Ac n=false then (0,0,noF,2)
 else if (Ci b).2.2.2.2≠0 then (0,0,noF,(Ci b).2.2.2.2)
 else if (endsT n (Ci b).1 (Ci b).2.1 (Ci b).2.2.1).1<0 then (0,0,noF,17)
 else if Iu (Ci b).2.2.2.1.src=true then (0,0,noF,11)
 else ((endsT n (Ci b).1 (Ci b).2.1 (Ci b).2.2.1).1,(endsT n (Ci b).1 (Ci b).2.1 (Ci b).2.2.1).2,(Ci b).2.2.2.1,0)
def routerT (n:Net) (dom:Int) (m:Nat):Int × Bool :=
 if An dom n.domains.length=false∨Ac n=false then (0,false)
 else if (nth n.domains dom).irb<0∨Kf (nth n.irbs (nth n.domains dom).irb).addr≠m then (0,false)
 else ((nth n.domains dom).irb,true)
def Ap0 (p:PacketM):PacketM:=⟨p.tos,p.id,p.ttl-1,p.proto,p.src,p.dst,p.body⟩
def hopT (n:Net) (irb:Int) (f:FrameM):Int × FrameM × Int :=
 if An irb n.irbs.length=false∨Ac n=false then (0,noF,2)
 else if f.typ≠2048 then (0,noF,11)
 else if (ipTakeT f.body).2≠0 then (0,noF,(ipTakeT f.body).2)
 else if (ipTakeT f.body).1.ttl≤1 then (0,noF,13)
 else if (lookT n irb (ipTakeT f.body).1.dst).2=false then (0,noF,31)
 else if 1480<(ipTakeT f.body).1.body.length then (0,noF,14)
 else ((nth n.irbs (lookT n irb (ipTakeT f.body).1.dst).1).domain,
  ⟨Kf (ipTakeT f.body).1.dst,Kf (nth n.irbs (lookT n irb (ipTakeT f.body).1.dst).1).addr,2048,Abr (Ap0 (ipTakeT f.body).1)⟩,0)
structure OutM where
 kind:Int
 port:Int
 domain:Int
 bytes:List UInt8
 frame:FrameM
 error:Int
def Ha (o:OutM):SV:=.agg [Aa o.kind,Aa o.port,Aa o.domain,.sl 1 Ah o.bytes,Bf o.frame.dst,Bf o.frame.src,Aa o.frame.typ,.sl 1 Ah o.frame.body,Aa o.error]
def learnQ (t:List EntryM) (q:QueuedM) (now:Int):List EntryM :=
 if q.from_=-2 then t else learnT t q.frame.src (if q.from_=-1 then -1-q.peer else q.from_) now
def Xr (o:OutM) (r:List UInt8 × Int):OutM:=if r.2≠0 then ⟨5,o.port,o.domain,[],o.frame,r.2⟩ else ⟨o.kind,o.port,o.domain,r.1,o.frame,o.error⟩
def Aft (n:Net) (dom:Int) (f:FrameM) (p:Int):OutM:=Xr ⟨if (nth n.ports p).link<0 then 1 else 2,p,0,[],noF,0⟩ (leaveT n p dom f)
def Aiv (n:Net) (dom:Int) (f:FrameM) (p:Int):OutM:=Xr ⟨3,0,p,[],noF,0⟩ (meshT n dom p f)
def bridgeT (n:Net) (fw:List Bool) (t:List EntryM) (dom:Int) (q:QueuedM) (now:Int):List EntryM × List OutM × Int :=
 if Qv n fw dom q.from_=false∨tableB t=false then ([],[],2)
 else if (routerT n dom q.frame.dst).2=true then
  (if (hopT n (routerT n dom q.frame.dst).1 q.frame).2.2≠0 then (learnQ t q now,[],(hopT n (routerT n dom q.frame.dst).1 q.frame).2.2)
   else (learnQ t q now,[⟨4,0,(hopT n (routerT n dom q.frame.dst).1 q.frame).1,[],(hopT n (routerT n dom q.frame.dst).1 q.frame).2.1,0⟩],0))
 else (learnQ t q now,(Dn n fw (learnQ t q now) dom q.from_ q.frame.dst).1.map (Aft n dom q.frame)++(Dn n fw (learnQ t q now) dom q.from_ q.frame.dst).2.1.map (Aiv n dom q.frame),0)
end Go.Sy.YtiijbikecbjdaaaGreatDoor
namespace Go.Sy.YtiijbikecbjdaaaGreatDoor
open Go.Proofs
attribute [local irreducible] Go.Sy.G Go.Sy.DR
set_option maxRecDepth 100000
set_option maxHeartbeats 4000000
theorem Iz {κ:Ka} {w:World} {k sz:Nat} {α:Type} {e:α→SV} {l:List α} (hne:l≠[]) (h:ObOK κ w k (.row sz e l)):∃ b n c,κ k=.row b n c:=by
 rcases h with ⟨_,h⟩ | ⟨b,cap,_,_,_,h,_⟩
 ·exact yB h hne
 ·exact⟨b,_,cap,h⟩
theorem Ajs (l:List Device) (hl:l.length<2147483648):Sp 136 [.sl 5 Au l] (.sl 5 Au l):=cT F136 Tryz.ntmps136 λ F hF=>by
 conv=>whnf
 refine Ds E (.inl E) E E E .sl E E ?_
 intro b hb
 cases b
 ·refine oF ?_
  refine Af (Ae Γ.toTy 7 E E E E E (.lit (e:=Au) (l:=[]) E E) .sl y_ (by simp;omega) (by simp;omega)) E E ?_
  refine Ag 7 E ?_
  refine oO ?_
  exact dN
 ·have h0:l=[]:=zU (hb rfl)
  subst h0
  refine oT ?_
  refine Am 2 5 Au E ?_
  exact dN
theorem Aqn (l:List Link) (hl:l.length<2147483648):Sp 138 [.sl 3 Bw l] (.sl 3 Bw l):=cT F138 Tryz.ntmps138 λ F hF=>by
 conv=>whnf
 refine Ds E (.inl E) E E E .sl E E ?_
 intro b hb
 cases b
 ·refine oF ?_
  refine Af (Ae Γ.toTy 7 E E E E E (.lit (e:=Bw) (l:=[]) E E) .sl y_ (by simp;omega) (by simp;omega)) E E ?_
  refine Ag 7 E ?_
  refine oO ?_
  exact dN
 ·have h0:l=[]:=zU (hb rfl)
  subst h0
  refine oT ?_
  refine Am 2 3 Bw E ?_
  exact dN
theorem Ajp (l:List Static) (hl:l.length<2147483648):Sp 140 [.sl 4 Az l] (.sl 4 Az l):=cT F140 Tryz.ntmps140 λ F hF=>by
 conv=>whnf
 refine Ds E (.inl E) E E E .sl E E ?_
 intro b hb
 cases b
 ·refine oF ?_
  refine Af (Ae Γ.toTy 7 E E E E E (.lit (e:=Az) (l:=[]) E E) .sl y_ (by simp;omega) (by simp;omega)) E E ?_
  refine Ag 7 E ?_
  refine oO ?_
  exact dN
 ·have h0:l=[]:=zU (hb rfl)
  subst h0
  refine oT ?_
  refine Am 2 4 Az E ?_
  exact dN
theorem Auy (l:List Irb) (hl:l.length<2147483648):Sp 143 [.sl 5 B3 l] (.sl 5 B3 l):=cT F143 Tryz.ntmps143 λ F hF=>by
 conv=>whnf
 refine Ds E (.inl E) E E E .sl E E ?_
 intro b hb
 cases b
 ·refine oF ?_
  refine Af (Ae Γ.toTy 7 E E E E E (.lit (e:=B3) (l:=[]) E E) .sl y_ (by simp;omega) (by simp;omega)) E E ?_
  refine Ag 7 E ?_
  refine oO ?_
  exact dN
 ·have h0:l=[]:=zU (hb rfl)
  subst h0
  refine oT ?_
  refine Am 2 5 B3 E ?_
  exact dN
theorem Ec (l:List Int) (hl:l.length<2147483648):Sp 144 [.sl 1 Aa l] (.sl 1 Aa l):=cT F144 Tryz.ntmps144 λ F hF=>by
 conv=>whnf
 refine Ds E (.inl E) E E E .sl E E ?_
 intro b hb
 cases b
 ·refine oF ?_
  refine Af (Ae Γ.toTy 7 E E E E E (.lit (e:=Aa) (l:=[]) E E) .sl y_ (by simp;omega) (by simp;omega)) E E ?_
  refine Ag 7 E ?_
  refine oO ?_
  exact dN
 ·have h0:l=[]:=zU (hb rfl)
  subst h0
  refine oT ?_
  refine Am 2 1 Aa E ?_
  exact dN
theorem Zx (l:List Int) (hl:l.length<2147483648):Sp 145 [.sl 1 A6 l] (.sl 1 A6 l):=cT F145 Tryz.ntmps145 λ F hF=>by
 conv=>whnf
 refine Ds E (.inl E) E E E .sl E E ?_
 intro b hb
 cases b
 ·refine oF ?_
  refine Af (Ae Γ.toTy 7 E E E E E (.lit (e:=A6) (l:=[]) E E) .sl y_ (by simp;omega) (by simp;omega)) E E ?_
  refine Ag 7 E ?_
  refine oO ?_
  exact dN
 ·have h0:l=[]:=zU (hb rfl)
  subst h0
  refine oT ?_
  refine Am 2 1 A6 E ?_
  exact dN
theorem Aqp (l:List Bool) (hl:l.length<2147483648):Sp 84 [.sl 1 Ab l] (.sl 1 Ab l):=cT F84 Tryz.ntmps84 λ F hF=>by
 conv=>whnf
 refine Ds E (.inl E) E E E .sl E E ?_
 intro b hb
 cases b
 ·refine oF ?_
  refine Af (Ae Γ.toTy 7 E E E E E (.lit (e:=Ab) (l:=[]) E E) .sl y_ (by simp;omega) (by simp;omega)) E E ?_
  refine Ag 7 E ?_
  refine oO ?_
  exact dN
 ·have h0:l=[]:=zU (hb rfl)
  subst h0
  refine oT ?_
  refine Am 2 1 Ab E ?_
  exact dN
theorem Aey (l:List Port) (hl:l.length<2147483648):Sq 137 [.sl 7 A3 l] [] (.osl 0) [(0,.row 7 A3 l)]:=cT F137 Tryz.ntmps137 λ F hF=>by
 conv=>whnf
 refine Ds E (.inl E) E E E .sl E E ?_
 intro b hb
 cases b
 ·refine oF ?_
  refine Af (Ae Γ.toTy 7 E E E E E (.lit (e:=A3) (l:=[]) E E) .sl y_ (by simp;omega) (by simp;omega)) E E ?_
  refine oO ?_
  exact done E (.cons .tmp .nil) [(0,7)] [(0,.row 7 A3 l)] (λ _ h=>h) E E ⟨Y,⟨.inl E,E,Y⟩,E,E⟩
 ·have h0:l=[]:=zU (hb rfl)
  subst h0
  refine oT ?_
  refine B9 2 1000 7 A3 E E ?_
  exact done E (.cons .tmp .nil) [(0,1000)] [(0,.row 7 A3 [])] (λ _ h=>h) E E ⟨Y,⟨.inl E,E,Y⟩,E,E⟩
theorem Ym (l:List Domain) (hl:l.length<2147483648):Sq 139 [.sl 6 Ap l] [] (.osl 0) [(0,.row 6 Ap l)]:=cT F139 Tryz.ntmps139 λ F hF=>by
 conv=>whnf
 refine Ds E (.inl E) E E E .sl E E ?_
 intro b hb
 cases b
 ·refine oF ?_
  refine Af (Ae Γ.toTy 7 E E E E E (.lit (e:=Ap) (l:=[]) E E) .sl y_ (by simp;omega) (by simp;omega)) E E ?_
  refine oO ?_
  exact done E (.cons .tmp .nil) [(0,7)] [(0,.row 6 Ap l)] (λ _ h=>h) E E ⟨Y,⟨.inl E,E,Y⟩,E,E⟩
 ·have h0:l=[]:=zU (hb rfl)
  subst h0
  refine oT ?_
  refine B9 2 1000 6 Ap E E ?_
  exact done E (.cons .tmp .nil) [(0,1000)] [(0,.row 6 Ap [])] (λ _ h=>h) E E ⟨Y,⟨.inl E,E,Y⟩,E,E⟩
theorem Aa5 (l:List Flood) (hl:l.length<2147483648):Sq 141 [.sl 4 Be l] [] (.osl 0) [(0,.row 4 Be l)]:=cT F141 Tryz.ntmps141 λ F hF=>by
 conv=>whnf
 refine Ds E (.inl E) E E E .sl E E ?_
 intro b hb
 cases b
 ·refine oF ?_
  refine Af (Ae Γ.toTy 7 E E E E E (.lit (e:=Be) (l:=[]) E E) .sl y_ (by simp;omega) (by simp;omega)) E E ?_
  refine oO ?_
  exact done E (.cons .tmp .nil) [(0,7)] [(0,.row 4 Be l)] (λ _ h=>h) E E ⟨Y,⟨.inl E,E,Y⟩,E,E⟩
 ·have h0:l=[]:=zU (hb rfl)
  subst h0
  refine oT ?_
  refine B9 2 1000 4 Be E E ?_
  exact done E (.cons .tmp .nil) [(0,1000)] [(0,.row 4 Be [])] (λ _ h=>h) E E ⟨Y,⟨.inl E,E,Y⟩,E,E⟩
theorem Ahv (l:List Vrf) (hl:l.length<2147483648):Sq 142 [.sl 5 Ca l] [] (.osl 0) [(0,.row 5 Ca l)]:=cT F142 Tryz.ntmps142 λ F hF=>by
 conv=>whnf
 refine Ds E (.inl E) E E E .sl E E ?_
 intro b hb
 cases b
 ·refine oF ?_
  refine Af (Ae Γ.toTy 7 E E E E E (.lit (e:=Ca) (l:=[]) E E) .sl y_ (by simp;omega) (by simp;omega)) E E ?_
  refine oO ?_
  exact done E (.cons .tmp .nil) [(0,7)] [(0,.row 5 Ca l)] (λ _ h=>h) E E ⟨Y,⟨.inl E,E,Y⟩,E,E⟩
 ·have h0:l=[]:=zU (hb rfl)
  subst h0
  refine oT ?_
  refine B9 2 1000 5 Ca E E ?_
  exact done E (.cons .tmp .nil) [(0,1000)] [(0,.row 5 Ca [])] (λ _ h=>h) E E ⟨Y,⟨.inl E,E,Y⟩,E,E⟩
theorem copyS (n:Net) (hn:n.Fin) :
  Sp 79 [Al n] (Al n):=cT F79 Tryz.ntmps79 λ F hF=>by
 have h1:n.devices.length<2147483648∧n.ports.length<2147483648∧n.links.length<2147483648∧n.domains.length<2147483648∧n.statics.length<2147483648∧n.floods.length<2147483648∧n.vrfs.length<2147483648∧n.irbs.length<2147483648:=⟨hn.devices,hn.ports,hn.links,hn.domains,hn.statics,hn.floods,hn.vrfs,hn.irbs⟩
 have h2:(∀ p∈n.ports,p.tagged.length<2147483648)∧(∀ p∈n.domains,p.peers.length<2147483648)∧(∀ p∈n.floods,p.addrs.length<2147483648)∧(∀ p∈n.vrfs,p.imports.length<2147483648∧p.exports.length<2147483648):=⟨hn.tagged,hn.peers,hn.addrs,λ v hv=>⟨hn.imports v hv,hn.exports v hv⟩⟩
 conv=>whnf
 refine cD (Ajs n.devices h1.1) F136 ?_
 refine oD ?_
 refine Br (Ad [(0,14)] E F137 (Aey n.ports h1.2.1) E Y E ⟨.inr E,Y⟩) z_ E ?_
 refine oD ?_
 refine cD (Aqn n.links h1.2.2.1) F138 ?_
 refine oD ?_
 refine Br (Ad [(0,20)] E F139 (Ym n.domains h1.2.2.2.1) E Y E ⟨.inr E,Y⟩) z_ E ?_
 refine oD ?_
 refine cD (Ajp n.statics h1.2.2.2.2.1) F140 ?_
 refine oD ?_
 refine Br (Ad [(0,26)] E F141 (Aa5 n.floods h1.2.2.2.2.2.1) E Y E ⟨.inr E,Y⟩) z_ E ?_
 refine oD ?_
 refine Br (Ad [(0,29)] E F142 (Ahv n.vrfs h1.2.2.2.2.2.2.1) E Y E ⟨.inr E,Y⟩) z_ E ?_
 refine oD ?_
 refine cD (Auy n.irbs h1.2.2.2.2.2.2.2) F143 ?_
 refine oD ?_
 refine kW ?_
 refine A9 n.ports.length (λ j=>[(2,.ptr 2 0),(3,.ptr 3 0),(36,Aa n.ports.length),(37,Aa j)]) (λ _=>[(2,.box [.val (.slice none 0 0),.val (.slice none 0 0),.val (.slice none 0 0),.val (.slice none 0 0),.val (.slice none 0 0),.val (.slice none 0 0),.val (.slice none 0 0),.val (.slice none 0 0)]),(3,.box [.sl 5 Au n.devices,.osl 14,.sl 3 Bw n.links,.osl 20,.sl 4 Az n.statics,.osl 26,.osl 29,.sl 5 B3 n.irbs]),(14,.row 7 A3 n.ports),(20,.row 6 Ap n.domains),(26,.row 4 Be n.floods),(29,.row 5 Ca n.vrfs)]) []
  ⟨⟨rfl,rfl,rfl,rfl,rfl,rfl,rfl,rfl,trivial⟩,⟨.inl rfl,rfl,.inl rfl,rfl,.inl rfl,rfl,.inl rfl,rfl,.inl rfl,rfl,.inl rfl,rfl,trivial⟩,rfl,rfl⟩ ?_
 intro j hj
 refine oO ?_
 constructor<;>intro h
 ·have hlt:j<n.ports.length:=by simpa using h
  obtain ⟨p,hp⟩:∃ p,n.ports[(j:Int).toNat]'q_=p:=⟨_,rfl⟩
  have hne:n.ports≠[]:=λ e=>by rw[e]at hlt;cases hlt
  have hset:n.ports.set (j:Int).toNat p=n.ports:=by rw[← hp];exact wN _
  have hpl:=h2.1 p (by rw[← hp];exact zJ _)
  refine oO ?_
  refine⟨by omega,by show _<n.ports.length;omega,?_⟩
  conv=>whnf
  refine⟨hne,?_⟩
  conv=>whnf
  refine⟨E,by omega,?_⟩
  rw[hp]
  conv=>whnf
  refine cD (Ec p.tagged hpl) F144 ?_
  refine oD ?_
  refine⟨by omega,by show _<n.ports.length;omega,?_⟩
  conv=>whnf
  refine⟨hne,?_⟩
  conv=>whnf
  refine⟨E,by omega,p,(by rw[hp];rfl),(by rw[hp];rfl),?_⟩
  conv=>whnf
  refine kW ?_
  refine iW ?_
  exact A2 [] hlt ⟨⟨E,E,E,E,E,E,E,E,Y⟩,⟨.inl E,E,.inl E,E,.inl (zG (Ob.row 7 A3) hset.symm),E,.inl E,E,.inl E,E,.inl E,E,Y⟩,E,E⟩
 ·refine oO ?_
  refine A9 n.domains.length (λ j=>[(2,.ptr 2 0),(3,.ptr 3 0),(55,Aa n.domains.length),(56,Aa j)]) (λ _=>[(2,.box [.val (.slice none 0 0),.val (.slice none 0 0),.val (.slice none 0 0),.val (.slice none 0 0),.val (.slice none 0 0),.val (.slice none 0 0),.val (.slice none 0 0),.val (.slice none 0 0)]),(3,.box [.sl 5 Au n.devices,.osl 14,.sl 3 Bw n.links,.osl 20,.sl 4 Az n.statics,.osl 26,.osl 29,.sl 5 B3 n.irbs]),(14,.row 7 A3 n.ports),(20,.row 6 Ap n.domains),(26,.row 4 Be n.floods),(29,.row 5 Ca n.vrfs)]) []
   ⟨⟨rfl,rfl,rfl,rfl,rfl,rfl,rfl,rfl,trivial⟩,⟨.inl rfl,rfl,.inl rfl,rfl,.inl rfl,rfl,.inl rfl,rfl,.inl rfl,rfl,.inl rfl,rfl,trivial⟩,rfl,rfl⟩ ?_
  intro j hj
  refine oO ?_
  constructor<;>intro h
  ·have hlt:j<n.domains.length:=by simpa using h
   obtain ⟨p,hp⟩:∃ p,n.domains[(j:Int).toNat]'q_=p:=⟨_,rfl⟩
   have hne:n.domains≠[]:=λ e=>by rw[e]at hlt;cases hlt
   have hset:n.domains.set (j:Int).toNat p=n.domains:=by rw[← hp];exact wN _
   have hpl:=h2.2.1 p (by rw[← hp];exact zJ _)
   refine oO ?_
   refine⟨by omega,by show _<n.domains.length;omega,?_⟩
   conv=>whnf
   refine⟨hne,?_⟩
   conv=>whnf
   refine⟨E,by omega,?_⟩
   rw[hp]
   conv=>whnf
   refine cD (Ec p.peers hpl) F144 ?_
   refine oD ?_
   refine⟨by omega,by show _<n.domains.length;omega,?_⟩
   conv=>whnf
   refine⟨hne,?_⟩
   conv=>whnf
   refine⟨E,by omega,p,(by rw[hp];rfl),(by rw[hp];rfl),?_⟩
   conv=>whnf
   refine kW ?_
   refine iW ?_
   exact A2 [] hlt ⟨⟨E,E,E,E,E,E,E,E,Y⟩,⟨.inl E,E,.inl E,E,.inl E,E,.inl (zG (Ob.row 6 Ap) hset.symm),E,.inl E,E,.inl E,E,Y⟩,E,E⟩
  ·refine oO ?_
   refine A9 n.floods.length (λ j=>[(2,.ptr 2 0),(3,.ptr 3 0),(74,Aa n.floods.length),(75,Aa j)]) (λ _=>[(2,.box [.val (.slice none 0 0),.val (.slice none 0 0),.val (.slice none 0 0),.val (.slice none 0 0),.val (.slice none 0 0),.val (.slice none 0 0),.val (.slice none 0 0),.val (.slice none 0 0)]),(3,.box [.sl 5 Au n.devices,.osl 14,.sl 3 Bw n.links,.osl 20,.sl 4 Az n.statics,.osl 26,.osl 29,.sl 5 B3 n.irbs]),(14,.row 7 A3 n.ports),(20,.row 6 Ap n.domains),(26,.row 4 Be n.floods),(29,.row 5 Ca n.vrfs)]) []
    ⟨⟨rfl,rfl,rfl,rfl,rfl,rfl,rfl,rfl,trivial⟩,⟨.inl rfl,rfl,.inl rfl,rfl,.inl rfl,rfl,.inl rfl,rfl,.inl rfl,rfl,.inl rfl,rfl,trivial⟩,rfl,rfl⟩ ?_
   intro j hj
   refine oO ?_
   constructor<;>intro h
   ·have hlt:j<n.floods.length:=by simpa using h
    obtain ⟨p,hp⟩:∃ p,n.floods[(j:Int).toNat]'q_=p:=⟨_,rfl⟩
    have hne:n.floods≠[]:=λ e=>by rw[e]at hlt;cases hlt
    have hset:n.floods.set (j:Int).toNat p=n.floods:=by rw[← hp];exact wN _
    have hpl:=h2.2.2.1 p (by rw[← hp];exact zJ _)
    refine oO ?_
    refine⟨by omega,by show _<n.floods.length;omega,?_⟩
    conv=>whnf
    refine⟨hne,?_⟩
    conv=>whnf
    refine⟨E,by omega,?_⟩
    rw[hp]
    conv=>whnf
    refine cD (Zx p.addrs hpl) F145 ?_
    refine oD ?_
    refine⟨by omega,by show _<n.floods.length;omega,?_⟩
    conv=>whnf
    refine⟨hne,?_⟩
    conv=>whnf
    refine⟨E,by omega,p,(by rw[hp];rfl),(by rw[hp];rfl),?_⟩
    conv=>whnf
    refine kW ?_
    refine iW ?_
    exact A2 [] hlt ⟨⟨E,E,E,E,E,E,E,E,Y⟩,⟨.inl E,E,.inl E,E,.inl E,E,.inl E,E,.inl (zG (Ob.row 4 Be) hset.symm),E,.inl E,E,Y⟩,E,E⟩
   ·refine oO ?_
    refine A9 n.vrfs.length (λ j=>[(2,.ptr 2 0),(3,.ptr 3 0),(93,Aa n.vrfs.length),(94,Aa j)]) (λ _=>[(2,.box [.val (.slice none 0 0),.val (.slice none 0 0),.val (.slice none 0 0),.val (.slice none 0 0),.val (.slice none 0 0),.val (.slice none 0 0),.val (.slice none 0 0),.val (.slice none 0 0)]),(3,.box [.sl 5 Au n.devices,.osl 14,.sl 3 Bw n.links,.osl 20,.sl 4 Az n.statics,.osl 26,.osl 29,.sl 5 B3 n.irbs]),(14,.row 7 A3 n.ports),(20,.row 6 Ap n.domains),(26,.row 4 Be n.floods),(29,.row 5 Ca n.vrfs)]) []
     ⟨⟨rfl,rfl,rfl,rfl,rfl,rfl,rfl,rfl,trivial⟩,⟨.inl rfl,rfl,.inl rfl,rfl,.inl rfl,rfl,.inl rfl,rfl,.inl rfl,rfl,.inl rfl,rfl,trivial⟩,rfl,rfl⟩ ?_
    intro j hj
    refine oO ?_
    constructor<;>intro h
    ·have hlt:j<n.vrfs.length:=by simpa using h
     obtain ⟨p,hp⟩:∃ p,n.vrfs[(j:Int).toNat]'q_=p:=⟨_,rfl⟩
     have hne:n.vrfs≠[]:=λ e=>by rw[e]at hlt;cases hlt
     have hset:n.vrfs.set (j:Int).toNat p=n.vrfs:=by rw[← hp];exact wN _
     have hpl:=h2.2.2.2 p (by rw[← hp];exact zJ _)
     refine oO ?_
     have hne2:n.vrfs.set (j:Int).toNat p≠[]:=by rw[hset];exact hne
     have hp2:(n.vrfs.set (j:Int).toNat p)[(j:Int).toNat]'(by rw[hset];omega)=p:=by simp
     have hset2:(n.vrfs.set (j:Int).toNat p).set (j:Int).toNat p=n.vrfs:=by rw[hset,hset]
     refine⟨by omega,by show _<n.vrfs.length;omega,?_⟩
     conv=>whnf
     refine Br (Cv E (.inr (.inr (.inr ⟨29,5,_,0,E,λ κ w h=>Iz hne h,E⟩)))) z_ E ?_
     refine oD ?_
     refine⟨hne,?_⟩
     conv=>whnf
     refine⟨E,by omega,?_⟩
     rw[hp]
     conv=>whnf
     refine cD (Ec p.imports hpl.1) F144 ?_
     refine oD ?_
     refine Br (Cv E (.inr (.inr (.inr ⟨29,5,_,0,E,λ κ w h=>Iz hne h,E⟩)))) z_ E ?_
     refine oD ?_
     refine⟨hne,?_⟩
     conv=>whnf
     refine⟨E,by omega,?_⟩
     rw[hp]
     conv=>whnf
     refine cD (Ec p.exports hpl.2) F144 ?_
     refine oD ?_
     refine Br (Cv E (.inr (.inr (.inr ⟨29,5,_,0,E,λ κ w h=>Iz hne h,E⟩)))) z_ E ?_
     refine oD ?_
     refine⟨hne,?_⟩
     conv=>whnf
     refine⟨E,by omega,p,(by rw[hp];rfl),(by rw[hp];rfl),?_⟩
     conv=>whnf
     refine Br (Cv E (.inr (.inr (.inr ⟨29,5,_,0,E,λ κ w h=>Iz hne2 h,E⟩)))) z_ E ?_
     refine oD ?_
     refine⟨hne2,?_⟩
     conv=>whnf
     refine⟨E,by rw[hset];omega,p,(by rw[hp2];rfl),(by rw[hp2];rfl),?_⟩
     conv=>whnf
     refine kW ?_
     refine iW ?_
     exact A2 [] hlt ⟨⟨E,E,E,E,E,E,E,E,Y⟩,⟨.inl E,E,.inl E,E,.inl E,E,.inl E,E,.inl E,E,.inl (zG (Ob.row 5 Ca) hset2.symm),E,Y⟩,E,E⟩
    ·refine oO ?_
     refine Ag 14 E ?_
     refine Ag 20 E ?_
     refine Ag 26 E ?_
     refine Ag 29 E ?_
     exact dN
theorem Qo (l:List UInt8) (hl:l.length<2147483648):Sp 270 [.sl 1 Ah l] (.sl 1 Ah l):=cT F270 Tryz.ntmps270 λ F hF=>by
 conv=>whnf
 refine Ds E (.inl E) E E E .sl E E ?_
 intro b hb
 cases b
 ·refine oF ?_
  refine Af (Ae Γ.toTy 7 E E E E E (.lit (e:=Ah) (l:=[]) E E) .sl y_ (by simp;omega) (by simp;omega)) E E ?_
  refine Ag 7 E ?_
  refine oO ?_
  exact dN
 ·have h0:l=[]:=zU (hb rfl)
  subst h0
  refine oT ?_
  refine Am 2 1 Ah E ?_
  exact dN
theorem cut6 (b:List UInt8) (k j:Nat) (hj:j<6) (h:k+6≤b.length):Kz (((b.drop k).take 6).take (j+1))=Kz (((b.drop k).take 6).take j) * 256+(b[k+j]'q_).toNat:=by
 rw[Asl _ (by rw[zX,yM];omega)]
 congr 2
 rw[xS,vC]
theorem Alv (b:List UInt8) (k:Nat) (h:k+6≤b.length) (hb:b.length<100000):Sp 159 [.sl 1 Ah b,Aa k] (.tup [Bf (Kz ((b.drop k).take 6)),Ab true]):=cT F159 Tryz.ntmps159 λ F hF=>by
 ((conv=>whnf);refine aF ?_;refine rg ?_;conv=>whnf)
 refine iW ?_
 (refine⟨λ h=>False.elim (by simp at h;omega),λ _=>?_⟩;refine rg ?_;conv=>whnf)
 refine A9 6 (λ j=>[(0,.sl 1 Ah b),(1,Aa k),(6,Bf (Kz (((b.drop k).take 6).take j))),(17,Aa j)]) (λ _=>[]) [] ⟨⟨E,E,E,E,E,E,E,E,Y⟩,Y,E,E⟩ ?_
 intro j hj
 have hlt2:=Ou _ (((b.drop k).take 6).take j) rfl
 refine oO ?_
 constructor<;>intro h2
 ·have hj6:j<6:=by have:=zK h2;omega
  have hs:=cut6 b k j hj6 h
  have hll:(((b.drop k).take 6).take j).length=j:=by rw[zX,zX,yM];omega
  rw[hll]at hlt2
  have h5:Kz (((b.drop k).take 6).take j)<1099511627776:=yS hlt2 (by
   have:(256:Nat) ^ j≤256 ^ 5:=wS j_ q_
   exact this)
  have hi0:((k:Int)+(j:Int)).toNat<b.length:=by omega
  obtain ⟨c,hc⟩:∃ c,b[((k:Int)+(j:Int)).toNat]'hi0=c:=⟨_,rfl⟩
  have hc':b[k+j]'q_=c:=by rw[← hc];congr 1
  rw[hc']at hs
  have hcat:=Azt _ c h5
  refine oO ?_
  refine⟨by decide,?_⟩
  conv=>whnf
  refine iW ?_
  refine⟨E,by omega,hi0,?_⟩
  rw[hc]
  conv=>whnf
  refine iW ?_
  exact A2 [] hj6 ⟨⟨E,E,E,E,zG (λ z:Int=>SV.val (.int .u64 z)) (hcat.trans (zG Int.ofNat hs.symm)).symm,E,E,E,Y⟩,Y,E,E⟩
 ·have hj6:j=6:=by have:=zT h2;omega
  subst hj6
  rw[List.take_take,Nat.min_self]
  refine oO ?_
  exact dN
theorem Aq1 (a b:UInt8):Kz [a,b]=a.toNat * 256+b.toNat:=by simp[Kz]
theorem Wt {b:List UInt8} {k:Nat} (h:k+2≤b.length):(b.drop k).take 2=[b[k]'q_,b[k+1]'q_]:=by
 rw[yJ (by omega:k<b.length),yJ (by omega:k+1<b.length)];rfl
theorem Qj (b:List UInt8) (hb:b.length<100000):Sp 88 [.sl 1 Ah b] (.tup [Cy (takeF b).1,Aa (takeF b).2]):=cT F88 Tryz.ntmps88 λ F hF=>by
 have hres:=takeF.eq_1 b
 generalize takeF b=res at *
 conv=>whnf
 constructor<;>intro h
 ·rw[zE (qA h)]at hres
  subst hres
  refine oO ?_
  refine Ai 2 [Bf 0,Bf 0,Aa 0,.sl 1 Ah []] E vL ?_
  exact dN
 rw[zD (qB h)]at hres
 have h14:14≤b.length:=qB h
 refine oO ?_
 constructor<;>intro h
 ·rw[zE (qA h)]at hres
  subst hres
  refine oO ?_
  refine Ai 2 [Bf 0,Bf 0,Aa 0,.sl 1 Ah []] E vL ?_
  exact dN
 rw[zD (qB h)]at hres
 have q1:=Alv b 0 q_ hb
 have q2:=Alv b 6 q_ hb
 rw[Wt q_,Aq1]at hres
 have hp:=H4 (b[12]'q_) (b[13]'q_)
 have hdl:(b.drop 14).length=b.length-14:=yM
 have hn:((b.length:Int)-14)=((b.length-14:Nat):Int):=by omega
 have hcp:(b.drop 14).take (List.replicate (b.length-14) (0:UInt8)).length++(List.replicate (b.length-14) (0:UInt8)).drop (b.drop 14).length=b.drop 14:=by
  have e1:(List.replicate (b.length-14) (0:UInt8)).drop (b.length-14)=[]:=wY y_
  rw[wW,hdl,e1,xK]
  exact xC q_
 have etk:(b.take b.length).drop 14=b.drop 14:=by rw[yG]
 have i12:(12:Int).toNat<b.length:=by show 12<_;omega
 have i13:(13:Int).toNat<b.length:=by show 13<_;omega
 refine oO ?_
 refine c0 q1 F159 ?_
 refine oO ?_
 refine c0 q2 F159 ?_
 refine oO ?_
 refine iW ?_
 refine Af (Bv Γ.toTy (d:=32) (n:=b.length-14) Ah 0 E E E E E E (zG (λ z=>SV.val (.int .i64 z)) hn) (zG (λ z=>SV.val (.int .i64 z)) hn) q_ q_ E E E) E E ?_
 refine oO ?_
 refine Af (Dc (lo:=14) (hi:=b.length) Γ.toTy E E E E (.inr ⟨_,_,E,E⟩) (.inl ⟨E,E⟩) q_ (yC _)) E E ?_
 rw[etk]
 refine oO ?_
 refine Af (Ua Γ.toTy E E E E E .sl) E E ?_
 rw[hcp]
 refine Ag 32 E ?_
 refine oO ?_
 refine⟨E,by decide,i12,?_⟩
 conv=>whnf
 refine⟨by decide,?_⟩
 conv=>whnf
 refine⟨E,by decide,i13,?_⟩
 conv=>whnf
 refine kW ?_
 refine Aq E (.cons (.cell E E E E) (.cons .tmp .nil)) ?_ E
 rw[hres]
 show SV.tup [.agg [_,_,Aa ((b[12].toNat * 256+b[13].toNat:Nat):Int),_],_]=_
 rw[← hp]
 rfl
theorem Lo (m:Nat) (h:m<18446744073709551616):Sp 195 [Bf m] (Ab (Iu m)):=cT F195 Tryz.ntmps195 λ F hF=>by
 have e:=Ahe m h
 refine fW ?_
 refine Aq E (.cons .tmp .nil) ?_ E
 exact zG Ab e.symm
theorem Tz (f:FrameM):Sp 160 [Cy f] (Ab (decide (f.typ=33024))):=cT F160 Tryz.ntmps160 λ F hF=>by
 conv=>whnf
 refine Aq E (.cons .tmp .nil) ?_ E
 refine zG Ab ?_
 rw[wA];simp;omega
theorem Qk (p:Port) (tg:Bool) (vid:Int) (hl:Ak p.tagged):Sp 196 [A3 p,Ab tg,Aa vid] (.tup [Aa (vlanT p tg vid).1,Ab (vlanT p tg vid).2]):=cT F196 Tryz.ntmps196 λ F hF=>by
 have hres:=vlanT.eq_1 p tg vid
 generalize vlanT p tg vid=res at *
 have q:=Do p.tagged vid hl
 have hz:decide (p.native≠0)=(p.native != 0):=by rw[wA];simp
 rw[hz]at hres
 cases tg
 ·rw[zE (.inl rfl)]at hres
  subst hres
  ((conv=>whnf);refine aT ?_;refine rg ?_;conv=>whnf)
  refine kW ?_
  exact dN
 ((conv=>whnf);refine aF ?_;refine rg ?_;conv=>whnf)
 constructor<;>intro h
 ·rw[zE (.inr (by simpa using h))]at hres
  subst hres
  refine oO ?_
  refine kW ?_
  exact dN
 rw[zD (by simpa using h)]at hres
 refine oO ?_
 refine c0 q F73 ?_
 cases hi:inB p.tagged vid
 ·rw[zD (by simp[hi])]at hres
  subst hres
  refine oF ?_
  exact dN
 ·rw[zE hi]at hres
  subst hres
  refine oT ?_
  exact dN
theorem Ay6 (n:Nat) (h:n<9223372036854775808):bits .and .i64 (n:Int) 4095=((n % 4096:Nat):Int):=by
 have:=Jz n 4095 h j_
 rw[show ((4095:Nat):Int)=4095 from rfl]at this
 rw[this]
 have h2:=vW n 12
 rw[show 2 ^ 12-1=4095 from rfl,show 2 ^ 12=4096 from rfl]at h2
 rw[h2]
theorem Ay2 {b:List UInt8} (h:4≤b.length):b.take 2=[b[0]'q_,b[1]'q_]∧(b.drop 2).take 2=[b[2]'q_,b[3]'q_]:=by
 have h1:=Wt (b:=b) (k:=0) q_
 have h2:=Wt (b:=b) (k:=2) q_
 exact⟨h1,h2⟩
abbrev zF:List SV:=[Bf 0,Bf 0,Aa 0,.sl 1 Ah []]
theorem Asr (f:FrameM) (hb:f.body.length<100000):Sp 194 [Cy f] (.tup [Cy (stripT f).1,Aa (stripT f).2.1,Aa (stripT f).2.2.1,Aa (stripT f).2.2.2]):=cT F194 Tryz.ntmps194 λ F hF=>by
 have hres:=stripT.eq_1 f
 generalize stripT f=res at *
 have q0:=Tz f
 obtain ⟨d,s,t,b⟩:=f
 dsimp only at hres hb q0
 conv=>whnf
 refine c0 q0 F160 ?_
 by_cases ht:t=33024
 rotate_left
 ·rw[zE ht]at hres
  subst hres
  rw[zI ht]
  refine oT ?_
  refine Ai 2 zF E vL ?_
  exact dN
 rw[zD (by simpa using ht)]at hres
 rw[zR ht]
 refine oF ?_
 constructor<;>intro h
 ·rw[zE (by have:=zK h;dsimp only at this;omega)]at hres
  subst hres
  refine oO ?_
  refine Ai 2 zF E vL ?_
  exact dN
 have h4:4≤b.length:=by have:=zT h;dsimp only at this;omega
 rw[zD q_,(Ay2 h4).1,(Ay2 h4).2,Aq1,Aq1]at hres
 have c1:=Qo (b.drop 4) (by rw[yM];omega)
 have etk:(b.take b.length).drop 4=b.drop 4:=by rw[yG]
 rw[← etk]at c1
 have i0:(0:Int).toNat<b.length:=by show 0<_;omega
 have i1:(1:Int).toNat<b.length:=by show 1<_;omega
 have i2:(2:Int).toNat<b.length:=by show 2<_;omega
 have i3:(3:Int).toNat<b.length:=by show 3<_;omega
 have e0:b[(0:Int).toNat]'i0=b[0]'q_:=rfl
 have e1:b[(1:Int).toNat]'i1=b[1]'q_:=rfl
 have e2:b[(2:Int).toNat]'i2=b[2]'q_:=rfl
 have e3:b[(3:Int).toNat]'i3=b[3]'q_:=rfl
 have hp1:=H4 (b[0]'q_) (b[1]'q_)
 have hp2:=H4 (b[2]'q_) (b[3]'q_)
 have l0:=(b[0]'q_).toNat_lt
 have l1:=(b[1]'q_).toNat_lt
 obtain ⟨P,hP⟩:∃ P,(b[0]'q_).toNat * 256+(b[1]'q_).toNat=P:=⟨_,rfl⟩
 obtain ⟨Q,hQ⟩:∃ Q,(b[2]'q_).toNat * 256+(b[3]'q_).toNat=Q:=⟨_,rfl⟩
 have hPl:P<65536:=by omega
 rw[hP]at hp1 hres
 rw[hQ]at hp2 hres
 have ha:=Ay6 P q_
 have hs:(P:Int).fdiv (2 ^ (min (Int.toNat 12) IntKind.i64.bits))=((P / 4096:Nat):Int):=Ara P 12 j_
 refine oO ?_
 refine⟨E,by decide,i0,?_⟩
 rw[e0]
 conv=>whnf
 refine⟨by decide,?_⟩
 conv=>whnf
 refine⟨E,by decide,i1,?_⟩
 rw[e1]
 conv=>whnf
 refine⟨z_,?_⟩
 rw[hp1]
 conv=>whnf
 refine⟨E,by decide,i2,?_⟩
 rw[e2]
 conv=>whnf
 refine⟨by decide,?_⟩
 conv=>whnf
 refine⟨E,by decide,i3,?_⟩
 rw[e3]
 conv=>whnf
 refine⟨z_,?_⟩
 rw[hp2]
 conv=>whnf
 refine⟨by decide,?_⟩
 rw[ha,hs]
 conv=>whnf
 constructor<;>intro h
 ·rw[zE (.inl (qA h))]at hres
  subst hres
  refine oO ?_
  refine Ai 2 zF E vL ?_
  exact dN
 have h5:¬ 4094<P % 4096:=qB h
 refine oO ?_
 constructor<;>intro h
 ·rw[zE (.inr (by have:(Q:Int)=33024:=(by simpa using h);omega))]at hres
  subst hres
  refine oO ?_
  refine Ai 2 zF E vL ?_
  exact dN
 have h6:¬ Q=33024:=λ e=>by rw[e]at h;simp at h
 rw[zD q_]at hres
 subst hres
 refine oO ?_
 refine Br (Dc (lo:=4) (hi:=b.length) Γ.toTy E E E E (.inr ⟨_,_,E,E⟩) (.inl ⟨E,E⟩) h4 (yC _)) z_ E ?_
 refine oD ?_
 refine cD c1 F270 ?_
 refine oD ?_
 refine kW ?_
 refine Aq E (.cons (.cell E E E E) (.cons .tmp (.cons .tmp (.cons .tmp .nil)))) ?_ E
 show SV.tup [.agg [_,_,_,.sl 1 Ah (b.drop 4)],_,_,_]=SV.tup [.agg [_,_,_,.sl 1 Ah ((b.take b.length).drop 4)],_,_,_]
 rw[etk]
 rfl
theorem K8 (f:FrameM) (h:FrameOK f):Sq 90 [Cy f] [] (.tup [.osl 0,Aa 0]) [(0,.row 1 Ah (Xc f))]:=Amo f.dst f.src f.typ f.body h.dst h.src h.typ h.body
theorem Akm (f:FrameM) (v:Nat) (h:FrameOK f) (hv:v≤4094):Sp 89 [Cy f,Aa v,Aa 0] (.tup [Cy (tagT f v).1,Aa (tagT f v).2]):=by
 have hres:=tagT.eq_1 f v
 have q0:=Tz f
 obtain ⟨d,s,t,b⟩:=f
 have h1:=h.typ
 have h2:=h.body
 dsimp only at hres q0 h1 h2
 by_cases ht:t=33024
 ·rw[zE ht]at hres
  rw[hres]
  rw[zR ht]at q0
  refine Oj Γ hm 100 F89 Tryz.ntmps89 E λ F hF=>by
   conv=>whnf
   refine c0 q0 F160 ?_
   (refine oT ?_;refine bT ?_;refine bT ?_;refine bT ?_;refine bT ?_)
   refine Ai 6 zF E vL ?_
   exact dN
 rw[zD ht]at hres
 by_cases hb:1500<b.length
 ·rw[zE hb]at hres
  rw[hres]
  rw[zI ht]at q0
  refine Oj Γ hm 100 F89 Tryz.ntmps89 E λ F hF=>by
   conv=>whnf
   refine c0 q0 F160 ?_
   (refine oF ?_;refine bF ?_)
   (refine⟨λ h=>False.elim (by simp at h;omega),λ _=>?_⟩;refine rg ?_;(conv=>whnf);refine aF ?_;refine rg ?_;(conv=>whnf);refine aF ?_;refine rg ?_;(conv=>whnf);refine aF ?_;refine rg ?_;(conv=>whnf);refine⟨λ h=>False.elim (by simp at h;omega),λ _=>?_⟩;refine rg ?_;(conv=>whnf);refine⟨λ _=>?_,λ h=>False.elim (by simp at h;omega)⟩;refine rg ?_;conv=>whnf)
   refine Ai 6 zF E vL ?_
   exact dN
 rw[zD hb]at hres
 rw[hres]
 exact Azy d s t v b ht h1 hv q_
theorem Asq {b:List UInt8} (h:(takeF b).2≠0):(takeF b).1=noF:=by
 unfold takeF at h ⊢
 split
 ·rfl
 rw[zD (by assumption)]at h
 split
 ·rfl
 rw[zD (by assumption)]at h
 exact yB E h
theorem Acm {b:List UInt8} (h:(takeF b).2=0):FrameOK (takeF b).1:=by
 unfold takeF at h ⊢
 split
 ·rw[zE (by assumption)]at h;cases h
 rw[zD (by assumption)]at h
 split
 ·rw[zE (by assumption)]at h;cases h
 rename_i h1 h2
 have l1:((b.take 6).length)=6:=by rw[zX];omega
 have l2:(((b.drop 6).take 6).length)=6:=by rw[zX,yM];omega
 have l3:(((b.drop 12).take 2).length)=2:=by rw[zX,yM];omega
 have a1:=Ou _ _ l1
 have a2:=Ou _ _ l2
 have a3:=Ou _ _ l3
 refine⟨a1,a2,?_,?_⟩
 ·dsimp only;exact Nat.le_of_lt_succ a3
 ·dsimp only;rw[yM];omega
theorem Av3 {f:FrameM} (hf:FrameOK f) (h:(stripT f).2.2.2=0):FrameOK (stripT f).1:=by
 unfold stripT at h ⊢
 split
 ·rw[zE (by assumption)]at h;cases h
 rw[zD (by assumption)]at h
 split
 ·rw[zE (by assumption)]at h;cases h
 rw[zD (by assumption)]at h
 split
 ·rw[zE (by assumption)]at h;cases h
 rename_i h1 h2 h3
 have l3:(((f.body.drop 2).take 2).length)=2:=by rw[zX,yM];omega
 have a3:=Ou _ _ l3
 have hb:=hf.body
 refine⟨hf.dst,hf.src,?_,?_⟩
 ·dsimp only;exact Nat.le_of_lt_succ a3
 ·dsimp only;rw[yM];omega
theorem strip_bad {f:FrameM} (h:(stripT f).2.2.2≠0):(stripT f).1=noF∧(stripT f).2.1=0:=by
 unfold stripT at h ⊢
 split
 ·exact⟨E,E⟩
 rw[zD (by assumption)]at h
 split
 ·exact⟨E,E⟩
 rw[zD (by assumption)]at h
 split
 ·exact⟨E,E⟩
 rw[zD (by assumption)]at h
 exact yB E h
theorem Amp (n:Net) (hn:n.Fin) (port:Int) (b:List UInt8) (hb:b.length<100000) :
  Sp 146 [Al n,Aa port,.sl 1 Ah b] (.tup [Aa (enterT n port b).1,Cy (enterT n port b).2.1,Aa (enterT n port b).2.2]):=cT F146 Tryz.ntmps146 λ F hF=>by
 have hres:=enterT.eq_1 n port b
 generalize enterT n port b=res at *
 have hr:=Ax n hn
 refine fW ?_
 by_cases hneg:port<0
 ·rw[zE (.inl (by rw[An,zI q_];rfl))]at hres
  subst hres
  (repeat (first | (refine⟨λ h=>False.elim (by first | (exact yB h j_) | (simp at h;done) | (simp at h;omega)),λ _=>?_⟩;(refine fU ?_)) | (refine⟨λ _=>?_,λ h=>False.elim (by first | (exact yB h j_) | (simp at h;done) | (simp at h;omega))⟩;(refine fU ?_))))
  refine Ai 7 zF E vL ?_
  exact dN
 refine⟨λ h=>yB (zK h) hneg,λ _=>?_⟩
 refine A7 3 8 (Al n) E E E ?_
 by_cases hge:(n.ports.length:Int)≤port
 ·rw[zE (.inl (by rw[An,zI (by omega:¬ port<_),wL]))]at hres
  subst hres
  refine fU ?_
  (repeat (first | (refine⟨λ h=>False.elim (by first | (exact yB h j_) | (simp at h;done) | (simp at h;omega)),λ _=>?_⟩;(refine fU ?_)) | (refine⟨λ _=>?_,λ h=>False.elim (by first | (exact yB h j_) | (simp at h;done) | (simp at h;omega))⟩;(refine fU ?_))))
  refine Ai 7 zF E vL ?_
  exact dN
 have hpl:An port n.ports.length=true:=by rw[An,zR q_,zR q_];rfl
 refine fU ?_
 (refine⟨λ h=>False.elim (by first | (exact yB h j_) | (simp at h;done) | (simp at h;omega)),λ _=>?_⟩;(refine fU ?_))
 refine c0 hr F24 ?_
 cases hbn:Ac n
 ·rw[zE (.inr hbn)]at hres
  subst hres
  refine fU ?_
  refine Ai 7 zF E vL ?_
  exact dN
 rw[zD (by simp[hbn,hpl])]at hres
 have hp0:0≤port:=by omega
 have hk:port.toNat<n.ports.length:=by omega
 have e1:nth n.ports port=n.ports[port.toNat]:=Aj hk
 have hsh:=hn.tagged _ (zJ hk)
 obtain ⟨p,hp⟩:∃ p,n.ports[port.toNat]'hk=p:=⟨_,rfl⟩
 rw[hp]at e1 hsh
 have qt:=Qj b hb
 have hto:=@Acm b
 have htb:=@Asq b
 generalize takeF b=tf at *
 obtain ⟨f,e⟩:=tf
 dsimp only at hres qt hto htb
 have qi:=Tz f
 refine fU ?_
 refine c0 qt F88 ?_
 refine fU ?_
 refine c0 qi F160 ?_
 by_cases he:e=0
 rotate_left
 ·rw[zE he]at hres
  subst hres
  obtain rfl:=htb he
  refine fU ?_
  (refine⟨λ h=>False.elim (by first | (exact yB h j_) | (simp at h;done) | (simp at h;omega)),λ _=>?_⟩;(refine fU ?_))
  (refine⟨λ h=>False.elim (by first | (exact yB h j_) | (simp at h;done) | (simp at h;omega)),λ _=>?_⟩;(refine fU ?_))
  refine⟨E,hp0,hk,?_⟩
  rw[hp]
  refine fW ?_
  refine c0 (Qk p false 0 hsh) F196 ?_
  refine fU ?_
  (repeat (first | (refine⟨λ h=>False.elim (by first | (exact yB h j_) | (simp at h;done) | (simp at h;omega)),λ _=>?_⟩;(refine fU ?_)) | (refine⟨λ _=>?_,λ h=>False.elim (by first | (exact yB h j_) | (simp at h;done) | (simp at h;omega))⟩;(refine fU ?_))))
  refine Ai 7 zF E vL ?_
  exact dN
 subst he
 rw[zD j_]at hres
 have hfo:=hto rfl
 by_cases ht:f.typ=33024
 ·rw[zE ht]at hres
  rw[zR ht]
  have qs:=Asr f (by have:=hfo.body;omega)
  have hso:=@Av3 f hfo
  have hsb:=@strip_bad f
  generalize stripT f=st at *
  obtain ⟨g,vid,prio,e2⟩:=st
  dsimp only at hres qs hso hsb
  refine fU ?_
  refine c0 qs F194 ?_
  by_cases he2:e2=0
  rotate_left
  ·rw[zE he2]at hres
   subst hres
   obtain ⟨rfl,rfl⟩:=hsb he2
   refine fU ?_
   (refine⟨λ h=>False.elim (by first | (exact yB h j_) | (simp at h;done) | (simp at h;omega)),λ _=>?_⟩;(refine fU ?_))
   refine⟨E,hp0,hk,?_⟩
   rw[hp]
   refine fW ?_
   refine c0 (Qk p true 0 hsh) F196 ?_
   refine fU ?_
   (repeat (first | (refine⟨λ h=>False.elim (by first | (exact yB h j_) | (simp at h;done) | (simp at h;omega)),λ _=>?_⟩;(refine fU ?_)) | (refine⟨λ _=>?_,λ h=>False.elim (by first | (exact yB h j_) | (simp at h;done) | (simp at h;omega))⟩;(refine fU ?_))))
   refine Ai 7 zF E vL ?_
   exact dN
  subst he2
  rw[zD j_]at hres
  have hgo:=hso rfl
  have hgs:=hgo.src
  have qg:=Lo g.src q_
  rw[Lx,e1]at hres
  have qv:=Qk p true vid hsh
  have qd:=Jc n hn p.dev (vlanT p true vid).1
  refine fU ?_
  refine c0 qg F195 ?_
  cases hgb:Iu g.src
  rotate_left
  ·rw[zE hgb]at hres
   subst hres
   refine fU ?_
   refine⟨E,hp0,hk,?_⟩
   rw[hp]
   refine fW ?_
   refine c0 qv F196 ?_
   refine fU ?_
   (repeat (first | (refine⟨λ h=>False.elim (by first | (exact yB h j_) | (simp at h;done) | (simp at h;omega)),λ _=>?_⟩;(refine fU ?_)) | (refine⟨λ _=>?_,λ h=>False.elim (by first | (exact yB h j_) | (simp at h;done) | (simp at h;omega))⟩;(refine fU ?_))))
   refine Ai 7 zF E vL ?_
   exact dN
  rw[zD (by simp[hgb])]at hres
  refine fU ?_
  refine⟨E,hp0,hk,?_⟩
  rw[hp]
  refine fW ?_
  refine c0 qv F196 ?_
  generalize vlanT p true vid=vl at *
  obtain ⟨vl,vok⟩:=vl
  dsimp only at hres qd ⊢
  cases vok
  ·rw[zE rfl]at hres
   subst hres
   refine fU ?_
   refine Ai 7 zF E vL ?_
   exact dN
  rw[zD y_]at hres
  subst hres
  refine fU ?_
  refine cD qd F129 ?_
  refine fU ?_
  refine⟨z_,?_⟩
  refine fW ?_
  exact dN
 ·rw[zD ht]at hres
  rw[zI ht]
  have hgo:=hfo
  have hgs:=hgo.src
  have qg:=Lo f.src q_
  rw[Lx,e1]at hres
  have qv:=Qk p false 0 hsh
  have qd:=Jc n hn p.dev (vlanT p false 0).1
  refine fU ?_
  refine c0 qg F195 ?_
  cases hgb:Iu f.src
  rotate_left
  ·rw[zE hgb]at hres
   subst hres
   refine fU ?_
   refine⟨E,hp0,hk,?_⟩
   rw[hp]
   refine fW ?_
   refine c0 qv F196 ?_
   refine fU ?_
   (repeat (first | (refine⟨λ h=>False.elim (by first | (exact yB h j_) | (simp at h;done) | (simp at h;omega)),λ _=>?_⟩;(refine fU ?_)) | (refine⟨λ _=>?_,λ h=>False.elim (by first | (exact yB h j_) | (simp at h;done) | (simp at h;omega))⟩;(refine fU ?_))))
   refine Ai 7 zF E vL ?_
   exact dN
  rw[zD (by simp[hgb])]at hres
  refine fU ?_
  refine⟨E,hp0,hk,?_⟩
  rw[hp]
  refine fW ?_
  refine c0 qv F196 ?_
  generalize vlanT p false 0=vl at *
  obtain ⟨vl,vok⟩:=vl
  dsimp only at hres qd ⊢
  cases vok
  ·rw[zE rfl]at hres
   subst hres
   refine fU ?_
   refine Ai 7 zF E vL ?_
   exact dN
  rw[zD y_]at hres
  subst hres
  refine fU ?_
  refine cD qd F129 ?_
  refine fU ?_
  refine⟨z_,?_⟩
  refine fW ?_
  exact dN
theorem Cn {i:Int} {n:Nat} (h:An i n=true):0≤i∧i<n:=by simpa [An] using h
theorem Md (i:Int) (n:Nat):Sp 281 [Aa i,Aa n] (Ab (An i n)):=cT F281 Tryz.ntmps281 λ F hF=>by
 conv=>whnf
 (repeat' (first | (refine⟨λ h=>?_,λ h=>?_⟩<;>(repeat (first | simp only[zQ]at h | simp only[zY]at h))<;>((refine oO ?_))) | (refine Aq rfl (.cons .tmp .nil) ?_ rfl)))
 all_goals (refine zG Ab ?_)
 all_goals grind [An]
theorem Apr (n:Net) (f:FrameM) (h:FrameOK f) (v:Int):Sp 283 [Al n,Cy f,Aa v] (.tup [.sl 1 Ah (Xc f),Aa 0]):=cT F283 Tryz.ntmps283 λ F hF=>by
 conv=>whnf
 refine Af (Ad [(0,55)] E F90 (K8 f h) E Y E ⟨.inr E,Y⟩) E E ?_
 refine Ag 55 E ?_
 refine oO ?_
 exact dN
theorem Av0 {f:FrameM} (hf:FrameOK f) (v:Nat) (_hv:v≤4094) (h:(tagT f v).2=0):FrameOK (tagT f v).1:=by
 unfold tagT at h ⊢
 split
 ·rw[zE (by assumption)]at h;cases h
 rw[zD (by assumption)]at h
 split
 ·rw[zE (by assumption)]at h;cases h
 refine⟨hf.dst,hf.src,?_,?_⟩
 ·show (33024:Nat)≤65535;decide
 ·dsimp only;simp;omega
theorem Ai6 (n:Net) (f:FrameM) (h:FrameOK f) (v:Nat) (hv:v≤4094) :
  Sp 282 [Al n,Cy f,Aa v] (.tup [.sl 1 Ah (if (tagT f v).2≠0 then [] else Xc (tagT f v).1),Aa (if (tagT f v).2≠0 then (tagT f v).2 else 0)]):=by
 have q:=Akm f v h hv
 have ho:=Av0 h v hv
 generalize tagT f v=t at *
 obtain ⟨g,e⟩:=t
 dsimp only at q ho ⊢
 refine Oj Γ hm 100 F282 Tryz.ntmps282 E λ F hF=>by
  conv=>whnf
  refine c0 q F89 ?_
  refine oO ?_
  by_cases he:e=0
  ·subst he
   (refine⟨λ h=>False.elim (yB h j_),λ _=>?_⟩;refine rg ?_;conv=>whnf)
   refine A7 8 4 (Cy g) E E E ?_
   refine oO ?_
   refine Af (Ad [(0,55)] E F90 (K8 g (ho E)) E Y E ⟨.inr E,Y⟩) E E ?_
   refine Ag 55 E ?_
   refine oO ?_
   exact dN
  ·rw[zE he,zE he]
   (refine⟨λ _=>?_,λ h=>False.elim (by simp at h;omega)⟩;refine rg ?_;conv=>whnf)
   refine Am 6 1 Ah E ?_
   exact dN
theorem Wb {n:Net} (h:Ac n=true) {i:Nat} (hi:i<n.domains.length):1≤n.domains[i].vlan∧n.domains[i].vlan≤4094:=by
 simp only[Ac,zH]at h
 have hb:Ho (Q2 n) n.domains=true:=h.1.1.1.1.1.1.1.2
 have:=allB_iff.1 hb i hi
 simp only[Q2,zH,zQ]at this
 omega
theorem Ax0 (n:Net) (hn:n.Fin) (port dom:Int) (f:FrameM) (h:FrameOK f) :
  Sp 205 [Al n,Aa port,Aa dom,Cy f] (.tup [.sl 1 Ah (leaveT n port dom f).1,Aa (leaveT n port dom f).2]):=cT F205 Tryz.ntmps205 λ F hF=>by
 have hres:=leaveT.eq_1 n port dom f
 generalize leaveT n port dom f=res at *
 have hr:=Ax n hn
 have hpS:=Md port n.ports.length
 have hdS:=Md dom n.domains.length
 conv=>whnf
 refine c0 hpS F281 ?_
 cases hpl:An port n.ports.length
 ·rw[zE (.inl hpl)]at hres
  subst hres
  (refine oT ?_;refine bT ?_;refine bT ?_)
  refine Am 8 1 Ah E ?_
  exact dN
 refine oF ?_
 refine c0 hdS F281 ?_
 cases hdl:An dom n.domains.length
 ·rw[zE (.inr (.inl hdl))]at hres
  subst hres
  (refine oT ?_;refine bT ?_)
  refine Am 8 1 Ah E ?_
  exact dN
 refine oF ?_
 refine c0 hr F24 ?_
 cases hbn:Ac n
 ·rw[zE (.inr (.inr hbn))]at hres
  subst hres
  refine oT ?_
  refine Am 8 1 Ah E ?_
  exact dN
 rw[zD (by simp[hbn,hpl,hdl])]at hres
 have hpi:=Cn hpl
 have hdi:=Cn hdl
 have hp0:0≤port:=hpi.1
 have hd0:0≤dom:=hdi.1
 have hk:port.toNat<n.ports.length:=by omega
 have hkd:dom.toNat<n.domains.length:=by omega
 have e1:nth n.ports port=n.ports[port.toNat]:=Aj hk
 have e2:nth n.domains dom=n.domains[dom.toNat]:=Aj hkd
 have hsh:=hn.tagged _ (zJ hk)
 have hv:=Wb hbn hkd
 obtain ⟨p,hp⟩:∃ p,n.ports[port.toNat]'hk=p:=⟨_,rfl⟩
 obtain ⟨d,hd⟩:∃ d,n.domains[dom.toNat]'hkd=d:=⟨_,rfl⟩
 rw[hp]at e1 hsh
 rw[hd]at e2 hv
 rw[e1,e2]at hres
 have qm:=Xo p d.vlan hsh
 refine oF ?_
 refine⟨E,hp0,hk,E,hd0,hkd,?_⟩
 rw[hp,hd]
 conv=>whnf
 refine kW ?_
 constructor<;>intro h1
 ·rw[zE (.inl (by simpa using h1))]at hres
  subst hres
  refine oT ?_
  refine Am 8 1 Ah E ?_
  exact dN
 refine A7 10 7 (A3 p) E E E ?_
 refine oO ?_
 refine c0 qm F119 ?_
 cases hm1:D0 p d.vlan
 ·rw[zE (.inr hm1)]at hres
  subst hres
  refine oT ?_
  refine Am 8 1 Ah E ?_
  exact dN
 rw[zD (by simp at h1;simp[hm1,h1])]at hres
 have qt:=Tz f
 by_cases ht:f.typ=33024
 ·rw[zE ht]at hres
  subst hres
  rw[zR ht]at qt
  refine oF ?_
  refine c0 qt F160 ?_
  refine oT ?_
  refine Am 8 1 Ah E ?_
  exact dN
 rw[zD ht]at hres
 rw[zI ht]at qt
 refine oF ?_
 refine c0 qt F160 ?_
 refine oF ?_
 constructor<;>intro h2
 ·rw[zE (by simpa using h2)]at hres
  subst hres
  refine oO ?_
  refine Dj ⟨⟨_,_,F283⟩,Apr n f h d.vlan⟩ E E E E E E ?_
  refine oO ?_
  exact dN
 rw[zD (by simpa using h2)]at hres
 refine oO ?_
 have hv0:(d.vlan.toNat:Int)=d.vlan:=by omega
 have qg:=Ai6 n f h d.vlan.toNat q_
 rw[hv0]at qg
 refine Dj ⟨⟨_,_,F282⟩,qg⟩ E E E E E E ?_
 refine oO ?_
 by_cases he:(tagT f d.vlan).2=0
 ·rw[zD (by simpa using he)]at hres
  subst hres
  rw[zD (by simpa using he),zD (by simpa using he)]
  exact dN
 ·rw[zE he]at hres
  subst hres
  rw[zE he,zE he]
  exact dN
theorem inB_mem {l:List Int} {x:Int}:inB l x=true↔x∈l:=by
 simp[inB]
theorem App (n:Net) (hn:n.Fin) (port:Int) (b:List UInt8) (hb:b.length<100000) :
  Sp 209 [Al n,Aa port,.sl 1 Ah b] (.tup [Aa (linkT n port b).1,Aa (linkT n port b).2.1,Cy (linkT n port b).2.2.1,Aa (linkT n port b).2.2.2]):=cT F209 Tryz.ntmps209 λ F hF=>by
 have hres:=linkT.eq_1 n port b
 generalize linkT n port b=res at *
 have qo:=Xs n hn port
 have qe:=Amp n hn (D3 n port) b hb
 generalize D3 n port=o at *
 conv=>whnf
 refine c0 qo F287 ?_
 refine oO ?_
 constructor<;>intro h1
 ·rw[zE (by simpa using h1)]at hres
  subst hres
  refine oO ?_
  refine Ai 8 zF E vL ?_
  exact dN
 rw[zD (by simpa using h1)]at hres
 refine oO ?_
 refine c0 qe F146 ?_
 generalize enterT n o b=en at *
 obtain ⟨x1,g,x2⟩:=en
 subst hres
 refine oO ?_
 refine kW ?_
 exact dN
end Go.Sy.YtiijbikecbjdaaaGreatDoor
namespace Go.Sy.YtiijbikecbjdaaaGreatDoor
open Go.Proofs
theorem Mk (l:List Nat):(D2 l).length=2 * l.length:=by
 induction l with
 | nil=>rfl
 | cons a l ih=>simp only[D2,uB,yE,yN,xB]at ih ⊢;omega
theorem J5 (l:List Nat) (n:Nat):D2 (l++[n])=D2 l++[UInt8.ofNat (n / 256),UInt8.ofNat n]:=by simp[D2]
theorem M7 (b:List UInt8) (k m:Nat):numAt b k m<256 ^ m:=by
 have h:=Ou _ ((b.drop k).take m) rfl
 have h2:((b.drop k).take m).length≤m:=by rw[zX];omega
 exact yS h (wS j_ h2)
theorem V3 {b:List UInt8} {k:Nat} (h:k+2≤b.length):numAt b k 2=(b[k]'q_).toNat * 256+(b[k+1]'q_).toNat:=by
 rw[numAt,Wt h,Aq1]
theorem Ajx {b:List UInt8} {k:Nat} (h:k<b.length):bAt b k=b[k]:=Ap4 h
theorem Avz {b:List UInt8} {k:Nat} (h:k+3≤b.length):(b.drop k).take 3=[b[k]'q_,b[k+1]'q_,b[k+2]'q_]:=by
 rw[yJ q_,yJ (i:=k+1) q_,yJ (i:=k+2) q_]
 rfl
theorem Avy {b:List UInt8} {k:Nat} (h:k+4≤b.length):(b.drop k).take 4=[b[k]'q_,b[k+1]'q_,b[k+2]'q_,b[k+3]'q_]:=by
 rw[yJ q_,yJ (i:=k+1) q_,yJ (i:=k+2) q_,yJ (i:=k+3) q_]
 rfl
theorem numAt3 {b:List UInt8} {k:Nat} (h:k+3≤b.length):numAt b k 3=((b[k]'q_).toNat * 256+(b[k+1]'q_).toNat) * 256+(b[k+2]'q_).toNat:=by
 rw[numAt,Avz h]
 simp[Kz]
theorem numAt4 {b:List UInt8} {k:Nat} (h:k+4≤b.length):numAt b k 4=numAt b k 2 * 65536+numAt b (k+2) 2:=by
 have e:b[k+2+1]'q_=b[k+3]'q_:=rfl
 rw[numAt,Avy h,V3 q_,V3 q_,e]
 simp[Kz]
 omega
theorem I1 (f:FrameM):(Xc f).length=14+f.body.length:=by
 simp[Xc,frame,Ee]
 omega
theorem Vb (p:PacketM) (s:Nat):(Jv p s).length=20:=by rw[Jv,Mk];rfl
theorem Ta (p:PacketM):(Abr p).length=20+p.body.length:=by rw[Abr,yE,Vb]
theorem Ake (s d:Nat) (b:List UInt8):(Avq s d b).length=8+b.length:=by rw[Avq,yE,Mk];rfl
theorem K7 (v:Nat):(Qy v).length=8:=rfl
theorem Dy:FrameOK noF:=⟨by decide,by decide,by decide,by decide⟩
theorem Ad7 (ip:Nat) (h:ip<4294967296):Kf ip<281474976710656:=by rw[Kf,yL];omega
theorem Afy (n:Net) (port dom:Int) (f:FrameM) (hf:FrameOK f):(leaveT n port dom f).1.length≤1518:=by
 have h4:=hf.body
 unfold leaveT
 split
 ·simp
 split
 ·simp
 split
 ·simp
 split
 ·rw[I1];omega
 split
 ·simp
 ·rw[I1]
  rename_i h
  have h2:(tagT f (nth n.domains dom).vlan).2=0:=Classical.byContradiction h
  unfold tagT at h2 ⊢
  split
  ·rw[zE (by assumption)]at h2;cases h2
  rw[zD (by assumption)]at h2
  split
  ·rw[zE (by assumption)]at h2;cases h2
  ·dsimp only
   simp
   omega
theorem Ad0 {b:List UInt8} (h:(ipTakeT b).2=0):PacketOK (ipTakeT b).1∧(ipTakeT b).1.body.length+20≤b.length:=by
 unfold ipTakeT at h ⊢
 split
 ·rw[zE (by assumption)]at h;cases h
 rw[zD (by assumption)]at h
 split
 ·rw[zE (by assumption)]at h;cases h
 rw[zD (by assumption)]at h
 split
 ·rw[zE (by assumption)]at h;cases h
 rw[zD (by assumption)]at h
 split
 ·rw[zE (by assumption)]at h;cases h
 rw[zD (by assumption)]at h
 split
 ·rw[zE (by assumption)]at h;cases h
 have l1:=(bAt b 1).toNat_lt
 have l8:=(bAt b 8).toNat_lt
 have l9:=(bAt b 9).toNat_lt
 have n4:=M7 b 4 2
 have n12:=M7 b 12 4
 have n16:=M7 b 16 4
 refine⟨⟨?_,?_,?_,?_,?_,?_⟩,?_⟩
 ·show (bAt b 1).toNat≤255;omega
 ·show numAt b 4 2≤65535;omega
 ·show (bAt b 8).toNat≤255;omega
 ·show (bAt b 9).toNat≤255;omega
 ·exact n12
 ·exact n16
 ·show ((b.take (numAt b 2 2)).drop 20).length+20≤b.length
  rw[yM,zX]
  omega
theorem A1q {b:List UInt8} (h:(ipTakeT b).2≠0):(ipTakeT b).1=noP:=by
 unfold ipTakeT at h ⊢
 split
 ·rfl
 rw[zD (by assumption)]at h
 split
 ·rfl
 rw[zD (by assumption)]at h
 split
 ·rfl
 rw[zD (by assumption)]at h
 split
 ·rfl
 rw[zD (by assumption)]at h
 split
 ·rfl
 rw[zD (by assumption)]at h
 exact yB E h
theorem Aph:PacketOK noP:=⟨by decide,by decide,by decide,by decide,by decide,by decide⟩
theorem Apx (p:PacketM) (s:Nat):((Jv p 0).set 10 (UInt8.ofNat (s / 256))).set 11 (UInt8.ofNat s)=Jv p s:=by
 simp only[Jv,D2,uB,List.flatMap_nil,wF,wG,List.set_cons_succ,tB]
theorem Avg (a b v:Nat) (f:FrameM) (ha:a<4294967296) (hb:b<4294967296):PacketOK (Ut a b v f):=⟨xZ _,xZ _,by show (64:Nat)≤255;decide,by show (17:Nat)≤255;decide,ha,hb⟩
theorem Ky (a b v:Nat) (f:FrameM):(Ut a b v f).body.length=30+f.body.length:=by
 simp only[Ut,Ake,yE,K7,I1];omega
theorem Ah2 (a b:Nat) (v:Int) (f:FrameM):(wrapT a b v f).1.length≤1514:=by
 unfold wrapT
 split
 ·simp
 split
 ·simp
 split
 ·simp
 ·simp only[frame,yE,Ee,Ta,Ky,yN,xB];omega
theorem Ai3 (n:Net) (dom peer:Int) (f:FrameM):(meshT n dom peer f).1.length≤1514:=by
 unfold meshT
 split
 ·simp
 split
 ·simp
 ·exact Ah2 _ _ _ _
theorem Azk {b:List UInt8}:(udpTakeT b).2.2.1.length≤b.length:=by
 unfold udpTakeT
 repeat' split
 all_goals first | (simp;done) | (simp only[yM,zX];omega)
theorem vniT_body {b:List UInt8}:(vniT b).2.1.length≤b.length:=by
 unfold vniT
 repeat' split
 all_goals first | (simp;done) | (simp only[yM];omega)
theorem Zm (b:List UInt8):PacketOK (outerT b).1∧(outerT b).1.body.length≤b.length:=by
 unfold outerT
 split
 ·exact⟨Aph,by simp[noP]⟩
 split
 ·exact⟨Aph,by simp[noP]⟩
 split
 ·exact⟨Aph,by simp[noP]⟩
 ·rename_i h1 h2 h3
  have h4:(takeF b).2=0:=Classical.byContradiction h1
  have h5:(ipTakeT (takeF b).1.body).2=0:=Classical.byContradiction h3
  obtain ⟨h6,h7⟩:=Ad0 h5
  refine⟨h6,?_⟩
  have h8:(takeF b).1.body.length≤b.length:=by
   unfold takeF
   repeat' split
   all_goals simp[noF]
  dsimp only
  omega
theorem Ag9 (b:List UInt8):FrameOK (Mu b).2.1∧0≤(Mu b).1:=by
 unfold Mu
 repeat' split
 all_goals first | exact⟨Dy,wE _⟩ | skip
 rename_i h1 h2 h3 h4 h5
 refine⟨Acm (Classical.byContradiction h4),?_⟩
 show 0≤(vniT (udpTakeT b).2.2.1).1
 unfold vniT
 repeat' split
 all_goals omega
theorem Aci (b:List UInt8):(Ci b).1<4294967296∧(Ci b).2.1<4294967296∧0≤(Ci b).2.2.1∧FrameOK (Ci b).2.2.2.1:=by
 unfold Ci
 split
 ·exact⟨Nat.zero_lt_succ _,Nat.zero_lt_succ _,wE _,Dy⟩
 split
 ·exact⟨Nat.zero_lt_succ _,Nat.zero_lt_succ _,wE _,Dy⟩
 ·exact⟨(Zm b).1.src,(Zm b).1.dst,(Ag9 _).2,(Ag9 _).1⟩
theorem Ahm (n:Net) (port:Int) (f:FrameM) (hf:FrameOK f) (tg:Bool) (vid:Int):FrameOK (Lx n port f tg vid).2.1:=by
 unfold Lx
 split
 ·exact Dy
 split
 ·exact Dy
 ·exact hf
theorem Zw (n:Net) (port:Int) (b:List UInt8):FrameOK (enterT n port b).2.1:=by
 unfold enterT
 split
 ·exact Dy
 split
 ·exact Dy
 rename_i h1 h2
 have h3:=Acm (Classical.byContradiction h2)
 split
 ·split
  ·exact Dy
  ·rename_i h5
   exact Ahm _ _ _ (Av3 h3 (Classical.byContradiction h5)) _ _
 ·exact Ahm _ _ _ h3 _ _
theorem Al2 (n:Net) (port:Int) (b:List UInt8):FrameOK (linkT n port b).2.2.1:=by
 unfold linkT
 split
 ·exact Dy
 ·exact Zw _ _ _
theorem Amz (n:Net) (b:List UInt8):FrameOK (comeT n b).2.2.1:=by
 unfold comeT
 split
 ·exact Dy
 split
 ·exact Dy
 split
 ·exact Dy
 split
 ·exact Dy
 ·exact(Aci b).2.2.2
theorem A0r (n:Net) (hm:n.Num) (irb:Int) (f:FrameM) (hin:∀ (d:Int),(lookT n irb d).2=true→0≤(lookT n irb d).1∧(lookT n irb d).1.toNat<n.irbs.length):FrameOK (hopT n irb f).2.1:=by
 unfold hopT
 split
 ·exact Dy
 split
 ·exact Dy
 split
 ·exact Dy
 split
 ·exact Dy
 split
 ·exact Dy
 split
 ·exact Dy
 rename_i h1 h2 h3 h4 h5 h6
 have hp:=(Ad0 (Classical.byContradiction h3)).1
 have hl:=hin ((ipTakeT f.body).1.dst:Int) (by simpa using h5)
 have ha:=hm.addr _ (zJ hl.2)
 rw[← Aj hl.2]at ha
 refine⟨Ad7 _ hp.dst,?_,?_,?_⟩
 ·show Kf (nth n.irbs _).addr<_
  rw[Kf];omega
 ·show (2048:Nat)≤65535;decide
 ·show (Abr (Ap0 (ipTakeT f.body).1)).length≤1504
  rw[Ta]
  show 20+(ipTakeT f.body).1.body.length≤1504
  omega
end Go.Sy.YtiijbikecbjdaaaGreatDoor
namespace Go.Sy.YtiijbikecbjdaaaGreatDoor
open Go.Proofs
attribute [local irreducible] Go.Sy.G Go.Sy.DR
set_option maxRecDepth 100000
set_option maxHeartbeats 4000000
theorem Aby (a b:Nat) (ha:a<4294967296) (hb:b<4294967296):bits .or .u32 (a:Int) (b:Int)=((a ||| b:Nat):Int):=by
 have hx:a ||| b<2 ^ 32:=Nat.or_lt_two_pow q_ q_
 have h1:(BitVec.ofInt 32 (a:Int)).toNat=a:=by
  rw[BitVec.ofInt_natCast,BitVec.toNat_ofNat];exact xU q_
 have h2:(BitVec.ofInt 32 (b:Int)).toNat=b:=by
  rw[BitVec.ofInt_natCast,BitVec.toNat_ofNat];exact xU q_
 show IntKind.u32.wrap ((BitVec.ofInt 32 (a:Int) ||| BitVec.ofInt 32 (b:Int)).toNat:Int)=_
 rw[BitVec.toNat_or,h1,h2,IntKind.wrap_u32]
 omega
theorem Ar8 (x:UInt8) (k:UInt8):((x.toNat:Int) != (k.toNat:Int))=decide (x≠k):=by
 rw[wA]
 simp only[yQ,zQ,ne_eq,← UInt8.toNat_inj]
 omega
theorem Xx (b:List UInt8) (k:Nat) (h:k+2≤b.length) (hb:b.length<100000):Sp 334 [.sl 1 Ah b,Aa k] (Aa (numAt b k 2)):=cT F334 Tryz.ntmps334 λ F hF=>by
 have i0:((k:Nat):Int).toNat<b.length:=by simpa using (by omega:k<b.length)
 have i1:((k:Int)+1).toNat<b.length:=by omega
 have e0:b[((k:Nat):Int).toNat]'i0=b[k]'q_:=rfl
 have e1:b[((k:Int)+1).toNat]'i1=b[k+1]'q_:=rfl
 have hp:=H4 (b[k]'q_) (b[k+1]'q_)
 have hn:=V3 h
 rw[← hn]at hp
 conv=>whnf
 refine⟨E,by omega,i0,?_⟩
 rw[e0]
 conv=>whnf
 refine⟨by decide,?_⟩
 conv=>whnf
 refine iW ?_
 refine⟨E,by omega,i1,?_⟩
 rw[e1]
 conv=>whnf
 refine⟨z_,?_⟩
 rw[hp]
 conv=>whnf
 exact dN
theorem Avt (x y:Nat) (hx:x<65536) (hy:y<65536):bits .or .u32 (IntKind.u32.wrap ((IntKind.u32.wrap (x:Int)) * 2 ^ min (Int.toNat 16) IntKind.u32.bits)) (IntKind.u32.wrap (y:Int))=((x * 65536+y:Nat):Int):=by
 have e1:IntKind.u32.wrap (x:Int)=(x:Int):=by rw[IntKind.wrap_u32];omega
 have e2:IntKind.u32.wrap (y:Int)=(y:Int):=by rw[IntKind.wrap_u32];omega
 rw[e1,e2]
 have e3:IntKind.u32.wrap ((x:Int) * 2 ^ min (Int.toNat 16) IntKind.u32.bits)=((x * 65536:Nat):Int):=by
  show IntKind.u32.wrap ((x:Int) * 65536)=_
  rw[IntKind.wrap_u32]
  omega
 rw[e3,Aby _ _ q_ q_]
 congr 1
 have h:=xD (i:=16) (b:=y) q_ x
 rw[vH x 65536]
 exact h.symm
theorem Arw (b:List UInt8) (k:Nat) (h:k+4≤b.length) (hb:b.length<100000):Sp 336 [.sl 1 Ah b,Aa k] (A6 (numAt b k 4)):=cT F336 Tryz.ntmps336 λ F hF=>by
 have q1:=Xx b k q_ hb
 have q2:=Xx b (k+2) q_ hb
 rw[show ((k+2:Nat):Int)=(k:Int)+2 by omega]at q2
 have hf:=Avt (numAt b k 2) (numAt b (k+2) 2) (by have:=M7 b k 2;omega) (by have:=M7 b (k+2) 2;omega)
 rw[← numAt4 h]at hf
 conv=>whnf
 refine c0 q1 F334 ?_
 refine oO ?_
 refine⟨by decide,?_⟩
 conv=>whnf
 refine iW ?_
 refine c0 q2 F334 ?_
 refine oO ?_
 rw[hf]
 exact dN
theorem Ast (l:List UInt8) (hl:l.length<100000) (h2:l.length % 2=0):Sp 335 [.sl 1 Ah l] (Ab (decide (Jr (Wl l (l.length / 2))=65535))):=cT F335 Tryz.ntmps335 λ F hF=>by
 have ha:=Aq8 l hl h2
 conv=>whnf
 refine c0 ha F291 ?_
 refine oO ?_
 refine Aq E (.cons .tmp .nil) (zG Ab ?_) E
 rw[wA]
 simp only[yF,zQ]
 omega
abbrev zP:List SV:=[Aa 0,Aa 0,Aa 0,Aa 0,A6 0,A6 0,.sl 1 Ah []]
theorem Arv (b:List UInt8) (hb:b.length<100000):Sp 277 [.sl 1 Ah b] (.tup [Xj (ipTakeT b).1,Aa (ipTakeT b).2]):=cT F277 Tryz.ntmps277 λ F hF=>by
 have hres:=ipTakeT.eq_1 b
 generalize ipTakeT b=res at *
 conv=>whnf
 constructor<;>intro h
 ·rw[zE (qA h)]at hres
  subst hres
  refine oO ?_
  refine Ai 2 zP E vL ?_
  exact dN
 have h20:20≤b.length:=qB h
 rw[zD q_]at hres
 clear h
 have i0:(0:Int).toNat<b.length:=by show 0<_;omega
 have i1:(1:Int).toNat<b.length:=by show 1<_;omega
 have i8:(8:Int).toNat<b.length:=by show 8<_;omega
 have i9:(9:Int).toNat<b.length:=by show 9<_;omega
 have e0:b[(0:Int).toNat]'i0=bAt b 0:=(Ajx q_).symm
 have q2:=Xx b 2 q_ hb
 have q4:=Xx b 4 q_ hb
 have q6:=Xx b 6 q_ hb
 have q12:=Arw b 12 q_ hb
 have q16:=Arw b 16 q_ hb
 have hl20:(b.take 20).length=20:=by rw[zX];omega
 have hdiv:(b.take 20).length / 2=10:=by rw[hl20]
 have qs:=Ast (b.take 20) q_ (by rw[hl20])
 rw[hdiv]at qs
 refine oO ?_
 refine⟨E,by decide,i0,?_⟩
 rw[e0]
 conv=>whnf
 constructor<;>intro h
 ·rw[zE (.inl (by rw[show ((69:Int))=((69:UInt8).toNat:Int) from rfl,Ar8]at h;exact zK h))]at hres
  subst hres
  refine oT ?_
  refine Ai 2 zP E vL ?_
  exact dN
 have h69:¬ bAt b 0≠69:=by rw[show ((69:Int))=((69:UInt8).toNat:Int) from rfl,Ar8]at h;exact zT h
 clear h
 refine oO ?_
 refine c0 q2 F334 ?_
 refine oO ?_
 constructor<;>intro h
 ·rw[zE (.inr (qA h))]at hres
  subst hres
  refine oO ?_
  refine Ai 2 zP E vL ?_
  exact dN
 have hs20:20≤numAt b 2 2:=qB h
 rw[zD (λ h=>h.elim h69 q_)]at hres
 clear h
 refine oO ?_
 refine c0 q2 F334 ?_
 refine oO ?_
 constructor<;>intro h
 ·rw[zE (qA h)]at hres
  subst hres
  refine oO ?_
  refine Ai 2 zP E vL ?_
  exact dN
 have hsl:numAt b 2 2≤b.length:=qB h
 rw[zD q_]at hres
 clear h
 refine oO ?_
 refine c0 q6 F334 ?_
 refine oO ?_
 constructor<;>intro h
 ·rw[zE (by have:(numAt b 6 2:Int)≠0:=(by simpa using h);omega)]at hres
  subst hres
  refine oO ?_
  refine Ai 2 zP E vL ?_
  exact dN
 rw[zD (by have:(numAt b 6 2:Int)=0:=(by simpa using h);omega)]at hres
 clear h
 refine oO ?_
 refine Af (Dc (lo:=0) (hi:=20) Γ.toTy E E E E (.inl ⟨E,E⟩) (.inr ⟨_,_,E,E⟩) q_ h20) E E ?_
 refine oO ?_
 refine c0 qs F335 ?_
 by_cases hsum:Jr (Wl (b.take 20) 10)=65535
 rotate_left
 ·rw[zE hsum]at hres
  subst hres
  rw[zI hsum]
  refine oT ?_
  refine Ai 2 zP E vL ?_
  exact dN
 rw[zD (λ h=>h hsum)]at hres
 subst hres
 rw[zR hsum]
 have qc:=Qo ((b.take (numAt b 2 2)).drop 20) (by rw[yM,zX];omega)
 have w1:IntKind.i64.wrap ((b[(1:Int).toNat]'i1).toNat:Int)=((bAt b 1).toNat:Int):=by
  rw[Ajx (show 1<b.length by omega)]
  have:=(b[1]'q_).toNat_lt
  show IntKind.i64.wrap ((b[1]'q_).toNat:Int)=_
  rw[IntKind.wrap_i64];omega
 have w8:IntKind.i64.wrap ((b[(8:Int).toNat]'i8).toNat:Int)=((bAt b 8).toNat:Int):=by
  rw[Ajx (show 8<b.length by omega)]
  have:=(b[8]'q_).toNat_lt
  show IntKind.i64.wrap ((b[8]'q_).toNat:Int)=_
  rw[IntKind.wrap_i64];omega
 have w9:IntKind.i64.wrap ((b[(9:Int).toNat]'i9).toNat:Int)=((bAt b 9).toNat:Int):=by
  rw[Ajx (show 9<b.length by omega)]
  have:=(b[9]'q_).toNat_lt
  show IntKind.i64.wrap ((b[9]'q_).toNat:Int)=_
  rw[IntKind.wrap_i64];omega
 refine oF ?_
 refine⟨E,by decide,i1,?_⟩
 conv=>whnf
 refine cD q4 F334 ?_
 refine oD ?_
 refine⟨E,by decide,i8,?_⟩
 conv=>whnf
 refine⟨E,by decide,i9,?_⟩
 conv=>whnf
 refine cD q12 F336 ?_
 refine oD ?_
 refine cD q16 F336 ?_
 refine oD ?_
 refine cD q2 F334 ?_
 refine oD ?_
 refine Br (Dc (lo:=20) (hi:=numAt b 2 2) Γ.toTy E E E E (.inr ⟨_,_,E,E⟩) (.inr ⟨_,_,E,E⟩) hs20 hsl) z_ E ?_
 refine oD ?_
 refine cD qc F270 ?_
 refine oD ?_
 refine kW ?_
 refine Aq E (.cons (.cell E E E E) (.cons .tmp .nil)) ?_ E
 show SV.tup [.agg [Aa (bAt b 1).toNat,_,Aa (bAt b 8).toNat,Aa (bAt b 9).toNat,_,_,_],_]=SV.tup [.agg [Aa (IntKind.i64.wrap ((b[(1:Int).toNat]'i1).toNat:Int)),_,Aa (IntKind.i64.wrap ((b[(8:Int).toNat]'i8).toNat:Int)),Aa (IntKind.i64.wrap ((b[(9:Int).toNat]'i9).toNat:Int)),_,_,_],_]
 rw[w1,w8,w9]
 rfl
theorem Aw6 (t:Nat) (h:t≤255):bits .or .i64 17664 (t:Int)=((17664+t:Nat):Int):=by
 have h1:=Ed 17664 t j_ q_
 rw[show ((17664:Nat):Int)=17664 from rfl]at h1
 rw[h1]
 congr 1
 have h2:=xD (i:=8) (b:=t) q_ 69
 rw[show 2 ^ 8 * 69=17664 from rfl]at h2
 rw[← h2]
theorem A0b (x y:Nat) (hx:x≤255) (hy:y≤255):bits .or .i64 (IntKind.i64.wrap ((x:Int) * 2 ^ min (Int.toNat 8) IntKind.i64.bits)) (y:Int)=((x * 256+y:Nat):Int):=by
 have h3:IntKind.i64.wrap ((x:Int) * 2 ^ min (Int.toNat 8) IntKind.i64.bits)=((x * 256:Nat):Int):=by
  show IntKind.i64.wrap ((x:Int) * 256)=_
  rw[IntKind.wrap_i64]
  omega
 rw[h3,Ed _ _ q_ q_]
 congr 1
 have h:=xD (i:=8) (b:=y) q_ x
 rw[vH x 256]
 exact h.symm
theorem Amh (x:Nat) (h:x<4294967296):IntKind.i64.wrap ((x:Int).fdiv (2 ^ (min (Int.toNat 16) IntKind.u32.bits)))=((x / 65536:Nat):Int):=by
 show IntKind.i64.wrap ((x:Int).fdiv 65536)=_
 rw[wC _ j_,IntKind.wrap_i64]
 omega
theorem Arr (x:Nat) (h:x<4294967296):IntKind.i64.wrap (x:Int)=(x:Int):=by rw[IntKind.wrap_i64];omega
theorem Ai8 (p:PacketM) (hp:PacketOK p) (hb:p.body.length<100000):Sp 157 [Xj p] (.tup [.sl 1 Ah (ipPutT p).1,Aa (ipPutT p).2]):=cT F157 Tryz.ntmps157 λ F hF=>by
 have hres:=ipPutT.eq_1 p
 generalize ipPutT p=res at *
 have h1:=hp.tos
 have h2:=hp.id
 have h3:=hp.ttl
 have h4:=hp.proto
 have h5:=hp.src
 have h6:=hp.dst
 conv=>whnf
 refine Dj ⟨⟨_,_,F216⟩,Aic p.tos 255 q_⟩ E E E E E E ?_
 refine oF ?_
 refine Dj ⟨⟨_,_,F216⟩,Aic p.ttl 255 q_⟩ E E E E E E ?_
 refine oF ?_
 refine Dj ⟨⟨_,_,F216⟩,Aic p.proto 255 q_⟩ E E E E E E ?_
 refine oF ?_
 refine Dj ⟨⟨_,_,F216⟩,Aic p.id 65535 q_⟩ E E E E E E ?_
 refine oF ?_
 constructor<;>intro h
 ·rw[zE (qA h)]at hres
  subst hres
  refine oO ?_
  refine Am 2 1 Ah E ?_
  exact dN
 have hl:p.body.length≤1480:=qB h
 rw[zD q_]at hres
 subst hres
 clear h
 have hsz:Abr p=((Jv p 0).set 10 (UInt8.ofNat (Ag6 p / 256))).set 11 (UInt8.ofNat (Ag6 p))++p.body:=by rw[Apx,Abr]
 rw[hsz]
 have hil:=Vb p 0
 have hs:=sumOfS (Jv p 0) (by rw[hil];decide) (by rw[hil])
 have hput:=Ax1 [17664+p.tos,20+p.body.length,p.id,0,p.ttl * 256+p.proto,0,p.src / 65536,p.src,p.dst / 65536,p.dst] y_
 rw[show Ln [17664+p.tos,20+p.body.length,p.id,0,p.ttl * 256+p.proto,0,p.src / 65536,p.src,p.dst / 65536,p.dst]=Jv p 0 from rfl]at hput
 have hss:Aq7 (Jv p 0)=Ag6 p:=rfl
 rw[hss]at hs
 have hsl:Ag6 p≤65535:=Nat.sub_le _ _
 generalize Ag6 p=s at *
 have htb:=Hx s
 have o1:=Aw6 p.tos h1
 have o2:=A0b p.ttl p.proto h3 h4
 have g1:=Amh p.src h5
 have g2:=Arr p.src h5
 have g3:=Amh p.dst h6
 have g4:=Arr p.dst h6
 generalize Jv p 0=b at *
 refine oO ?_
 refine iW ?_
 refine⟨by decide,?_⟩
 conv=>whnf
 refine⟨by decide,?_⟩
 conv=>whnf
 refine⟨by decide,?_⟩
 conv=>whnf
 refine Anj 68 (e:=Axg) (l:=[17664+p.tos,20+p.body.length,p.id,0,p.ttl * 256+p.proto,0,p.src / 65536,p.src,p.dst / 65536,p.dst]) E ?_ ?_
 ·show _=[SV.val (.int .i64 (bits .or .i64 17664 (p.tos:Int))),SV.val _,SV.val _,SV.val _,SV.val (.int .i64 (bits .or .i64 (IntKind.i64.wrap ((p.ttl:Int) * 2 ^ min (Int.toNat 8) IntKind.i64.bits)) (p.proto:Int))),SV.val _,
   SV.val (.int .i64 (IntKind.i64.wrap ((p.src:Int).fdiv (2 ^ (min (Int.toNat 16) IntKind.u32.bits))))),SV.val (.int .i64 (IntKind.i64.wrap (p.src:Int))),SV.val (.int .i64 (IntKind.i64.wrap ((p.dst:Int).fdiv (2 ^ (min (Int.toNat 16) IntKind.u32.bits))))),SV.val (.int .i64 (IntKind.i64.wrap (p.dst:Int)))]
  rw[o1,o2,g1,g2,g3,g4]
  rfl
 refine Ag 68 E ?_
 refine Af (Ad [(0,69)] E F217 hput E Y E ⟨.inr E,Y⟩) E E ?_
 refine oO ?_
 refine Ar7 [69] hs F218 E (.cons (.row E E) .nil) E E E ?_
 refine oO ?_
 have hb1:=(List.cons.inj htb).1
 have hb2:=(List.cons.inj (List.cons.inj htb).2).1
 refine⟨by omega,?_⟩
 conv=>whnf
 refine⟨by decide,by rw[hil];decide,?_⟩
 conv=>whnf
 refine⟨E,by rw[hil];decide,UInt8.ofNat (s / 256),zG (λ z=>[z]) hb1,E,?_⟩
 conv=>whnf
 refine⟨by decide,by simp[hil],?_⟩
 conv=>whnf
 refine⟨E,by simp[hil],UInt8.ofNat s,zG (λ z=>[z]) hb2,E,?_⟩
 conv=>whnf
 refine Af (Ae Γ.toTy 84 E E E E E (.row E) .sl j_ (by simp[hil];omega) (by simp[hil];omega)) E E ?_
 refine Ag 84 E ?_
 refine oO ?_
 exact dN
def hop1 (p:PacketM):PacketM × Int:=if p.ttl≤1 then (noP,13) else (Ap0 p,0)
theorem ipHopS (p:PacketM) (hb:p.body.length<100000) (ht:p.ttl≤255):Sp 278 [Xj p] (.tup [Xj (hop1 p).1,Aa (hop1 p).2]):=cT F278 Tryz.ntmps278 λ F hF=>by
 have hres:=hop1.eq_1 p
 generalize hop1 p=res at *
 have qc:=Qo p.body q_
 conv=>whnf
 constructor<;>intro h
 ·rw[zE (qA h)]at hres
  subst hres
  refine oO ?_
  refine Ai 2 zP E vL ?_
  exact dN
 have h2:¬ p.ttl≤1:=qB h
 rw[zD h2]at hres
 subst hres
 have e:((p.ttl-1:Nat):Int)=(p.ttl:Int)-1:=by omega
 refine oO ?_
 refine iW ?_
 refine c0 qc F270 ?_
 refine oO ?_
 refine Aq E (.cons (.cell E E E E) (.cons .tmp .nil)) ?_ E
 show SV.tup [.agg [_,_,Aa ((p.ttl-1:Nat):Int),_,_,_,_],_]=SV.tup [.agg [_,_,Aa ((p.ttl:Int)-1),_,_,_,_],_]
 rw[e]
 rfl
def udpU (b:List UInt8):Nat→List SV
 | 0=>[Aa 0,Aa 0,Aa 0,Aa 0]
 | 1=>[Aa (numAt b 0 2),Aa 0,Aa 0,Aa 0]
 | 2=>[Aa (numAt b 0 2),Aa (numAt b 2 2),Aa 0,Aa 0]
 | 3=>[Aa (numAt b 0 2),Aa (numAt b 2 2),Aa (numAt b 4 2),Aa 0]
 | _=>[Aa (numAt b 0 2),Aa (numAt b 2 2),Aa (numAt b 4 2),Aa (numAt b 6 2)]
theorem Avp (b:List UInt8) (hb:b.length<100000):Sp 378 [.sl 1 Ah b] (.tup [Aa (udpTakeT b).1,Aa (udpTakeT b).2.1,.sl 1 Ah (udpTakeT b).2.2.1,Aa (udpTakeT b).2.2.2]):=cT F378 Tryz.ntmps378 λ F hF=>by
 have hres:=udpTakeT.eq_1 b
 generalize udpTakeT b=res at *
 conv=>whnf
 constructor<;>intro h
 ·rw[zE (qA h)]at hres
  subst hres
  refine oO ?_
  refine Am 4 1 Ah E ?_
  exact dN
 have h8:8≤b.length:=qB h
 rw[zD q_]at hres
 clear h
 have hp0:=H4 (b[0]'q_) (b[1]'q_)
 rw[← V3 (show 0+2≤b.length by omega)]at hp0
 have hp1:=H4 (b[2]'q_) (b[3]'q_)
 rw[← V3 (show 2+2≤b.length by omega)]at hp1
 have hp2:=H4 (b[4]'q_) (b[5]'q_)
 rw[← V3 (show 4+2≤b.length by omega)]at hp2
 have hp3:=H4 (b[6]'q_) (b[7]'q_)
 rw[← V3 (show 6+2≤b.length by omega)]at hp3
 refine oO ?_
 refine A9 4 (λ j=>[(0,.sl 1 Ah b),(6,.ptr 6 0),(11,Aa j)]) (λ j=>[(6,.box (udpU b j))]) [] ⟨⟨E,E,E,E,E,E,Y⟩,⟨.inl E,E,Y⟩,E,E⟩ ?_
 intro j hj
 have hcase:j=0∨j=1∨j=2∨j=3∨j=4:=by omega
 rcases hcase with rfl | rfl | rfl | rfl | rfl
 ·refine oT ?_
  refine iW ?_
  refine⟨E,by omega,by omega,?_⟩
  conv=>whnf
  refine⟨by decide,?_⟩
  conv=>whnf
  refine iW ?_
  refine iW ?_
  refine⟨E,by omega,by omega,?_⟩
  conv=>whnf
  refine⟨by decide,by decide,?_⟩
  conv=>whnf
  refine kW ?_
  refine iW ?_
  exact A2 [] j_ ⟨⟨E,E,E,E,E,E,Y⟩,⟨.inl (zG (λ z:Int=>Ob.box [Aa z,Aa 0,Aa 0,Aa 0]) hp0.symm),E,Y⟩,E,E⟩
 ·refine oT ?_
  refine iW ?_
  refine⟨E,by omega,by omega,?_⟩
  conv=>whnf
  refine⟨by decide,?_⟩
  conv=>whnf
  refine iW ?_
  refine iW ?_
  refine⟨E,by omega,by omega,?_⟩
  conv=>whnf
  refine⟨by decide,by decide,?_⟩
  conv=>whnf
  refine kW ?_
  refine iW ?_
  exact A2 [] j_ ⟨⟨E,E,E,E,E,E,Y⟩,⟨.inl (zG (λ z:Int=>Ob.box [Aa (numAt b 0 2),Aa z,Aa 0,Aa 0]) hp1.symm),E,Y⟩,E,E⟩
 ·refine oT ?_
  refine iW ?_
  refine⟨E,by omega,by omega,?_⟩
  conv=>whnf
  refine⟨by decide,?_⟩
  conv=>whnf
  refine iW ?_
  refine iW ?_
  refine⟨E,by omega,by omega,?_⟩
  conv=>whnf
  refine⟨by decide,by decide,?_⟩
  conv=>whnf
  refine kW ?_
  refine iW ?_
  exact A2 [] j_ ⟨⟨E,E,E,E,E,E,Y⟩,⟨.inl (zG (λ z:Int=>Ob.box [Aa (numAt b 0 2),Aa (numAt b 2 2),Aa z,Aa 0]) hp2.symm),E,Y⟩,E,E⟩
 ·refine oT ?_
  refine iW ?_
  refine⟨E,by omega,by omega,?_⟩
  conv=>whnf
  refine⟨by decide,?_⟩
  conv=>whnf
  refine iW ?_
  refine iW ?_
  refine⟨E,by omega,by omega,?_⟩
  conv=>whnf
  refine⟨by decide,by decide,?_⟩
  conv=>whnf
  refine kW ?_
  refine iW ?_
  exact A2 [] j_ ⟨⟨E,E,E,E,E,E,Y⟩,⟨.inl (zG (λ z:Int=>Ob.box [Aa (numAt b 0 2),Aa (numAt b 2 2),Aa (numAt b 4 2),Aa z]) hp3.symm),E,Y⟩,E,E⟩
 clear hp0 hp1 hp2 hp3
 refine oF ?_
 refine⟨by decide,by decide,?_⟩
 conv=>whnf
 constructor<;>intro h
 ·rw[zE (qA h)]at hres
  subst hres
  refine oO ?_
  refine Am 4 1 Ah E ?_
  exact dN
 have hs8:8≤numAt b 4 2:=qB h
 rw[zD q_]at hres
 clear h
 refine oO ?_
 refine⟨by decide,by decide,?_⟩
 conv=>whnf
 constructor<;>intro h
 ·rw[zE (qA h)]at hres
  subst hres
  refine oO ?_
  refine Am 4 1 Ah E ?_
  exact dN
 have hsl:numAt b 4 2≤b.length:=qB h
 rw[zD q_]at hres
 clear h
 refine oO ?_
 refine⟨by decide,by decide,?_⟩
 conv=>whnf
 constructor<;>intro h
 ·rw[zE (by have:(numAt b 6 2:Int)≠0:=(by simpa using h);omega)]at hres
  subst hres
  refine oO ?_
  refine Am 4 1 Ah E ?_
  exact dN
 rw[zD (by have:(numAt b 6 2:Int)=0:=(by simpa using h);omega)]at hres
 subst hres
 clear h
 have qc:=Qo ((b.take (numAt b 4 2)).drop 8) (by rw[yM,zX];omega)
 refine oO ?_
 refine⟨by decide,by decide,?_⟩
 conv=>whnf
 refine⟨by decide,by decide,?_⟩
 conv=>whnf
 refine⟨by decide,by decide,?_⟩
 conv=>whnf
 refine Br (Dc (lo:=8) (hi:=numAt b 4 2) Γ.toTy E E E E (.inr ⟨_,_,E,E⟩) (.inr ⟨_,_,E,E⟩) hs8 hsl) z_ E ?_
 refine oD ?_
 refine cD qc F270 ?_
 refine oD ?_
 refine kW ?_
 exact dN
theorem Azs (src dst:Nat) (body:List UInt8) (h1:src≤65535) (h2:dst≤65535) (h3:body.length≤1472):Sp 346 [Aa src,Aa dst,.sl 1 Ah body] (.tup [.sl 1 Ah (Avq src dst body),Aa 0]):=cT F346 Tryz.ntmps346 λ F hF=>by
 ((conv=>whnf);refine aF ?_;refine rg ?_;conv=>whnf)
 (refine⟨λ h=>False.elim (by simp at h;omega),λ _=>?_⟩;refine rg ?_;(conv=>whnf);refine aF ?_;refine rg ?_;(conv=>whnf);refine⟨λ h=>False.elim (by simp at h;omega),λ _=>?_⟩;refine rg ?_;(conv=>whnf);refine⟨λ h=>False.elim (by simp at h;omega),λ _=>?_⟩;refine rg ?_;conv=>whnf)
 refine iW ?_
 refine B9 8 1000 1 Ah E E ?_
 refine Af (Tg Γ.toTy E E E E E E) E E ?_
 refine oO ?_
 have key:∀ (x:Nat) (pre:List Nat),pre.length≤4→D2 (pre++[x])=D2 pre++[UInt8.ofNat (x / 256),UInt8.ofNat x]:=λ x pre _=>J5 pre x
 have hwl:∀ l:List Nat,(D2 l).length=2 * l.length:=Mk
 obtain ⟨ws,hws⟩:∃ ws:List Nat,ws=[src,dst,8+body.length,0]:=⟨_,rfl⟩
 refine A9 4 (λ j=>[(2,.sl 1 Ah body),(8,.osl 1000),(35,.agg [Aa src,Aa dst,Aa (8+body.length:Nat),Aa 0]),(36,Aa j)]) (λ j=>[(1000,.row 1 Ah (D2 (ws.take j)))]) [] ⟨⟨E,E,E,E,E,E,E,E,Y⟩,⟨.inl (zG (Ob.row 1 Ah) (by simp[D2])),E,Y⟩,E,E⟩ ?_
 intro j hj
 have hcase:j=0∨j=1∨j=2∨j=3∨j=4:=by omega
 rcases hcase with rfl | rfl | rfl | rfl | rfl
 ·have hs:D2 (ws.take 1)=D2 (ws.take 0)++[UInt8.ofNat (src / 256),UInt8.ofNat src]:=by subst hws;exact J5 [] src
  have hl:=hwl (ws.take 0)
  have hl2:(ws.take 0).length≤4:=by rw[zX];omega
  have htb:=Hx src
  refine oT ?_
  refine Af (B7 (k:=.int .i64) Γ.toTy E E E Tryz.underlying3 E E j_ j_ E) E E ?_
  refine oO ?_
  refine⟨by decide,?_⟩
  conv=>whnf
  refine Af (Ae Γ.toTy 46 E E E E E (.row E) (.lit (e:=Ah) (l:=[UInt8.ofNat (src / 256),UInt8.ofNat src]) E htb) y_ (by rw[hl];simp only[yN,xB];omega) (by rw[hl];simp only[yN,xB];omega)) E E ?_
  refine oO ?_
  refine iW ?_
  exact A2 [(1000,46)] j_ ⟨⟨E,E,E,E,E,E,E,E,Y⟩,⟨.inl (zG (Ob.row 1 Ah) hs),E,Y⟩,E,E⟩
 ·have hs:D2 (ws.take 2)=D2 (ws.take 1)++[UInt8.ofNat (dst / 256),UInt8.ofNat dst]:=by subst hws;exact J5 [src] dst
  have hl:=hwl (ws.take 1)
  have hl2:(ws.take 1).length≤4:=by rw[zX];omega
  have htb:=Hx dst
  refine oT ?_
  refine Af (B7 (k:=.int .i64) Γ.toTy E E E Tryz.underlying3 E E j_ j_ E) E E ?_
  refine oO ?_
  refine⟨by decide,?_⟩
  conv=>whnf
  refine Af (Ae Γ.toTy 46 E E E E E (.row E) (.lit (e:=Ah) (l:=[UInt8.ofNat (dst / 256),UInt8.ofNat dst]) E htb) y_ (by rw[hl];simp only[yN,xB];omega) (by rw[hl];simp only[yN,xB];omega)) E E ?_
  refine oO ?_
  refine iW ?_
  exact A2 [(1000,46)] j_ ⟨⟨E,E,E,E,E,E,E,E,Y⟩,⟨.inl (zG (Ob.row 1 Ah) hs),E,Y⟩,E,E⟩
 ·have hs:D2 (ws.take 3)=D2 (ws.take 2)++[UInt8.ofNat ((8+body.length) / 256),UInt8.ofNat (8+body.length)]:=by subst hws;exact J5 [src,dst] (8+body.length)
  have hl:=hwl (ws.take 2)
  have hl2:(ws.take 2).length≤4:=by rw[zX];omega
  have htb:=Hx (8+body.length)
  refine oT ?_
  refine Af (B7 (k:=.int .i64) Γ.toTy E E E Tryz.underlying3 E E j_ j_ E) E E ?_
  refine oO ?_
  refine⟨by decide,?_⟩
  conv=>whnf
  refine Af (Ae Γ.toTy 46 E E E E E (.row E) (.lit (e:=Ah) (l:=[UInt8.ofNat ((8+body.length) / 256),UInt8.ofNat (8+body.length)]) E htb) y_ (by rw[hl];simp only[yN,xB];omega) (by rw[hl];simp only[yN,xB];omega)) E E ?_
  refine oO ?_
  refine iW ?_
  exact A2 [(1000,46)] j_ ⟨⟨E,E,E,E,E,E,E,E,Y⟩,⟨.inl (zG (Ob.row 1 Ah) hs),E,Y⟩,E,E⟩
 ·have hs:D2 (ws.take 4)=D2 (ws.take 3)++[UInt8.ofNat (0 / 256),UInt8.ofNat 0]:=by subst hws;exact J5 [src,dst,8+body.length] 0
  have hl:=hwl (ws.take 3)
  have hl2:(ws.take 3).length≤4:=by rw[zX];omega
  have htb:=Hx 0
  refine oT ?_
  refine Af (B7 (k:=.int .i64) Γ.toTy E E E Tryz.underlying3 E E j_ j_ E) E E ?_
  refine oO ?_
  refine⟨by decide,?_⟩
  conv=>whnf
  refine Af (Ae Γ.toTy 46 E E E E E (.row E) (.lit (e:=Ah) (l:=[UInt8.ofNat (0 / 256),UInt8.ofNat 0]) E htb) y_ (by rw[hl];simp only[yN,xB];omega) (by rw[hl];simp only[yN,xB];omega)) E E ?_
  refine oO ?_
  refine iW ?_
  exact A2 [(1000,46)] j_ ⟨⟨E,E,E,E,E,E,E,E,Y⟩,⟨.inl (zG (Ob.row 1 Ah) hs),E,Y⟩,E,E⟩
 have hl:=hwl (ws.take 4)
 have e:ws.take 4=[src,dst,8+body.length,0]:=by rw[hws];rfl
 rw[e]at hl ⊢
 have hl3:(D2 [src,dst,8+body.length,0]).length=8:=hl
 refine oF ?_
 refine Af (Ae Γ.toTy 50 E E E E E (.row E) .sl y_ (by rw[hl3];simp;omega) (by rw[hl3];omega)) E E ?_
 refine Ag 50 E ?_
 refine oO ?_
 exact dN
theorem Avr (a b:Nat) (ha:a<18446744073709551616) (hb:b<18446744073709551616):Sp 347 [Bf a,Bf b] (Aa (udpPort a b:Nat)):=cT F347 Tryz.ntmps347 λ F hF=>by
 have hx:=bits_xor_u64_nat a b ha hb
 have hmd:((a ^^^ b:Nat):Int).tmod 16384=(((a ^^^ b) % 16384:Nat):Int):=by rw[tI q_];omega
 have hl:=tG (a ^^^ b) (show 0<16384 by decide)
 have hw:IntKind.i64.wrap (((a ^^^ b) % 16384:Nat):Int)=(((a ^^^ b) % 16384:Nat):Int):=by rw[IntKind.wrap_i64];omega
 conv=>whnf
 refine⟨by decide,?_⟩
 rw[hx,hmd]
 conv=>whnf
 rw[hw]
 refine iW ?_
 refine Aq E (.cons .tmp .nil) ?_ E
 refine zG (λ z:Int=>SV.val (.int .i64 z)) ?_
 rw[udpPort]
 omega
theorem Arx (v:Int) (h:Yz v=true):Sp 345 [Aa v] (.tup [.sl 1 Ah [],Aa 17]):=cT F345 Tryz.ntmps345 λ F hF=>by
 simp only[Yz,yO,zQ]at h
 conv=>whnf
 constructor<;>intro h1
 ·refine oT ?_
  refine Am 2 1 Ah E ?_
  exact dN
 refine oO ?_
 refine⟨λ h2=>?_,λ h2=>yB (zT h2) (by have:=zT h1;omega)⟩
 refine oO ?_
 refine Am 2 1 Ah E ?_
 exact dN
theorem Avk {v:Int} (h:Yz v=false):1≤v∧v≤16777215:=by
 simp only[Yz,wR,zY]at h
 omega
theorem Aue (k:Nat):(Qy k).map Ah=[SV.val (.int .u8 8),SV.val (.int .u8 0),SV.val (.int .u8 0),SV.val (.int .u8 0),SV.val (.int .u8 (IntKind.u8.wrap ((k:Int).fdiv (2 ^ (min (Int.toNat 16) IntKind.i64.bits))))),
  SV.val (.int .u8 (IntKind.u8.wrap ((k:Int).fdiv (2 ^ (min (Int.toNat 8) IntKind.i64.bits))))),SV.val (.int .u8 (IntKind.u8.wrap (k:Int))),SV.val (.int .u8 0)]:=by
 have h1:IntKind.u8.wrap ((k:Int).fdiv (2 ^ (min (Int.toNat 16) IntKind.i64.bits)))=((UInt8.ofNat (k / 65536)).toNat:Int):=by
  show IntKind.u8.wrap ((k:Int).fdiv 65536)=_
  rw[wC _ j_,IntKind.wrap_u8]
  simp
 have h2:IntKind.u8.wrap ((k:Int).fdiv (2 ^ (min (Int.toNat 8) IntKind.i64.bits)))=((UInt8.ofNat (k / 256)).toNat:Int):=by
  show IntKind.u8.wrap ((k:Int).fdiv 256)=_
  rw[wC _ j_,IntKind.wrap_u8]
  simp
 have h3:=u8_of k
 rw[h1,h2,h3]
 rfl
theorem Ayb (k:Nat) (h:1≤k∧k≤16777215):Sq 345 [Aa k] [] (.tup [.osl 0,Aa 0]) [(0,.row 1 Ah (Qy k))]:=cT F345 Tryz.ntmps345 λ F hF=>by
 have hl:=Aue k
 conv=>whnf
 refine⟨λ h1=>yB (zK h1) q_,λ _=>?_⟩
 refine oO ?_
 refine⟨λ h1=>yB (zK h1) q_,λ _=>?_⟩
 refine oO ?_
 refine⟨by decide,?_⟩
 conv=>whnf
 refine⟨by decide,?_⟩
 conv=>whnf
 refine Iw 18 Ah (Qy k) E hl ?_
 exact done E (.cons .tmp (.cons .tmp .nil)) [(0,18)] [(0,.row 1 Ah (Qy k))] (λ _ h=>h) E E ⟨Y,⟨.inl E,E,Y⟩,E,E⟩
end Go.Sy.YtiijbikecbjdaaaGreatDoor
