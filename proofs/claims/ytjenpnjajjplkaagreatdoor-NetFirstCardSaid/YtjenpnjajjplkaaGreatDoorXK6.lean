/-
  I38 I40 I42 I43 I44 I45 Sy23 O1 O6 I46 I20 I21 NB0 NB1 NB2 E20 E22 E23 E24 NB14 NB15 NB3 NB4 I26 NB5 NB6: parts of a proof, joined by program.
-/
import Derived.Test.YtjenpnjajjplkaaGreatDoorXK4
import Derived.Test.YtjenpnjajjplkaaGreatDoorXK5
import Derived.Test.YtjenpnjajjplkaaGreatDoorXK2
import Derived.Test.YtjenpnjajjplkaaGreatDoorXK3
set_option linter.all false
set_option linter.unusedVariables false
set_option linter.unusedSimpArgs false
set_option linter.deprecated false
namespace Go.Sy.YtjenpnjajjplkaaGreatDoor
open Go.Proofs
attribute [local irreducible] Go.Sy.G Go.Sy.DR
set_option maxRecDepth 100000
set_option maxHeartbeats 4000000
def K1 (x:LineM):List Int:=[(x.dev.size:Int),(x.port.size:Int),(x.peer.size:Int),(x.far.size:Int),(x.name.size:Int),(x.tagged.length:Int),(x.imports.length:Int),(x.exports.length:Int),(x.addrs.length:Int)]
def I5:List Int→Int→Bool × Int
 | [],t=>(false,t)
 | x::r,t=>if 300<x then (true,0) else I5 r (t+x)
def I4:List LineM→Int→Bool
 | [],t=>decide (10000<t)
 | x::r,t=>if (I5 (K1 x) t).1=true then true else I4 r (I5 (K1 x) t).2
def linesGreat (l:List LineM):Bool:=if 400<l.length then true else I4 l 0
theorem Qy:∀ (l:List Int) (t:Int),(I5 l t).1=false→∀ x∈l,x≤300
 | [],_,_,_,hx=>by cases hx
 | y::r,t,h,x,hx=>by
  rw[I5]at h
  split at h
  ·cases h
  ·rcases List.mem_cons.1 hx with rfl | hx
   ·omega
   ·exact Qy r _ h x hx
theorem J0:∀ (l:List LineM) (t:Int),I4 l t=false→∀ x∈l,∀ y∈K1 x,y≤300
 | [],_,_,_,hx=>by cases hx
 | z::r,t,h,x,hx=>by
  rw[I4]at h
  split at h
  ·cases h
  ·rename_i h0
   rcases List.mem_cons.1 hx with rfl | hx
   ·exact Qy _ _ (by simpa using h0)
   ·exact J0 r _ h x hx
theorem Abb {l:List LineM} (h:linesGreat l=false):∀ x∈l,LineFin x:=by
 rw[linesGreat]at h
 split at h
 ·cases h
 ·intro x hx
  have:=J0 l 0 h x hx
  simp only[K1,List.forall_mem_cons]at this
  exact⟨by omega,by omega,by omega,by omega⟩
theorem Aa5 (x:LineM):∀ y∈K1 x,0≤y:=by
 simp only[K1,List.forall_mem_cons]
 refine⟨by omega,by omega,by omega,by omega,by omega,by omega,by omega,by omega,by omega,fun y hy=>by cases hy⟩
theorem Og (M:List LineM) (hl:M.length<1000000):Sy.Spec Tryz.prog 11 [.sl 17 Aj M] [] (Ab (linesGreat M)) []:=cT F11 Tryz.ntmps11 fun F hF=>by
 have hres:=linesGreat.eq_1 M
 generalize linesGreat M=res at *
 by_cases c0:400<M.length
 ·rw[if_pos c0]at hres
  have f0:decide ((M.length:Int)>400)=true:=decide_eq_true q_
  subst hres
  refine T ?_
  exact D
 rw[if_neg c0]at hres
 have f0:decide ((M.length:Int)>400)=false:=decide_eq_false q_
 refine T ?_
 refine B3 (fun x:Nat × Int=>res=I4 (M.drop x.1) x.2∧x.1≤M.length∧0≤x.2∧x.2≤2700 * x.1) (fun x=>[(0,.sl 17 Aj M),(3,Aa x.2),(4,Aa x.1)]) (fun _=>[]) (fun x=>M.length-x.1) (0,0) [] ⟨hres,by simp,by simp,by simp⟩ U ?_
 rintro ⟨j,t⟩ ⟨hI,hj,ht0,ht⟩
 dsimp only at hI hj ht0 ht ⊢
 refine T ?_
 refine⟨fun h2=>?_,fun h2=>?_⟩
 ·have hlt:j<M.length:=by have:=of_decide_eq_true h2;omega
  have hlt0:((j:Nat):Int).toNat<M.length:=hlt
  clear h2
  have hdr:M.drop j=M[((j:Nat):Int).toNat]'hlt0::M.drop (j+1):=List.drop_eq_getElem_cons hlt
  rw[hdr,I4]at hI
  refine T ?_
  refine Zk 70 Aa (K1 (M[((j:Nat):Int).toNat]'hlt0)) E E ?_
  refine Ag 70 E ?_
  have hps:=Aa5 (M[((j:Nat):Int).toNat]'hlt0)
  have hls:(K1 (M[((j:Nat):Int).toNat]'hlt0)).length=9:=rfl
  generalize K1 (M[((j:Nat):Int).toNat]'hlt0)=ls at *
  refine T ?_
  refine B3 (fun x:Nat × Int=>I5 ls t=I5 (ls.drop x.1) x.2∧x.1≤9∧0≤x.2∧x.2≤2700 * j+300 * x.1) (fun x=>[(0,.sl 17 Aj M),(3,Aa x.2),(4,Aa j),(70,.sl 1 Aa ls),(71,Aa 9),(72,Aa x.1)]) (fun _=>[]) (fun x=>9-x.1) (0,t) [] ⟨E,by simp,ht0,by dsimp only;omega⟩ U ?_
  rintro ⟨k,u⟩ ⟨hK,hk,hu0,hu⟩
  dsimp only at hK hk hu0 hu ⊢
  refine T ?_
  refine⟨fun h2=>?_,fun h2=>?_⟩
  ·have hkt:k<9:=by have:=of_decide_eq_true h2;omega
   have hkt0:((k:Nat):Int).toNat<ls.length:=by omega
   clear h2
   have hdk:ls.drop k=ls[((k:Nat):Int).toNat]'hkt0::ls.drop (k+1):=List.drop_eq_getElem_cons hkt0
   rw[hdk,I5]at hK
   have hp:=hps (ls[((k:Nat):Int).toNat]'hkt0) (List.getElem_mem _)
   by_cases c1:300<ls[((k:Nat):Int).toNat]'hkt0
   ·rw[if_pos c1]at hK
    rw[hK,if_pos rfl]at hI
    have f1:decide (ls[((k:Nat):Int).toNat]'hkt0>300)=true:=decide_eq_true q_
    subst hI
    refine T ?_
    exact D
   ·rw[if_neg c1]at hK
    have f1:decide (ls[((k:Nat):Int).toNat]'hkt0>300)=false:=decide_eq_false q_
    refine T ?_
    exact Az (k+1,u+ls[((k:Nat):Int).toNat]'hkt0) [] ⟨hK,hkt,by dsimp only;omega,by dsimp only;omega⟩ (by dsimp only;omega) U
  ·have hk9:k=9:=by have:=of_decide_eq_false h2;omega
   subst hk9
   clear h2
   rw[List.drop_eq_nil_of_le q_,I5]at hK
   rw[hK,if_neg y_]at hI
   refine T ?_
   exact Az (j+1,u) [] ⟨hI,hlt,hu0,by dsimp only;omega⟩ (by dsimp only;omega) U
 ·have hje:j=M.length:=by have:=of_decide_eq_false h2;omega
  subst hje
  clear h2
  rw[List.drop_length,I4]at hI
  subst hI
  refine T ?_
  exact D
end Go.Sy.YtjenpnjajjplkaaGreatDoor
namespace Go.Sy
open Go.ChangeShapes Go.WideShapes Go.ChangeAt Go.RowKit
section
variable {H:Type} (enc:TypeId × Value→H) (P:Program) (W:World)
def Op1 (t:TypeId) {α:Type} (e:α→SV) (p:α→Prop):Prop :=
 ∀ n c y,DataW.trod enc P W 0 (fun _=>true) true n t [c]=some y→∃ x,p x∧Rd κ0 W (e x) c∧c.oneCell'=true
def OpN (t:TypeId) {α:Type} (e:α→SV) (p:α→Prop) (sz:Nat):Prop :=
 ∀ n cs y,DataW.trod enc P W 0 (fun _=>true) true n t cs=some y→∃ x,p x∧cs.length=sz∧Ones cs∧RdL κ0 W (cellsOf (e x)) cs
variable {enc P W}
theorem Jw {t:TypeId} {k:IntKind} (ht:P.underlying t=some (.int k)):Op1 enc P W t (fun z=>.val (.int k z)) (fun z=>(Lit.int k z).wf=true):=fun n c y h=>by
 obtain ⟨z,e,_,hw⟩:=DataW.trod_int ht h
 have e:c=.int k z:=by simpa using e
 subst e
 exact⟨z,hw,by simp[Rd],E⟩
theorem Qn {t:TypeId} (ht:P.underlying t=some .string):Op1 enc P W t Ah (fun s=>s.size≤maxLen):=fun n c y h=>by
 obtain ⟨z,e,_,hw⟩:=DataW.trod_string ht h
 have e:c=.string z:=by simpa using e
 subst e
 exact⟨z,hw,by simp[Ah,Rd],E⟩
theorem Zq {t:TypeId} {k:IntKind} (ht:P.underlying t=some (.int k)):OpN enc P W t (fun z=>.val (.int k z)) (fun z=>(Lit.int k z).wf=true) 1:=fun n cs y h=>by
 obtain ⟨z,rfl,_,hw⟩:=DataW.trod_int ht h
 refine⟨z,hw,E,fun c hc=>by simp at hc;subst hc;rfl,?_⟩
 simp[cellsOf,RdL,Rd]
theorem T9 {base:Nat} {a:Addr} {n:Nat} {cs:List Value} (h:W.cells? base a n=some cs):cs.length=n∧∀ j (_:j<n),W.cell? (a.add j)=cs[j]?:=by
 unfold World.cells? at h
 split at h
 ·refine⟨by simpa using mapM_some_length h,fun j hj=>?_⟩
  exact mapM_some_get h j j (by simp[hj])
 ·cases h
theorem Qo {t et:TypeId} {α:Type} {e:α→SV} {p:α→Prop} {sz:Nat} (ht:P.underlying t=some (.slice et)) (hsz:P.cellsOf et=sz) (h0:0<sz) (hb:∀ x,(e x).boxed=true) (hd:∀ x,(e x).data=true) (hO:OpN enc P W et e p sz) :
  Op1 enc P W t (fun l:List α=>.sl sz e l) (fun l=>(∀ x∈l,p x)∧l.length≤maxLen):=fun n c y h=>by
 rcases DataW.trod_slice ht h with ⟨hcs,_⟩ | ⟨a,len,cap,elems,rest,m,rfl,hcs,_,_,hlc,hcm,hel,hget,_⟩
 ·have hc:c=.slice none 0 0:=by simpa using hcs
  subst hc
  refine⟨[],⟨by simp,Nat.zero_le _⟩,?_,E⟩
  simp only[Rd,RdD]
  exact .inl ⟨Y,none,0,E⟩
 ·have hc:c=.slice (some a) len cap:=by simpa using hcs
  subst hc
  rw[hsz]at hget
  have hall:∀ i:Fin len,∃ x,p x∧∃ cs,W.cells? 0 (a.add (i * sz)) sz=some cs∧cs.length=sz∧Ones cs∧RdL κ0 W (cellsOf (e x)) cs:=fun i=>by
   have h1:=hget i.1 i.2
   rw[List.getElem?_eq_getElem q_]at h1
   obtain ⟨cs,h2,h3⟩:=Option.bind_eq_some_iff.1 h1
   obtain ⟨x,h4,h5,h6,h7⟩:=hO _ _ _ h3
   exact⟨x,h4,cs,h2,h5,h6,h7⟩
  let xs:Fin len→α:=fun i=>Classical.choose (hall i)
  have hxs:∀ i,p (xs i)∧∃ cs,W.cells? 0 (a.add (i.1 * sz)) sz=some cs∧cs.length=sz∧Ones cs∧RdL κ0 W (cellsOf (e (xs i))) cs:=fun i=>Classical.choose_spec (hall i)
  refine⟨List.ofFn xs,⟨fun x hx=>?_,by simp;omega⟩,?_,E⟩
  ·obtain ⟨i,rfl⟩:=List.mem_ofFn.1 hx
   exact(hxs i).1
  ·simp only[Rd,RdD]
   by_cases hl:len=0
   ·subst hl
    exact .inl ⟨by simp,_,_,E⟩
   ·have hcell:∀ i:Fin len,∀ j,j<sz→∃ v,W.cell? ((a.add (i.1 * sz)).add j)=some v:=fun i j hj=>by
     obtain ⟨_,cs,h1,h2,_⟩:=hxs i
     have:=(T9 h1).2 j hj
     rw[List.getElem?_eq_getElem q_]at this
     exact⟨_,this⟩
    obtain ⟨b,off,spot⟩:=a
    have hspot:spot=none:=by
     obtain ⟨v,hv⟩:=hcell ⟨0,by omega⟩ 0 h0
     simpa [Addr.add] using World.cell?_spot hv
    subst hspot
    have hadd:∀ i j,((⟨b,off,none⟩:Addr).add i).add j=⟨b,off+i+j,none⟩:=fun i j=>by rw[Addr.add_lit,Addr.add_lit]
    refine .inr ⟨b,off,cap,by simp,by simpa using hlc,?_,?_,fun i hi=>?_⟩
    ·rintro (⟨k,hk⟩ | hk)
     ·cases hk
     ·exact hk
    ·obtain ⟨v,hv⟩:=hcell ⟨0,by omega⟩ 0 h0
     rw[hadd]at hv
     rcases Nat.lt_or_ge b W.heap.size with h | h
     ·exact h
     ·simp[World.cell?,Array.getElem?_eq_none h]at hv
    ·simp only[List.length_ofFn]at hi
     obtain ⟨_,cs,h1,h2,h3,h4⟩:=hxs ⟨i,hi⟩
     obtain ⟨u,g1,g2⟩:=Rd.of_cells (hb _) h3 h4
     refine⟨u,?_,?_,by rw[g2];exact h3,fun j hj=>?_⟩
     ·rw[List.getElem_ofFn]
      exact Rd.data _ _ (hd _) g1
     ·have:u.cells.toList.length=sz:=by rw[g2,h2]
      simpa using this
     ·have:=(T9 h1).2 j hj
      rw[hadd]at this
      rw[this,← g2]
      simp
end
end Go.Sy
namespace Go.Sy.YtjenpnjajjplkaaGreatDoor
open Go.Proofs Go.ChangeShapes Go.WideShapes Go.ChangeAt Go.RowKit
set_option maxRecDepth 100000
section
variable {H:Type} {enc:TypeId × Value→H} {W:World}
def wI (k:IntKind) (z:Int):Prop:=(Lit.int k z).wf=true
theorem Ur:Op1 enc Tryz.prog W 63 (fun l:List Int=>.sl 1 (fun z=>.val (.int .i64 z)) l) (fun l=>(∀ z∈l,wI .i64 z)∧l.length≤maxLen) :=
 Qo Tryz.underlying63 (by kernel_rfl:Tryz.prog.cellsOf 3=1) j_ (fun _=>rfl) (fun _=>rfl) (Zq Tryz.underlying3)
theorem Aeb:Op1 enc Tryz.prog W 64 (fun l:List Int=>.sl 1 (fun z=>.val (.int .u32 z)) l) (fun l=>(∀ z∈l,wI .u32 z)∧l.length≤maxLen) :=
 Qo Tryz.underlying64 (by kernel_rfl:Tryz.prog.cellsOf 62=1) j_ (fun _=>rfl) (fun _=>rfl) (Zq Tryz.underlying62)
def Device.In (x:Device):Prop:=wI .i64 x.row∧wI .i64 x.prio∧x.name.size≤maxLen∧wI .u64 x.mac∧wI .u32 x.vtep
def Port.In (x:Port):Prop:=wI .i64 x.row∧wI .i64 x.dev∧wI .i64 x.native∧wI .i64 x.cost∧wI .i64 x.link∧x.name.size≤maxLen∧((∀ z∈x.tagged,wI .i64 z)∧x.tagged.length≤maxLen)
def Link.In (x:Link):Prop:=wI .i64 x.row∧wI .i64 x.a∧wI .i64 x.b
def Domain.In (x:Domain):Prop:=wI .i64 x.dev∧wI .i64 x.vlan∧wI .i64 x.vni∧wI .i64 x.irb∧wI .i64 x.row∧((∀ z∈x.peers,wI .i64 z)∧x.peers.length≤maxLen)
def Static.In (x:Static):Prop:=wI .i64 x.row∧wI .i64 x.domain∧wI .i64 x.port∧wI .u64 x.mac
def Flood.In (x:Flood):Prop:=wI .i64 x.row∧wI .i64 x.dev∧wI .i64 x.vni∧((∀ z∈x.addrs,wI .u32 z)∧x.addrs.length≤maxLen)
def Vrf.In (x:Vrf):Prop:=wI .i64 x.row∧wI .i64 x.dev∧x.name.size≤maxLen∧((∀ z∈x.imports,wI .i64 z)∧x.imports.length≤maxLen)∧((∀ z∈x.exports,wI .i64 z)∧x.exports.length≤maxLen)
def Irb.In (x:Irb):Prop:=wI .i64 x.row∧wI .i64 x.domain∧wI .i64 x.vrf∧wI .u32 x.addr∧wI .i64 x.bits
structure Net.In (n:Net):Prop where
 devices:(∀ x∈n.devices,Device.In x)∧n.devices.length≤maxLen
 ports:(∀ x∈n.ports,Port.In x)∧n.ports.length≤maxLen
 links:(∀ x∈n.links,Link.In x)∧n.links.length≤maxLen
 domains:(∀ x∈n.domains,Domain.In x)∧n.domains.length≤maxLen
 statics:(∀ x∈n.statics,Static.In x)∧n.statics.length≤maxLen
 floods:(∀ x∈n.floods,Flood.In x)∧n.floods.length≤maxLen
 vrfs:(∀ x∈n.vrfs,Vrf.In x)∧n.vrfs.length≤maxLen
 irbs:(∀ x∈n.irbs,Irb.In x)∧n.irbs.length≤maxLen
theorem V2 {t et:TypeId} {α:Type} {e:α→SV} {p:List α→Prop} {sz base:Nat} {v:Value} {d:DataW H} {ps:List MemPlace} (ht:Tryz.prog.underlying t=some (.slice et)) (hO:Op1 enc Tryz.prog W t (fun l:List α=>.sl sz e l) p)
  (hval:Value.okWide Tryz.prog W .any base t v) (h1:DataW.Trod enc Tryz.prog W 0 (fun _=>true) true t v d ps):∃ l,p l∧Rd κ0 W (.sl sz e l) v:=by
 obtain ⟨a,len,cap,rfl⟩:=okWide_slice ht hval
 obtain ⟨fuel,hf⟩:=h1
 obtain ⟨x,h1,h2,_⟩:=hO _ _ _ hf
 exact⟨x,h1,h2⟩
end
end Go.Sy.YtjenpnjajjplkaaGreatDoor
namespace Go.Sy.YtjenpnjajjplkaaGreatDoor
open Go.Proofs Go.ChangeShapes Go.WideShapes Go.ChangeAt Go.RowKit
set_option maxRecDepth 100000
section
variable {H:Type} {enc:TypeId × Value→H} {W:World}
def LineM.In (x:LineM):Prop:=wI .i64 x.row∧wI .i64 x.kind∧x.dev.size≤maxLen∧x.port.size≤maxLen∧x.peer.size≤maxLen∧x.far.size≤maxLen∧x.name.size≤maxLen∧wI .u64 x.mac∧wI .u32 x.addr∧wI .i64 x.bits∧wI .i64 x.vlan∧wI .i64 x.num∧wI .i64 x.cost∧((∀ z∈x.tagged,wI .i64 z)∧x.tagged.length≤maxLen)∧((∀ z∈x.imports,wI .i64 z)∧x.imports.length≤maxLen)∧((∀ z∈x.exports,wI .i64 z)∧x.exports.length≤maxLen)∧((∀ z∈x.addrs,wI .u32 z)∧x.addrs.length≤maxLen)
theorem Aat:OpN enc Tryz.prog W 66 Aj LineM.In 17:=fun n cs y h=>by
 obtain ⟨xs,m,_,_,hlen,hx,hg⟩:=DataW.trod_struct Tryz.underlying66 h
 have hlen:cs.length=17:=hlen.trans (by kernel_rfl:Tryz.prog.cellsOf 66=17)
 have hx:xs.length=17:=hx
 match cs,hlen with
 | [c0,c1,c2,c3,c4,c5,c6,c7,c8,c9,c10,c11,c12,c13,c14,c15,c16],_ =>
  have g0:DataW.trod enc Tryz.prog W 0 (fun _=>true) true m 3 (([c0,c1,c2,c3,c4,c5,c6,c7,c8,c9,c10,c11,c12,c13,c14,c15,c16].drop 0).take (Tryz.prog.cellsOf 3))=xs[0]?:=hg 0 _ rfl
  rw[(by kernel_rfl:Tryz.prog.cellsOf 3=1),List.getElem?_eq_getElem q_]at g0
  obtain ⟨z0,p0,r0,o0⟩:=Jw Tryz.underlying3 _ _ _ g0
  have g1:DataW.trod enc Tryz.prog W 0 (fun _=>true) true m 3 (([c0,c1,c2,c3,c4,c5,c6,c7,c8,c9,c10,c11,c12,c13,c14,c15,c16].drop 1).take (Tryz.prog.cellsOf 3))=xs[1]?:=hg 1 _ rfl
  rw[(by kernel_rfl:Tryz.prog.cellsOf 3=1),List.getElem?_eq_getElem q_]at g1
  obtain ⟨z1,p1,r1,o1⟩:=Jw Tryz.underlying3 _ _ _ g1
  have g2:DataW.trod enc Tryz.prog W 0 (fun _=>true) true m 9 (([c0,c1,c2,c3,c4,c5,c6,c7,c8,c9,c10,c11,c12,c13,c14,c15,c16].drop 2).take (Tryz.prog.cellsOf 9))=xs[2]?:=hg 2 _ rfl
  rw[(by kernel_rfl:Tryz.prog.cellsOf 9=1),List.getElem?_eq_getElem q_]at g2
  obtain ⟨z2,p2,r2,o2⟩:=Qn Tryz.underlying9 _ _ _ g2
  have g3:DataW.trod enc Tryz.prog W 0 (fun _=>true) true m 9 (([c0,c1,c2,c3,c4,c5,c6,c7,c8,c9,c10,c11,c12,c13,c14,c15,c16].drop 3).take (Tryz.prog.cellsOf 9))=xs[3]?:=hg 3 _ rfl
  rw[(by kernel_rfl:Tryz.prog.cellsOf 9=1),List.getElem?_eq_getElem q_]at g3
  obtain ⟨z3,p3,r3,o3⟩:=Qn Tryz.underlying9 _ _ _ g3
  have g4:DataW.trod enc Tryz.prog W 0 (fun _=>true) true m 9 (([c0,c1,c2,c3,c4,c5,c6,c7,c8,c9,c10,c11,c12,c13,c14,c15,c16].drop 4).take (Tryz.prog.cellsOf 9))=xs[4]?:=hg 4 _ rfl
  rw[(by kernel_rfl:Tryz.prog.cellsOf 9=1),List.getElem?_eq_getElem q_]at g4
  obtain ⟨z4,p4,r4,o4⟩:=Qn Tryz.underlying9 _ _ _ g4
  have g5:DataW.trod enc Tryz.prog W 0 (fun _=>true) true m 9 (([c0,c1,c2,c3,c4,c5,c6,c7,c8,c9,c10,c11,c12,c13,c14,c15,c16].drop 5).take (Tryz.prog.cellsOf 9))=xs[5]?:=hg 5 _ rfl
  rw[(by kernel_rfl:Tryz.prog.cellsOf 9=1),List.getElem?_eq_getElem q_]at g5
  obtain ⟨z5,p5,r5,o5⟩:=Qn Tryz.underlying9 _ _ _ g5
  have g6:DataW.trod enc Tryz.prog W 0 (fun _=>true) true m 9 (([c0,c1,c2,c3,c4,c5,c6,c7,c8,c9,c10,c11,c12,c13,c14,c15,c16].drop 6).take (Tryz.prog.cellsOf 9))=xs[6]?:=hg 6 _ rfl
  rw[(by kernel_rfl:Tryz.prog.cellsOf 9=1),List.getElem?_eq_getElem q_]at g6
  obtain ⟨z6,p6,r6,o6⟩:=Qn Tryz.underlying9 _ _ _ g6
  have g7:DataW.trod enc Tryz.prog W 0 (fun _=>true) true m 61 (([c0,c1,c2,c3,c4,c5,c6,c7,c8,c9,c10,c11,c12,c13,c14,c15,c16].drop 7).take (Tryz.prog.cellsOf 61))=xs[7]?:=hg 7 _ rfl
  rw[(by kernel_rfl:Tryz.prog.cellsOf 61=1),List.getElem?_eq_getElem q_]at g7
  obtain ⟨z7,p7,r7,o7⟩:=Jw Tryz.underlying61 _ _ _ g7
  have g8:DataW.trod enc Tryz.prog W 0 (fun _=>true) true m 62 (([c0,c1,c2,c3,c4,c5,c6,c7,c8,c9,c10,c11,c12,c13,c14,c15,c16].drop 8).take (Tryz.prog.cellsOf 62))=xs[8]?:=hg 8 _ rfl
  rw[(by kernel_rfl:Tryz.prog.cellsOf 62=1),List.getElem?_eq_getElem q_]at g8
  obtain ⟨z8,p8,r8,o8⟩:=Jw Tryz.underlying62 _ _ _ g8
  have g9:DataW.trod enc Tryz.prog W 0 (fun _=>true) true m 3 (([c0,c1,c2,c3,c4,c5,c6,c7,c8,c9,c10,c11,c12,c13,c14,c15,c16].drop 9).take (Tryz.prog.cellsOf 3))=xs[9]?:=hg 9 _ rfl
  rw[(by kernel_rfl:Tryz.prog.cellsOf 3=1),List.getElem?_eq_getElem q_]at g9
  obtain ⟨z9,p9,r9,o9⟩:=Jw Tryz.underlying3 _ _ _ g9
  have g10:DataW.trod enc Tryz.prog W 0 (fun _=>true) true m 3 (([c0,c1,c2,c3,c4,c5,c6,c7,c8,c9,c10,c11,c12,c13,c14,c15,c16].drop 10).take (Tryz.prog.cellsOf 3))=xs[10]?:=hg 10 _ rfl
  rw[(by kernel_rfl:Tryz.prog.cellsOf 3=1),List.getElem?_eq_getElem q_]at g10
  obtain ⟨z10,p10,r10,o10⟩:=Jw Tryz.underlying3 _ _ _ g10
  have g11:DataW.trod enc Tryz.prog W 0 (fun _=>true) true m 3 (([c0,c1,c2,c3,c4,c5,c6,c7,c8,c9,c10,c11,c12,c13,c14,c15,c16].drop 11).take (Tryz.prog.cellsOf 3))=xs[11]?:=hg 11 _ rfl
  rw[(by kernel_rfl:Tryz.prog.cellsOf 3=1),List.getElem?_eq_getElem q_]at g11
  obtain ⟨z11,p11,r11,o11⟩:=Jw Tryz.underlying3 _ _ _ g11
  have g12:DataW.trod enc Tryz.prog W 0 (fun _=>true) true m 3 (([c0,c1,c2,c3,c4,c5,c6,c7,c8,c9,c10,c11,c12,c13,c14,c15,c16].drop 12).take (Tryz.prog.cellsOf 3))=xs[12]?:=hg 12 _ rfl
  rw[(by kernel_rfl:Tryz.prog.cellsOf 3=1),List.getElem?_eq_getElem q_]at g12
  obtain ⟨z12,p12,r12,o12⟩:=Jw Tryz.underlying3 _ _ _ g12
  have g13:DataW.trod enc Tryz.prog W 0 (fun _=>true) true m 63 (([c0,c1,c2,c3,c4,c5,c6,c7,c8,c9,c10,c11,c12,c13,c14,c15,c16].drop 13).take (Tryz.prog.cellsOf 63))=xs[13]?:=hg 13 _ rfl
  rw[(by kernel_rfl:Tryz.prog.cellsOf 63=1),List.getElem?_eq_getElem q_]at g13
  obtain ⟨z13,p13,r13,o13⟩:=Ur _ _ _ g13
  have g14:DataW.trod enc Tryz.prog W 0 (fun _=>true) true m 63 (([c0,c1,c2,c3,c4,c5,c6,c7,c8,c9,c10,c11,c12,c13,c14,c15,c16].drop 14).take (Tryz.prog.cellsOf 63))=xs[14]?:=hg 14 _ rfl
  rw[(by kernel_rfl:Tryz.prog.cellsOf 63=1),List.getElem?_eq_getElem q_]at g14
  obtain ⟨z14,p14,r14,o14⟩:=Ur _ _ _ g14
  have g15:DataW.trod enc Tryz.prog W 0 (fun _=>true) true m 63 (([c0,c1,c2,c3,c4,c5,c6,c7,c8,c9,c10,c11,c12,c13,c14,c15,c16].drop 15).take (Tryz.prog.cellsOf 63))=xs[15]?:=hg 15 _ rfl
  rw[(by kernel_rfl:Tryz.prog.cellsOf 63=1),List.getElem?_eq_getElem q_]at g15
  obtain ⟨z15,p15,r15,o15⟩:=Ur _ _ _ g15
  have g16:DataW.trod enc Tryz.prog W 0 (fun _=>true) true m 64 (([c0,c1,c2,c3,c4,c5,c6,c7,c8,c9,c10,c11,c12,c13,c14,c15,c16].drop 16).take (Tryz.prog.cellsOf 64))=xs[16]?:=hg 16 _ rfl
  rw[(by kernel_rfl:Tryz.prog.cellsOf 64=1),List.getElem?_eq_getElem q_]at g16
  obtain ⟨z16,p16,r16,o16⟩:=Aeb _ _ _ g16
  refine⟨⟨z0,z1,z2,z3,z4,z5,z6,z7,z8,z9,z10,z11,z12,z13,z14,z15,z16⟩,⟨p0,p1,p2,p3,p4,p5,p6,p7,p8,p9,p10,p11,p12,p13,p14,p15,p16⟩,E,fun c hc=>?_,?_⟩
  ·simp only[List.mem_cons,List.not_mem_nil,or_false]at hc
   rcases hc with rfl | rfl | rfl | rfl | rfl | rfl | rfl | rfl | rfl | rfl | rfl | rfl | rfl | rfl | rfl | rfl | rfl<;>assumption
  ·simp only[Aj,cellsOf,RdL]
   exact⟨_,_,E,r0,_,_,E,r1,_,_,E,r2,_,_,E,r3,_,_,E,r4,_,_,E,r5,_,_,E,r6,_,_,E,r7,_,_,E,r8,_,_,E,r9,_,_,E,r10,_,_,E,r11,_,_,E,r12,_,_,E,r13,_,_,E,r14,_,_,E,r15,_,_,E,r16,E⟩
theorem V7:Op1 enc Tryz.prog W 22 (fun l:List LineM=>.sl 17 Aj l) (fun l=>(∀ x∈l,LineM.In x)∧l.length≤maxLen) :=
 Qo Tryz.underlying22 (by kernel_rfl:Tryz.prog.cellsOf 66=17) j_ (fun _=>rfl) (fun _=>rfl) Aat
end
end Go.Sy.YtjenpnjajjplkaaGreatDoor
namespace Go.Sy.YtjenpnjajjplkaaGreatDoor
open Go.Proofs
theorem Zv {l:LineM} (h:LineM.In l):LineOK l:=by
 obtain ⟨_,_,_,_,_,_,_,h8,h9,_,_,_,_,_,_,_,h17⟩:=h
 refine⟨?_,?_,fun x hx=>?_⟩
 ·simp only[wI,Lit.wf,decide_eq_true_eq,Bool.and_eq_true]at h8
  exact⟨h8.1,Int.lt_of_le_of_lt h8.2 j_⟩
 ·simp only[wI,Lit.wf,decide_eq_true_eq,Bool.and_eq_true]at h9
  exact⟨h9.1,Int.lt_of_le_of_lt h9.2 j_⟩
 ·have h1:=h17.1 x hx
  simp only[wI,Lit.wf,decide_eq_true_eq,Bool.and_eq_true]at h1
  exact⟨h1.1,Int.lt_of_le_of_lt h1.2 j_⟩
def emptyN:Net:=⟨[],[],[],[],[],[],[],[]⟩
def fitsB (n:Net) (l:LineM) (k:Int):Bool:=l.kind == k && (Bk l && Af n)
def Bi (n:Net) (s:ByteArray):Int:=Br (fun d:Device=>d.name == s) n.devices
def La (n:Net) (dev:Int) (s:ByteArray):Int:=Br (fun p:Port=>p.dev == dev && p.name == s) n.ports
def Uf (n:Net) (dev:Int) (s:ByteArray):Int:=Br (fun v:Vrf=>v.dev == dev && v.name == s) n.vrfs
def putDevice (n:Net) (l:LineM):Net × Int :=
 if fitsB n l 1=false then (emptyN,2) else if n.devices.any (fun d=>d.name == l.dev || d.mac == l.mac)=true then (emptyN,30) else if n.devices.length=8 then (emptyN,3)
 else ({ n with devices:=n.devices++[⟨l.row,l.num,l.dev,l.mac,0⟩] },0)
def Bm (dev:Int) (ds:List Domain) (v:Int):List Domain:=if 0<v∧ds.any (fun d=>d.dev == dev && d.vlan == v)=false then ds++[⟨dev,v,0,-1,0,[]⟩] else ds
def At (dev:Int) (ds:List Domain) (l:List Int):List Domain:=l.foldl (Bm dev) ds
def putPort (n:Net) (l:LineM):Net × Int :=
 if fitsB n l 2=false then (emptyN,2) else if Bi n l.dev<0 then (emptyN,31) else if 0≤La n (Bi n l.dev) l.port then (emptyN,30) else if n.ports.length=40 then (emptyN,3)
 else if 48<(At (Bi n l.dev) n.domains (l.vlan::l.tagged)).length then (emptyN,3)
 else ({ n with ports:=n.ports++[⟨l.row,Bi n l.dev,l.vlan,l.cost,-1,l.port,l.tagged⟩],domains:=At (Bi n l.dev) n.domains (l.vlan::l.tagged) },0)
def endI (n:Net) (dev port:ByteArray):Int:=if Bi n dev<0 then -1 else La n (Bi n dev) port
def Df (l:List Port) (i k:Int):List Port:=l.set i.toNat { nth l i with link:=k }
def putLink (n:Net) (l:LineM):Net × Int :=
 if fitsB n l 3=false then (emptyN,2) else
 let a:=endI n l.dev l.port
 let b:=endI n l.peer l.far
 if a<0∨b<0 then (emptyN,31) else if (nth n.ports a).dev=(nth n.ports b).dev∨0≤(nth n.ports a).link∨0≤(nth n.ports b).link then (emptyN,33) else if n.links.length=20 then (emptyN,3)
 else ({ n with ports:=Df (Df n.ports a n.links.length) b n.links.length,links:=n.links++[⟨l.row,a,b⟩] },0)
def Vc (n:Net) (d mac:Int):Int:=Br (fun s:Static=>s.domain == d && s.mac == mac) n.statics
def putStatic (n:Net) (l:LineM):Net × Int :=
 if fitsB n l 4=false then (emptyN,2) else
 let dev:=Bi n l.dev
 let port:=La n dev l.port
 let dom:=B7 n dev l.vlan
 if dev<0∨port<0 then (emptyN,31) else if dom<0∨Cs (nth n.ports port) l.vlan=false then (emptyN,32) else if 0≤Vc n dom l.mac then (emptyN,30) else if n.statics.length=64 then (emptyN,3)
 else ({ n with statics:=n.statics++[⟨l.row,dom,port,l.mac⟩] },0)
def C5 (n:Net) (a:Int):Int:=Br (fun d:Device=>d.vtep == a) n.devices
def Ji (n:Net) (dev vni:Int):Int:=Br (fun d:Domain=>d.dev == dev && (d.vni == vni && vni != 0)) n.domains
def Em (n:Net) (dev vni:Int):Int:=Br (fun f:Flood=>f.dev == dev && f.vni == vni) n.floods
def begT (n:Net) (l:LineM) (k:Int):Int × Int:=if fitsB n l k=false then (0,2) else if Bi n l.dev<0 then (0,31) else (Bi n l.dev,0)
def Ul (l:List Device) (i a:Int):List Device:=l.set i.toNat { nth l i with vtep:=a }
def putVtep (n:Net) (l:LineM):Net × Int :=
 if (begT n l 5).2≠0 then (emptyN,(begT n l 5).2) else
 let dev:=(begT n l 5).1
 if (nth n.devices dev).vtep≠0∨0≤C5 n l.addr then (emptyN,30) else ({ n with devices:=Ul n.devices dev l.addr },0)
def putVni (n:Net) (l:LineM):Net × Int :=
 if (begT n l 6).2≠0 then (emptyN,(begT n l 6).2) else
 let dev:=(begT n l 6).1
 let at_:=B7 n dev l.vlan
 if (nth n.devices dev).vtep=0 then (emptyN,35) else if at_<0 then (emptyN,32) else if (nth n.domains at_).vni≠0∨0≤Ji n dev l.num then (emptyN,30)
 else ({ n with domains:=n.domains.set at_.toNat { nth n.domains at_ with vni:=l.num,row:=l.row } },0)
def putFlood (n:Net) (l:LineM):Net × Int :=
 if (begT n l 7).2≠0 then (emptyN,(begT n l 7).2) else
 let dev:=(begT n l 7).1
 if Ji n dev l.num<0 then (emptyN,31) else if 0≤Em n dev l.num then (emptyN,30) else if inB l.addrs (nth n.devices dev).vtep=true then (emptyN,36) else if n.floods.length=48 then (emptyN,3)
 else ({ n with floods:=n.floods++[⟨l.row,dev,l.num,l.addrs⟩] },0)
def putVrf (n:Net) (l:LineM):Net × Int :=
 if (begT n l 8).2≠0 then (emptyN,(begT n l 8).2) else
 let dev:=(begT n l 8).1
 if 0≤Uf n dev l.name then (emptyN,30) else if n.vrfs.length=16 then (emptyN,3)
 else ({ n with vrfs:=n.vrfs++[⟨l.row,dev,l.name,l.imports,l.exports⟩] },0)
def Mo (a bits x:Int):Bool:=decide (0≤bits) && (decide (bits≤32) && Ig a bits == Ig x bits)
def clashB (n:Net) (dev a bits:Int) (x:Irb):Bool:=x.addr == a || ((nth n.vrfs x.vrf).dev != dev && (Mo x.addr x.bits a || Mo a bits x.addr))
def putIrb (n:Net) (l:LineM):Net × Int :=
 if (begT n l 9).2≠0 then (emptyN,(begT n l 9).2) else
 let dev:=(begT n l 9).1
 let vrf:=Uf n dev l.name
 let at_:=B7 n dev l.vlan
 if vrf<0 then (emptyN,31) else if at_<0 then (emptyN,32) else if 0≤(nth n.domains at_).irb∨n.irbs.any (clashB n dev l.addr l.bits)=true then (emptyN,37)
 else ({ n with domains:=n.domains.set at_.toNat { nth n.domains at_ with irb:=n.irbs.length },irbs:=n.irbs++[⟨l.row,at_,vrf,l.addr,l.bits⟩] },0)
def putT (n:Net) (l:LineM):Net × Int :=
 if l.kind=1 then putDevice n l else if l.kind=2 then putPort n l else if l.kind=3 then putLink n l else if l.kind=4 then putStatic n l else if l.kind=5 then putVtep n l
 else if l.kind=6 then putVni n l else if l.kind=7 then putFlood n l else if l.kind=8 then putVrf n l else if l.kind=9 then putIrb n l else (emptyN,2)
def agreeA (n:Net) (f:Flood) (a:Int):Bool :=
 let dev:=C5 n a
 decide (0≤dev) && (a != 0 && (decide (0≤Ji n dev f.vni) && (decide (0≤Em n dev f.vni) &&
  (inB (nth n.floods (Em n dev f.vni)).addrs (nth n.devices f.dev).vtep && f.addrs.all fun b=>b == a || inB (nth n.floods (Em n dev f.vni)).addrs b))))
def agreesB (n:Net) (f:Flood):Bool:=decide (0≤Ji n f.dev f.vni) && f.addrs.all (agreeA n f)
def peersT (n:Net) (d:Domain):List Int:=if d.vni≠0∧0≤Em n d.dev d.vni then (nth n.floods (Em n d.dev d.vni)).addrs.map (fun a=>Ji n (C5 n a) d.vni) else []
def Eu (n:Net):Net:={ n with domains:=n.domains.map fun d=>{ d with peers:=peersT n d } }
def meshNT (n:Net):Net × Int × Int :=
 if Af n=false then (emptyN,0,2) else match n.floods.find? (fun f=>!(agreesB n f)) with
 | some f=>(emptyN,f.row,36)
 | none=>if Af (Eu n)=false then (emptyN,0,36) else (Eu n,0,0)
def B0 (f:List Int):Prop:=∀ i (h:i<f.length),0≤f[i]∧f[i]≤i
def Vt:Nat→List Int→Int→List Int × Int
 | 0,f,i=>(f,i)
 | k+1,f,i=>if nth f i=i then (f,i) else Vt k (f.set i.toNat (nth f (nth f i))) (nth f (nth f i))
def E7 (f:List Int) (i:Int):List Int × Int:=Vt (i.toNat+1) f i
def K2 (f:List Int) (a b:Int):List Int × Bool :=
 let x:=E7 f a
 let y:=E7 x.1 b
 (y.1.set (max x.2 y.2).toNat (min x.2 y.2),x.2 != y.2)
def Hv (k:Nat):List Int:=(List.range k).map fun i:Nat=>(i:Int)
def B9 (n:Net) (f:List Int) (i:Int) (v:Int):List Int:=if (linkDomT n i v).2=true then (K2 f (B7 n (nth n.ports i).dev v) (linkDomT n i v).1).1 else f
def Dy (n:Net) (f:List Int) (i:Nat):List Int:=((nth n.ports i).tagged++[(nth n.ports i).native]).foldl (fun f v=>B9 n f i v) f
def Kf (n:Net) (f:List Int):List Int:=(List.range n.ports.length).foldl (Dy n) f
def S6:Int→List Int→Int
 | m,[]=>m
 | m,x::l=>S6 (min m x) l
def Wh (l:List Int):Int:=S6 (nth l 0) (l.drop 1)
def Mu (n:Net):List Int→Nat→List Domain→Int × Bool
 | _,_,[]=>(0,false)
 | f,i,d::r=>if d.peers=[] then Mu n f (i+1) r else
  let x:=K2 f i ((n.domains.length:Int)+min (i:Int) (Wh d.peers))
  if x.2=false then (d.row,true) else Mu n x.1 (i+1) r
def loopT (n:Net):Int × Bool:=if Af n=false then (0,false) else Mu n (Kf n (Hv (2 * n.domains.length))) 0 n.domains
def finishT (n:Net):Net × Int × Int:=if (meshNT n).2.2≠0 then meshNT n else if (loopT (meshNT n).1).2=true then (emptyN,(loopT (meshNT n).1).1,38) else ((meshNT n).1,0,0)
def Cm:Net→List LineM→Net × Int × Int
 | n,[]=>finishT n
 | n,l::r=>if (putT n l).2≠0 then (emptyN,l.row,(putT n l).2) else Cm (putT n l).1 r
def Bu (l:List LineM):Net × Int × Int:=Cm emptyN l
def netTextT (b:List UInt8):Net × Int × Int:=if (textT b).2.2≠0 then (emptyN,(textT b).2.1,(textT b).2.2) else Bu (textT b).1
end Go.Sy.YtjenpnjajjplkaaGreatDoor
namespace Go.Sy.YtjenpnjajjplkaaGreatDoor
open Go.Proofs
attribute [local irreducible] Go.Sy.G Go.Sy.DR
set_option maxRecDepth 100000
set_option maxHeartbeats 4000000
theorem Tg (l:List Device) (hl:l.length<2147483648):Sy.Spec Tryz.prog 151 [.sl 5 Au l] [] (.osl 0) [(0,.row 5 Au l)]:=cT F151 Tryz.ntmps151 fun F hF=>by
 ((conv=>whnf);repeat((first|refine aF ?_|refine aT ?_);(first|refine rG Γ hm ?_|refine rD Γ hm z_ ?_);conv=>whnf))
 refine D8 E (.inl E) E E E .sl E E ?_
 intro b hb
 cases b
 ·((first|refine rG Γ hm ?_|refine rD Γ hm z_ ?_);(conv=>whnf);repeat((first|refine aF ?_|refine aT ?_);(first|refine rG Γ hm ?_|refine rD Γ hm z_ ?_);conv=>whnf))
  refine Cg (Ak Γ.toTy 7 E E E E E (.lit (e:=Au) (l:=[]) E E) .sl y_ (by simp;omega) (by simp;omega)) E E ?_
  ((first|refine rG Γ hm ?_|refine rD Γ hm z_ ?_);(conv=>whnf);repeat((first|refine aF ?_|refine aT ?_);(first|refine rG Γ hm ?_|refine rD Γ hm z_ ?_);conv=>whnf))
  exact done E (.cons .tmp .nil) [(0,7)] [(0,.row 5 Au l)] (fun _ h=>h) E E ⟨Y,⟨.inl E,E,Y⟩,E,E⟩
 ·have h0:l=[]:=List.eq_nil_of_length_eq_zero (hb rfl)
  subst h0
  ((first|refine rG Γ hm ?_|refine rD Γ hm z_ ?_);(conv=>whnf);repeat((first|refine aF ?_|refine aT ?_);(first|refine rG Γ hm ?_|refine rD Γ hm z_ ?_);conv=>whnf))
  refine C3 2 1000 5 Au E E ?_
  exact done E (.cons .tmp .nil) [(0,1000)] [(0,.row 5 Au [])] (fun _ h=>h) E E ⟨Y,⟨.inl E,E,Y⟩,E,E⟩
theorem W8 (l:List Link) (hl:l.length<2147483648):Sy.Spec Tryz.prog 153 [.sl 3 Bt l] [] (.osl 0) [(0,.row 3 Bt l)]:=cT F153 Tryz.ntmps153 fun F hF=>by
 ((conv=>whnf);repeat((first|refine aF ?_|refine aT ?_);(first|refine rG Γ hm ?_|refine rD Γ hm z_ ?_);conv=>whnf))
 refine D8 E (.inl E) E E E .sl E E ?_
 intro b hb
 cases b
 ·((first|refine rG Γ hm ?_|refine rD Γ hm z_ ?_);(conv=>whnf);repeat((first|refine aF ?_|refine aT ?_);(first|refine rG Γ hm ?_|refine rD Γ hm z_ ?_);conv=>whnf))
  refine Cg (Ak Γ.toTy 7 E E E E E (.lit (e:=Bt) (l:=[]) E E) .sl y_ (by simp;omega) (by simp;omega)) E E ?_
  ((first|refine rG Γ hm ?_|refine rD Γ hm z_ ?_);(conv=>whnf);repeat((first|refine aF ?_|refine aT ?_);(first|refine rG Γ hm ?_|refine rD Γ hm z_ ?_);conv=>whnf))
  exact done E (.cons .tmp .nil) [(0,7)] [(0,.row 3 Bt l)] (fun _ h=>h) E E ⟨Y,⟨.inl E,E,Y⟩,E,E⟩
 ·have h0:l=[]:=List.eq_nil_of_length_eq_zero (hb rfl)
  subst h0
  ((first|refine rG Γ hm ?_|refine rD Γ hm z_ ?_);(conv=>whnf);repeat((first|refine aF ?_|refine aT ?_);(first|refine rG Γ hm ?_|refine rD Γ hm z_ ?_);conv=>whnf))
  refine C3 2 1000 3 Bt E E ?_
  exact done E (.cons .tmp .nil) [(0,1000)] [(0,.row 3 Bt [])] (fun _ h=>h) E E ⟨Y,⟨.inl E,E,Y⟩,E,E⟩
theorem Tf (l:List Static) (hl:l.length<2147483648):Sy.Spec Tryz.prog 155 [.sl 4 A1 l] [] (.osl 0) [(0,.row 4 A1 l)]:=cT F155 Tryz.ntmps155 fun F hF=>by
 ((conv=>whnf);repeat((first|refine aF ?_|refine aT ?_);(first|refine rG Γ hm ?_|refine rD Γ hm z_ ?_);conv=>whnf))
 refine D8 E (.inl E) E E E .sl E E ?_
 intro b hb
 cases b
 ·((first|refine rG Γ hm ?_|refine rD Γ hm z_ ?_);(conv=>whnf);repeat((first|refine aF ?_|refine aT ?_);(first|refine rG Γ hm ?_|refine rD Γ hm z_ ?_);conv=>whnf))
  refine Cg (Ak Γ.toTy 7 E E E E E (.lit (e:=A1) (l:=[]) E E) .sl y_ (by simp;omega) (by simp;omega)) E E ?_
  ((first|refine rG Γ hm ?_|refine rD Γ hm z_ ?_);(conv=>whnf);repeat((first|refine aF ?_|refine aT ?_);(first|refine rG Γ hm ?_|refine rD Γ hm z_ ?_);conv=>whnf))
  exact done E (.cons .tmp .nil) [(0,7)] [(0,.row 4 A1 l)] (fun _ h=>h) E E ⟨Y,⟨.inl E,E,Y⟩,E,E⟩
 ·have h0:l=[]:=List.eq_nil_of_length_eq_zero (hb rfl)
  subst h0
  ((first|refine rG Γ hm ?_|refine rD Γ hm z_ ?_);(conv=>whnf);repeat((first|refine aF ?_|refine aT ?_);(first|refine rG Γ hm ?_|refine rD Γ hm z_ ?_);conv=>whnf))
  refine C3 2 1000 4 A1 E E ?_
  exact done E (.cons .tmp .nil) [(0,1000)] [(0,.row 4 A1 [])] (fun _ h=>h) E E ⟨Y,⟨.inl E,E,Y⟩,E,E⟩
theorem Zc (l:List Irb) (hl:l.length<2147483648):Sy.Spec Tryz.prog 158 [.sl 5 By l] [] (.osl 0) [(0,.row 5 By l)]:=cT F158 Tryz.ntmps158 fun F hF=>by
 ((conv=>whnf);repeat((first|refine aF ?_|refine aT ?_);(first|refine rG Γ hm ?_|refine rD Γ hm z_ ?_);conv=>whnf))
 refine D8 E (.inl E) E E E .sl E E ?_
 intro b hb
 cases b
 ·((first|refine rG Γ hm ?_|refine rD Γ hm z_ ?_);(conv=>whnf);repeat((first|refine aF ?_|refine aT ?_);(first|refine rG Γ hm ?_|refine rD Γ hm z_ ?_);conv=>whnf))
  refine Cg (Ak Γ.toTy 7 E E E E E (.lit (e:=By) (l:=[]) E E) .sl y_ (by simp;omega) (by simp;omega)) E E ?_
  ((first|refine rG Γ hm ?_|refine rD Γ hm z_ ?_);(conv=>whnf);repeat((first|refine aF ?_|refine aT ?_);(first|refine rG Γ hm ?_|refine rD Γ hm z_ ?_);conv=>whnf))
  exact done E (.cons .tmp .nil) [(0,7)] [(0,.row 5 By l)] (fun _ h=>h) E E ⟨Y,⟨.inl E,E,Y⟩,E,E⟩
 ·have h0:l=[]:=List.eq_nil_of_length_eq_zero (hb rfl)
  subst h0
  ((first|refine rG Γ hm ?_|refine rD Γ hm z_ ?_);(conv=>whnf);repeat((first|refine aF ?_|refine aT ?_);(first|refine rG Γ hm ?_|refine rD Γ hm z_ ?_);conv=>whnf))
  refine C3 2 1000 5 By E E ?_
  exact done E (.cons .tmp .nil) [(0,1000)] [(0,.row 5 By [])] (fun _ h=>h) E E ⟨Y,⟨.inl E,E,Y⟩,E,E⟩
theorem Jc (n:Net) (hn:n.Fin) :
  Sy.Spec Tryz.prog 61 [Ao n] [] (.agg [.osl 0,.osl 1,.osl 2,.osl 3,.osl 4,.osl 5,.osl 6,.osl 7]) [(0,.row 5 Au n.devices),(1,.row 7 A2 n.ports),(2,.row 3 Bt n.links),(3,.row 6 Ai n.domains),(4,.row 4 A1 n.statics),(5,.row 4 A3 n.floods),(6,.row 5 Bz n.vrfs),(7,.row 5 By n.irbs)]:=cT F61 Tryz.ntmps61 fun F hF=>by
 have h1:n.devices.length<2147483648∧n.ports.length<2147483648∧n.links.length<2147483648∧n.domains.length<2147483648∧n.statics.length<2147483648∧n.floods.length<2147483648∧n.vrfs.length<2147483648∧n.irbs.length<2147483648:=⟨hn.devices,hn.ports,hn.links,hn.domains,hn.statics,hn.floods,hn.vrfs,hn.irbs⟩
 have h2:(∀ p∈n.ports,p.tagged.length<2147483648)∧(∀ p∈n.domains,p.peers.length<2147483648)∧(∀ p∈n.floods,p.addrs.length<2147483648)∧(∀ p∈n.vrfs,p.imports.length<2147483648∧p.exports.length<2147483648):=⟨hn.tagged,hn.peers,hn.addrs,fun v hv=>⟨hn.imports v hv,hn.exports v hv⟩⟩
 ((conv=>whnf);repeat((first|refine aF ?_|refine aT ?_);(first|refine rG Γ hm ?_|refine rD Γ hm z_ ?_);conv=>whnf))
 refine H2 (Ac [(0,11)] E F151 (Tg n.devices h1.1) E Y E ⟨.inr E,Y⟩) z_ E ?_
 ((first|refine rG Γ hm ?_|refine rD Γ hm z_ ?_);(conv=>whnf);repeat((first|refine aF ?_|refine aT ?_);(first|refine rG Γ hm ?_|refine rD Γ hm z_ ?_);conv=>whnf))
 refine H2 (Ac [(0,14)] E F152 (Zb n.ports h1.2.1) E Y E ⟨.inr E,Y⟩) z_ E ?_
 ((first|refine rG Γ hm ?_|refine rD Γ hm z_ ?_);(conv=>whnf);repeat((first|refine aF ?_|refine aT ?_);(first|refine rG Γ hm ?_|refine rD Γ hm z_ ?_);conv=>whnf))
 refine H2 (Ac [(0,17)] E F153 (W8 n.links h1.2.2.1) E Y E ⟨.inr E,Y⟩) z_ E ?_
 ((first|refine rG Γ hm ?_|refine rD Γ hm z_ ?_);(conv=>whnf);repeat((first|refine aF ?_|refine aT ?_);(first|refine rG Γ hm ?_|refine rD Γ hm z_ ?_);conv=>whnf))
 refine H2 (Ac [(0,20)] E F154 (Vi n.domains h1.2.2.2.1) E Y E ⟨.inr E,Y⟩) z_ E ?_
 ((first|refine rG Γ hm ?_|refine rD Γ hm z_ ?_);(conv=>whnf);repeat((first|refine aF ?_|refine aT ?_);(first|refine rG Γ hm ?_|refine rD Γ hm z_ ?_);conv=>whnf))
 refine H2 (Ac [(0,23)] E F155 (Tf n.statics h1.2.2.2.2.1) E Y E ⟨.inr E,Y⟩) z_ E ?_
 ((first|refine rG Γ hm ?_|refine rD Γ hm z_ ?_);(conv=>whnf);repeat((first|refine aF ?_|refine aT ?_);(first|refine rG Γ hm ?_|refine rD Γ hm z_ ?_);conv=>whnf))
 refine H2 (Ac [(0,26)] E F156 (W9 n.floods h1.2.2.2.2.2.1) E Y E ⟨.inr E,Y⟩) z_ E ?_
 ((first|refine rG Γ hm ?_|refine rD Γ hm z_ ?_);(conv=>whnf);repeat((first|refine aF ?_|refine aT ?_);(first|refine rG Γ hm ?_|refine rD Γ hm z_ ?_);conv=>whnf))
 refine H2 (Ac [(0,29)] E F157 (Abh n.vrfs h1.2.2.2.2.2.2.1) E Y E ⟨.inr E,Y⟩) z_ E ?_
 ((first|refine rG Γ hm ?_|refine rD Γ hm z_ ?_);(conv=>whnf);repeat((first|refine aF ?_|refine aT ?_);(first|refine rG Γ hm ?_|refine rD Γ hm z_ ?_);conv=>whnf))
 refine H2 (Ac [(0,32)] E F158 (Zc n.irbs h1.2.2.2.2.2.2.2) E Y E ⟨.inr E,Y⟩) z_ E ?_
 ((first|refine rG Γ hm ?_|refine rD Γ hm z_ ?_);(conv=>whnf);repeat((first|refine aF ?_|refine aT ?_);(first|refine rG Γ hm ?_|refine rD Γ hm z_ ?_);conv=>whnf))
 refine⟨z_,?_⟩
 ((conv=>whnf);repeat((first|refine aF ?_|refine aT ?_);(first|refine rG Γ hm ?_|refine rD Γ hm z_ ?_);conv=>whnf))
 refine Ev n.ports.length (fun j=>[(2,.ptr 2 0),(3,.ptr 3 0),(36,Aa n.ports.length),(37,Aa j)]) (fun _=>[(2,.box [.val (.slice none 0 0),.val (.slice none 0 0),.val (.slice none 0 0),.val (.slice none 0 0),.val (.slice none 0 0),.val (.slice none 0 0),.val (.slice none 0 0),.val (.slice none 0 0)]),(3,.box [.osl 11,.osl 14,.osl 17,.osl 20,.osl 23,.osl 26,.osl 29,.osl 32]),(11,.row 5 Au n.devices),(14,.row 7 A2 n.ports),(17,.row 3 Bt n.links),(20,.row 6 Ai n.domains),(23,.row 4 A1 n.statics),(26,.row 4 A3 n.floods),(29,.row 5 Bz n.vrfs),(32,.row 5 By n.irbs)]) []
  ⟨⟨rfl,rfl,rfl,rfl,rfl,rfl,rfl,rfl,trivial⟩,⟨.inl rfl,rfl,.inl rfl,rfl,.inl rfl,rfl,.inl rfl,rfl,.inl rfl,rfl,.inl rfl,rfl,.inl rfl,rfl,.inl rfl,rfl,.inl rfl,rfl,.inl rfl,rfl,trivial⟩,rfl,rfl⟩ ?_
 intro j hj
 ((first|refine rG Γ hm ?_|refine rD Γ hm z_ ?_);(conv=>whnf);repeat((first|refine aF ?_|refine aT ?_);(first|refine rG Γ hm ?_|refine rD Γ hm z_ ?_);conv=>whnf))
 refine⟨fun h=>?_,fun h=>?_⟩
 ·have hlt:j<n.ports.length:=by simpa using h
  obtain ⟨p,hp⟩:∃ p,n.ports[(j:Int).toNat]'q_=p:=⟨_,rfl⟩
  have hne:n.ports≠[]:=fun e=>by rw[e]at hlt;cases hlt
  have hset:n.ports.set (j:Int).toNat p=n.ports:=by rw[← hp];exact List.set_getElem_self _
  have hpl:=h2.1 p (by rw[← hp];exact List.getElem_mem _)
  ((first|refine rG Γ hm ?_|refine rD Γ hm z_ ?_);(conv=>whnf);repeat((first|refine aF ?_|refine aT ?_);(first|refine rG Γ hm ?_|refine rD Γ hm z_ ?_);conv=>whnf))
  refine⟨by omega,by show _<n.ports.length;omega,?_⟩
  ((conv=>whnf);repeat((first|refine aF ?_|refine aT ?_);(first|refine rG Γ hm ?_|refine rD Γ hm z_ ?_);conv=>whnf))
  refine⟨hne,?_⟩
  ((conv=>whnf);repeat((first|refine aF ?_|refine aT ?_);(first|refine rG Γ hm ?_|refine rD Γ hm z_ ?_);conv=>whnf))
  refine⟨E,by omega,?_⟩
  rw[hp]
  ((conv=>whnf);repeat((first|refine aF ?_|refine aT ?_);(first|refine rG Γ hm ?_|refine rD Γ hm z_ ?_);conv=>whnf))
  refine cD (Er p.tagged hpl) F159 ?_
  ((first|refine rG Γ hm ?_|refine rD Γ hm z_ ?_);(conv=>whnf);repeat((first|refine aF ?_|refine aT ?_);(first|refine rG Γ hm ?_|refine rD Γ hm z_ ?_);conv=>whnf))
  refine⟨by omega,by show _<n.ports.length;omega,?_⟩
  ((conv=>whnf);repeat((first|refine aF ?_|refine aT ?_);(first|refine rG Γ hm ?_|refine rD Γ hm z_ ?_);conv=>whnf))
  refine⟨hne,?_⟩
  ((conv=>whnf);repeat((first|refine aF ?_|refine aT ?_);(first|refine rG Γ hm ?_|refine rD Γ hm z_ ?_);conv=>whnf))
  refine⟨E,by omega,p,(by rw[hp];rfl),(by rw[hp];rfl),?_⟩
  ((conv=>whnf);repeat((first|refine aF ?_|refine aT ?_);(first|refine rG Γ hm ?_|refine rD Γ hm z_ ?_);conv=>whnf))
  refine⟨z_,?_⟩
  ((conv=>whnf);repeat((first|refine aF ?_|refine aT ?_);(first|refine rG Γ hm ?_|refine rD Γ hm z_ ?_);conv=>whnf))
  refine iL ?_
  ((conv=>whnf);repeat((first|refine aF ?_|refine aT ?_);(first|refine rG Γ hm ?_|refine rD Γ hm z_ ?_);conv=>whnf))
  exact Hw [] hlt ⟨⟨E,E,E,E,E,E,E,E,Y⟩,⟨.inl E,E,.inl E,E,.inl E,E,.inl (congrArg (Ob.row 7 A2) hset.symm),E,.inl E,E,.inl E,E,.inl E,E,.inl E,E,.inl E,E,.inl E,E,Y⟩,E,E⟩
 ·((first|refine rG Γ hm ?_|refine rD Γ hm z_ ?_);(conv=>whnf);repeat((first|refine aF ?_|refine aT ?_);(first|refine rG Γ hm ?_|refine rD Γ hm z_ ?_);conv=>whnf))
  refine Ev n.domains.length (fun j=>[(2,.ptr 2 0),(3,.ptr 3 0),(55,Aa n.domains.length),(56,Aa j)]) (fun _=>[(2,.box [.val (.slice none 0 0),.val (.slice none 0 0),.val (.slice none 0 0),.val (.slice none 0 0),.val (.slice none 0 0),.val (.slice none 0 0),.val (.slice none 0 0),.val (.slice none 0 0)]),(3,.box [.osl 11,.osl 14,.osl 17,.osl 20,.osl 23,.osl 26,.osl 29,.osl 32]),(11,.row 5 Au n.devices),(14,.row 7 A2 n.ports),(17,.row 3 Bt n.links),(20,.row 6 Ai n.domains),(23,.row 4 A1 n.statics),(26,.row 4 A3 n.floods),(29,.row 5 Bz n.vrfs),(32,.row 5 By n.irbs)]) []
   ⟨⟨rfl,rfl,rfl,rfl,rfl,rfl,rfl,rfl,trivial⟩,⟨.inl rfl,rfl,.inl rfl,rfl,.inl rfl,rfl,.inl rfl,rfl,.inl rfl,rfl,.inl rfl,rfl,.inl rfl,rfl,.inl rfl,rfl,.inl rfl,rfl,.inl rfl,rfl,trivial⟩,rfl,rfl⟩ ?_
  intro j hj
  ((first|refine rG Γ hm ?_|refine rD Γ hm z_ ?_);(conv=>whnf);repeat((first|refine aF ?_|refine aT ?_);(first|refine rG Γ hm ?_|refine rD Γ hm z_ ?_);conv=>whnf))
  refine⟨fun h=>?_,fun h=>?_⟩
  ·have hlt:j<n.domains.length:=by simpa using h
   obtain ⟨p,hp⟩:∃ p,n.domains[(j:Int).toNat]'q_=p:=⟨_,rfl⟩
   have hne:n.domains≠[]:=fun e=>by rw[e]at hlt;cases hlt
   have hset:n.domains.set (j:Int).toNat p=n.domains:=by rw[← hp];exact List.set_getElem_self _
   have hpl:=h2.2.1 p (by rw[← hp];exact List.getElem_mem _)
   ((first|refine rG Γ hm ?_|refine rD Γ hm z_ ?_);(conv=>whnf);repeat((first|refine aF ?_|refine aT ?_);(first|refine rG Γ hm ?_|refine rD Γ hm z_ ?_);conv=>whnf))
   refine⟨by omega,by show _<n.domains.length;omega,?_⟩
   ((conv=>whnf);repeat((first|refine aF ?_|refine aT ?_);(first|refine rG Γ hm ?_|refine rD Γ hm z_ ?_);conv=>whnf))
   refine⟨hne,?_⟩
   ((conv=>whnf);repeat((first|refine aF ?_|refine aT ?_);(first|refine rG Γ hm ?_|refine rD Γ hm z_ ?_);conv=>whnf))
   refine⟨E,by omega,?_⟩
   rw[hp]
   ((conv=>whnf);repeat((first|refine aF ?_|refine aT ?_);(first|refine rG Γ hm ?_|refine rD Γ hm z_ ?_);conv=>whnf))
   refine cD (Er p.peers hpl) F159 ?_
   ((first|refine rG Γ hm ?_|refine rD Γ hm z_ ?_);(conv=>whnf);repeat((first|refine aF ?_|refine aT ?_);(first|refine rG Γ hm ?_|refine rD Γ hm z_ ?_);conv=>whnf))
   refine⟨by omega,by show _<n.domains.length;omega,?_⟩
   ((conv=>whnf);repeat((first|refine aF ?_|refine aT ?_);(first|refine rG Γ hm ?_|refine rD Γ hm z_ ?_);conv=>whnf))
   refine⟨hne,?_⟩
   ((conv=>whnf);repeat((first|refine aF ?_|refine aT ?_);(first|refine rG Γ hm ?_|refine rD Γ hm z_ ?_);conv=>whnf))
   refine⟨E,by omega,p,(by rw[hp];rfl),(by rw[hp];rfl),?_⟩
   ((conv=>whnf);repeat((first|refine aF ?_|refine aT ?_);(first|refine rG Γ hm ?_|refine rD Γ hm z_ ?_);conv=>whnf))
   refine⟨z_,?_⟩
   ((conv=>whnf);repeat((first|refine aF ?_|refine aT ?_);(first|refine rG Γ hm ?_|refine rD Γ hm z_ ?_);conv=>whnf))
   refine iL ?_
   ((conv=>whnf);repeat((first|refine aF ?_|refine aT ?_);(first|refine rG Γ hm ?_|refine rD Γ hm z_ ?_);conv=>whnf))
   exact Hw [] hlt ⟨⟨E,E,E,E,E,E,E,E,Y⟩,⟨.inl E,E,.inl E,E,.inl E,E,.inl E,E,.inl E,E,.inl (congrArg (Ob.row 6 Ai) hset.symm),E,.inl E,E,.inl E,E,.inl E,E,.inl E,E,Y⟩,E,E⟩
  ·((first|refine rG Γ hm ?_|refine rD Γ hm z_ ?_);(conv=>whnf);repeat((first|refine aF ?_|refine aT ?_);(first|refine rG Γ hm ?_|refine rD Γ hm z_ ?_);conv=>whnf))
   refine Ev n.floods.length (fun j=>[(2,.ptr 2 0),(3,.ptr 3 0),(74,Aa n.floods.length),(75,Aa j)]) (fun _=>[(2,.box [.val (.slice none 0 0),.val (.slice none 0 0),.val (.slice none 0 0),.val (.slice none 0 0),.val (.slice none 0 0),.val (.slice none 0 0),.val (.slice none 0 0),.val (.slice none 0 0)]),(3,.box [.osl 11,.osl 14,.osl 17,.osl 20,.osl 23,.osl 26,.osl 29,.osl 32]),(11,.row 5 Au n.devices),(14,.row 7 A2 n.ports),(17,.row 3 Bt n.links),(20,.row 6 Ai n.domains),(23,.row 4 A1 n.statics),(26,.row 4 A3 n.floods),(29,.row 5 Bz n.vrfs),(32,.row 5 By n.irbs)]) []
    ⟨⟨rfl,rfl,rfl,rfl,rfl,rfl,rfl,rfl,trivial⟩,⟨.inl rfl,rfl,.inl rfl,rfl,.inl rfl,rfl,.inl rfl,rfl,.inl rfl,rfl,.inl rfl,rfl,.inl rfl,rfl,.inl rfl,rfl,.inl rfl,rfl,.inl rfl,rfl,trivial⟩,rfl,rfl⟩ ?_
   intro j hj
   ((first|refine rG Γ hm ?_|refine rD Γ hm z_ ?_);(conv=>whnf);repeat((first|refine aF ?_|refine aT ?_);(first|refine rG Γ hm ?_|refine rD Γ hm z_ ?_);conv=>whnf))
   refine⟨fun h=>?_,fun h=>?_⟩
   ·have hlt:j<n.floods.length:=by simpa using h
    obtain ⟨p,hp⟩:∃ p,n.floods[(j:Int).toNat]'q_=p:=⟨_,rfl⟩
    have hne:n.floods≠[]:=fun e=>by rw[e]at hlt;cases hlt
    have hset:n.floods.set (j:Int).toNat p=n.floods:=by rw[← hp];exact List.set_getElem_self _
    have hpl:=h2.2.2.1 p (by rw[← hp];exact List.getElem_mem _)
    ((first|refine rG Γ hm ?_|refine rD Γ hm z_ ?_);(conv=>whnf);repeat((first|refine aF ?_|refine aT ?_);(first|refine rG Γ hm ?_|refine rD Γ hm z_ ?_);conv=>whnf))
    refine⟨by omega,by show _<n.floods.length;omega,?_⟩
    ((conv=>whnf);repeat((first|refine aF ?_|refine aT ?_);(first|refine rG Γ hm ?_|refine rD Γ hm z_ ?_);conv=>whnf))
    refine⟨hne,?_⟩
    ((conv=>whnf);repeat((first|refine aF ?_|refine aT ?_);(first|refine rG Γ hm ?_|refine rD Γ hm z_ ?_);conv=>whnf))
    refine⟨E,by omega,?_⟩
    rw[hp]
    ((conv=>whnf);repeat((first|refine aF ?_|refine aT ?_);(first|refine rG Γ hm ?_|refine rD Γ hm z_ ?_);conv=>whnf))
    refine cD (T8 p.addrs hpl) F160 ?_
    ((first|refine rG Γ hm ?_|refine rD Γ hm z_ ?_);(conv=>whnf);repeat((first|refine aF ?_|refine aT ?_);(first|refine rG Γ hm ?_|refine rD Γ hm z_ ?_);conv=>whnf))
    refine⟨by omega,by show _<n.floods.length;omega,?_⟩
    ((conv=>whnf);repeat((first|refine aF ?_|refine aT ?_);(first|refine rG Γ hm ?_|refine rD Γ hm z_ ?_);conv=>whnf))
    refine⟨hne,?_⟩
    ((conv=>whnf);repeat((first|refine aF ?_|refine aT ?_);(first|refine rG Γ hm ?_|refine rD Γ hm z_ ?_);conv=>whnf))
    refine⟨E,by omega,p,(by rw[hp];rfl),(by rw[hp];rfl),?_⟩
    ((conv=>whnf);repeat((first|refine aF ?_|refine aT ?_);(first|refine rG Γ hm ?_|refine rD Γ hm z_ ?_);conv=>whnf))
    refine⟨z_,?_⟩
    ((conv=>whnf);repeat((first|refine aF ?_|refine aT ?_);(first|refine rG Γ hm ?_|refine rD Γ hm z_ ?_);conv=>whnf))
    refine iL ?_
    ((conv=>whnf);repeat((first|refine aF ?_|refine aT ?_);(first|refine rG Γ hm ?_|refine rD Γ hm z_ ?_);conv=>whnf))
    exact Hw [] hlt ⟨⟨E,E,E,E,E,E,E,E,Y⟩,⟨.inl E,E,.inl E,E,.inl E,E,.inl E,E,.inl E,E,.inl E,E,.inl E,E,.inl (congrArg (Ob.row 4 A3) hset.symm),E,.inl E,E,.inl E,E,Y⟩,E,E⟩
   ·((first|refine rG Γ hm ?_|refine rD Γ hm z_ ?_);(conv=>whnf);repeat((first|refine aF ?_|refine aT ?_);(first|refine rG Γ hm ?_|refine rD Γ hm z_ ?_);conv=>whnf))
    refine Ev n.vrfs.length (fun j=>[(2,.ptr 2 0),(3,.ptr 3 0),(93,Aa n.vrfs.length),(94,Aa j)]) (fun _=>[(2,.box [.val (.slice none 0 0),.val (.slice none 0 0),.val (.slice none 0 0),.val (.slice none 0 0),.val (.slice none 0 0),.val (.slice none 0 0),.val (.slice none 0 0),.val (.slice none 0 0)]),(3,.box [.osl 11,.osl 14,.osl 17,.osl 20,.osl 23,.osl 26,.osl 29,.osl 32]),(11,.row 5 Au n.devices),(14,.row 7 A2 n.ports),(17,.row 3 Bt n.links),(20,.row 6 Ai n.domains),(23,.row 4 A1 n.statics),(26,.row 4 A3 n.floods),(29,.row 5 Bz n.vrfs),(32,.row 5 By n.irbs)]) []
     ⟨⟨rfl,rfl,rfl,rfl,rfl,rfl,rfl,rfl,trivial⟩,⟨.inl rfl,rfl,.inl rfl,rfl,.inl rfl,rfl,.inl rfl,rfl,.inl rfl,rfl,.inl rfl,rfl,.inl rfl,rfl,.inl rfl,rfl,.inl rfl,rfl,.inl rfl,rfl,trivial⟩,rfl,rfl⟩ ?_
    intro j hj
    ((first|refine rG Γ hm ?_|refine rD Γ hm z_ ?_);(conv=>whnf);repeat((first|refine aF ?_|refine aT ?_);(first|refine rG Γ hm ?_|refine rD Γ hm z_ ?_);conv=>whnf))
    refine⟨fun h=>?_,fun h=>?_⟩
    ·have hlt:j<n.vrfs.length:=by simpa using h
     obtain ⟨p,hp⟩:∃ p,n.vrfs[(j:Int).toNat]'q_=p:=⟨_,rfl⟩
     have hne:n.vrfs≠[]:=fun e=>by rw[e]at hlt;cases hlt
     have hset:n.vrfs.set (j:Int).toNat p=n.vrfs:=by rw[← hp];exact List.set_getElem_self _
     have hpl:=h2.2.2.2 p (by rw[← hp];exact List.getElem_mem _)
     ((first|refine rG Γ hm ?_|refine rD Γ hm z_ ?_);(conv=>whnf);repeat((first|refine aF ?_|refine aT ?_);(first|refine rG Γ hm ?_|refine rD Γ hm z_ ?_);conv=>whnf))
     have hne2:n.vrfs.set (j:Int).toNat p≠[]:=by rw[hset];exact hne
     have hp2:(n.vrfs.set (j:Int).toNat p)[(j:Int).toNat]'(by rw[hset];omega)=p:=by simp
     have hset2:(n.vrfs.set (j:Int).toNat p).set (j:Int).toNat p=n.vrfs:=by rw[hset,hset]
     refine⟨by omega,by show _<n.vrfs.length;omega,?_⟩
     ((conv=>whnf);repeat((first|refine aF ?_|refine aT ?_);(first|refine rG Γ hm ?_|refine rD Γ hm z_ ?_);conv=>whnf))
     refine H2 (Cp E (.inr (.inr (.inr ⟨29,5,_,0,E,fun κ w h=>Kd hne h,E⟩)))) z_ E ?_
     ((first|refine rG Γ hm ?_|refine rD Γ hm z_ ?_);(conv=>whnf);repeat((first|refine aF ?_|refine aT ?_);(first|refine rG Γ hm ?_|refine rD Γ hm z_ ?_);conv=>whnf))
     refine⟨hne,?_⟩
     ((conv=>whnf);repeat((first|refine aF ?_|refine aT ?_);(first|refine rG Γ hm ?_|refine rD Γ hm z_ ?_);conv=>whnf))
     refine⟨E,by omega,?_⟩
     rw[hp]
     ((conv=>whnf);repeat((first|refine aF ?_|refine aT ?_);(first|refine rG Γ hm ?_|refine rD Γ hm z_ ?_);conv=>whnf))
     refine cD (Er p.imports hpl.1) F159 ?_
     ((first|refine rG Γ hm ?_|refine rD Γ hm z_ ?_);(conv=>whnf);repeat((first|refine aF ?_|refine aT ?_);(first|refine rG Γ hm ?_|refine rD Γ hm z_ ?_);conv=>whnf))
     refine H2 (Cp E (.inr (.inr (.inr ⟨29,5,_,0,E,fun κ w h=>Kd hne h,E⟩)))) z_ E ?_
     ((first|refine rG Γ hm ?_|refine rD Γ hm z_ ?_);(conv=>whnf);repeat((first|refine aF ?_|refine aT ?_);(first|refine rG Γ hm ?_|refine rD Γ hm z_ ?_);conv=>whnf))
     refine⟨hne,?_⟩
     ((conv=>whnf);repeat((first|refine aF ?_|refine aT ?_);(first|refine rG Γ hm ?_|refine rD Γ hm z_ ?_);conv=>whnf))
     refine⟨E,by omega,?_⟩
     rw[hp]
     ((conv=>whnf);repeat((first|refine aF ?_|refine aT ?_);(first|refine rG Γ hm ?_|refine rD Γ hm z_ ?_);conv=>whnf))
     refine cD (Er p.exports hpl.2) F159 ?_
     ((first|refine rG Γ hm ?_|refine rD Γ hm z_ ?_);(conv=>whnf);repeat((first|refine aF ?_|refine aT ?_);(first|refine rG Γ hm ?_|refine rD Γ hm z_ ?_);conv=>whnf))
     refine H2 (Cp E (.inr (.inr (.inr ⟨29,5,_,0,E,fun κ w h=>Kd hne h,E⟩)))) z_ E ?_
     ((first|refine rG Γ hm ?_|refine rD Γ hm z_ ?_);(conv=>whnf);repeat((first|refine aF ?_|refine aT ?_);(first|refine rG Γ hm ?_|refine rD Γ hm z_ ?_);conv=>whnf))
     refine⟨hne,?_⟩
     ((conv=>whnf);repeat((first|refine aF ?_|refine aT ?_);(first|refine rG Γ hm ?_|refine rD Γ hm z_ ?_);conv=>whnf))
     refine⟨E,by omega,p,(by rw[hp];rfl),(by rw[hp];rfl),?_⟩
     ((conv=>whnf);repeat((first|refine aF ?_|refine aT ?_);(first|refine rG Γ hm ?_|refine rD Γ hm z_ ?_);conv=>whnf))
     refine H2 (Cp E (.inr (.inr (.inr ⟨29,5,_,0,E,fun κ w h=>Kd hne2 h,E⟩)))) z_ E ?_
     ((first|refine rG Γ hm ?_|refine rD Γ hm z_ ?_);(conv=>whnf);repeat((first|refine aF ?_|refine aT ?_);(first|refine rG Γ hm ?_|refine rD Γ hm z_ ?_);conv=>whnf))
     refine⟨hne2,?_⟩
     ((conv=>whnf);repeat((first|refine aF ?_|refine aT ?_);(first|refine rG Γ hm ?_|refine rD Γ hm z_ ?_);conv=>whnf))
     refine⟨E,by rw[hset];omega,p,(by rw[hp2];rfl),(by rw[hp2];rfl),?_⟩
     ((conv=>whnf);repeat((first|refine aF ?_|refine aT ?_);(first|refine rG Γ hm ?_|refine rD Γ hm z_ ?_);conv=>whnf))
     refine⟨z_,?_⟩
     ((conv=>whnf);repeat((first|refine aF ?_|refine aT ?_);(first|refine rG Γ hm ?_|refine rD Γ hm z_ ?_);conv=>whnf))
     refine iL ?_
     ((conv=>whnf);repeat((first|refine aF ?_|refine aT ?_);(first|refine rG Γ hm ?_|refine rD Γ hm z_ ?_);conv=>whnf))
     exact Hw [] hlt ⟨⟨E,E,E,E,E,E,E,E,Y⟩,⟨.inl E,E,.inl E,E,.inl E,E,.inl E,E,.inl E,E,.inl E,E,.inl E,E,.inl E,E,.inl (congrArg (Ob.row 5 Bz) hset2.symm),E,.inl E,E,Y⟩,E,E⟩
    ·((first|refine rG Γ hm ?_|refine rD Γ hm z_ ?_);(conv=>whnf);repeat((first|refine aF ?_|refine aT ?_);(first|refine rG Γ hm ?_|refine rD Γ hm z_ ?_);conv=>whnf))
     exact done E (.cons (.cell E E E E) .nil) [(0,11),(1,14),(2,17),(3,20),(4,23),(5,26),(6,29),(7,32)] [(0,.row 5 Au n.devices),(1,.row 7 A2 n.ports),(2,.row 3 Bt n.links),(3,.row 6 Ai n.domains),(4,.row 4 A1 n.statics),(5,.row 4 A3 n.floods),(6,.row 5 Bz n.vrfs),(7,.row 5 By n.irbs)] (fun _ h=>h) E E ⟨Y,⟨.inl E,E,.inl E,E,.inl E,E,.inl E,E,.inl E,E,.inl E,E,.inl E,E,.inl E,E,Y⟩,E,E⟩
end Go.Sy.YtjenpnjajjplkaaGreatDoor
namespace Go.Sy.YtjenpnjajjplkaaGreatDoor
open Go.Proofs
attribute [local irreducible] Go.Sy.G Go.Sy.DR
set_option maxRecDepth 20000
set_option maxHeartbeats 4000000
theorem Ee (l:List Device) (p:Device→Bool) (f:FuncId) (first cap:List SV) (hc:(SV.clo (.func f) first cap).inn []=true) (hf:∀ x∈l,Hc Tryz.prog f (first++[Au x]++cap) (Ab (p x))) (hl:Aq l) :
  Sy.Spec Tryz.prog 165 [.sl 5 Au l,.clo (.func f) first cap] [] (Aa (Br p l)) []:=cT F165 Tryz.ntmps165 fun F hF=>by
 unfold Aq at hl
 have hin:∀ x:Device,Bs [] (first++[Au x]++cap)=true:=fun x=>C0 hc rfl
 ((conv=>whnf);repeat((first|refine aF ?_|refine aT ?_);(first|refine rG Γ hm ?_|refine rD Γ hm z_ ?_);conv=>whnf))
 refine A6 l.length (fun j=>El (fun _ x=>!(p x)) l j) (fun j=>[(0,.sl 5 Au l),(1,.clo (.func f) first cap),(7,Aa l.length),(8,Aa j)]) (fun _=>[]) [] (Bc _ _) ⟨⟨E,E,Be _,hc,E,E,E,E,Y⟩,Y,E,E⟩ ?_
 intro j hj hI
 ((first|refine rG Γ hm ?_|refine rD Γ hm z_ ?_);(conv=>whnf);repeat((first|refine aF ?_|refine aT ?_);(first|refine rG Γ hm ?_|refine rD Γ hm z_ ?_);conv=>whnf))
 refine⟨fun h=>?_,fun h=>?_⟩
 ·have h:=of_decide_eq_true h
  have hj2:j<l.length:=by omega
  ((first|refine rG Γ hm ?_|refine rD Γ hm z_ ?_);(conv=>whnf);repeat((first|refine aF ?_|refine aT ?_);(first|refine rG Γ hm ?_|refine rD Γ hm z_ ?_);conv=>whnf))
  refine⟨E,by omega,by omega,?_⟩
  ((conv=>whnf);repeat((first|refine aF ?_|refine aT ?_);(first|refine rG Γ hm ?_|refine rD Γ hm z_ ?_);conv=>whnf))
  refine E5 (hf l[j] (List.getElem_mem hj2)) E E E (by simp only[hin];rfl) E E ?_
  ((first|refine rG Γ hm ?_|refine rD Γ hm z_ ?_);(conv=>whnf);repeat((first|refine aF ?_|refine aT ?_);(first|refine rG Γ hm ?_|refine rD Γ hm z_ ?_);conv=>whnf))
  refine⟨fun h2=>?_,fun h2=>?_⟩
  ·((first|refine rG Γ hm ?_|refine rD Γ hm z_ ?_);(conv=>whnf);repeat((first|refine aF ?_|refine aT ?_);(first|refine rG Γ hm ?_|refine rD Γ hm z_ ?_);conv=>whnf))
   refine Ar E (.cons .tmp .nil) (congrArg Aa ?_) E
   exact Co hj2 (fun i hi hij=>by simpa using hI i hi hij) h2
  ·((first|refine rG Γ hm ?_|refine rD Γ hm z_ ?_);(conv=>whnf);repeat((first|refine aF ?_|refine aT ?_);(first|refine rG Γ hm ?_|refine rD Γ hm z_ ?_);conv=>whnf))
   refine iL ?_
   ((conv=>whnf);repeat((first|refine aF ?_|refine aT ?_);(first|refine rG Γ hm ?_|refine rD Γ hm z_ ?_);conv=>whnf))
   exact Bb [] hI hj2 (A8 hI hj2 (by simp[h2])) ⟨⟨E,E,Be _,hc,E,E,E,E,Y⟩,Y,E,E⟩
 ·have h:=of_decide_eq_false h
  ((first|refine rG Γ hm ?_|refine rD Γ hm z_ ?_);(conv=>whnf);repeat((first|refine aF ?_|refine aT ?_);(first|refine rG Γ hm ?_|refine rD Γ hm z_ ?_);conv=>whnf))
  refine Ar E (.cons .tmp .nil) (congrArg Aa ?_) E
  exact Do (fun i hi=>by simpa using hI i hi q_)
theorem Mw (l:List Flood) (p:Flood→Bool) (f:FuncId) (first cap:List SV) (hc:(SV.clo (.func f) first cap).inn []=true) (hf:∀ x∈l,Hc Tryz.prog f (first++[A3 x]++cap) (Ab (p x))) (hl:Aq l) :
  Sy.Spec Tryz.prog 161 [.sl 4 A3 l,.clo (.func f) first cap] [] (Aa (Br p l)) []:=cT F161 Tryz.ntmps161 fun F hF=>by
 unfold Aq at hl
 have hin:∀ x:Flood,Bs [] (first++[A3 x]++cap)=true:=fun x=>C0 hc rfl
 ((conv=>whnf);repeat((first|refine aF ?_|refine aT ?_);(first|refine rG Γ hm ?_|refine rD Γ hm z_ ?_);conv=>whnf))
 refine A6 l.length (fun j=>El (fun _ x=>!(p x)) l j) (fun j=>[(0,.sl 4 A3 l),(1,.clo (.func f) first cap),(7,Aa l.length),(8,Aa j)]) (fun _=>[]) [] (Bc _ _) ⟨⟨E,E,Be _,hc,E,E,E,E,Y⟩,Y,E,E⟩ ?_
 intro j hj hI
 ((first|refine rG Γ hm ?_|refine rD Γ hm z_ ?_);(conv=>whnf);repeat((first|refine aF ?_|refine aT ?_);(first|refine rG Γ hm ?_|refine rD Γ hm z_ ?_);conv=>whnf))
 refine⟨fun h=>?_,fun h=>?_⟩
 ·have h:=of_decide_eq_true h
  have hj2:j<l.length:=by omega
  ((first|refine rG Γ hm ?_|refine rD Γ hm z_ ?_);(conv=>whnf);repeat((first|refine aF ?_|refine aT ?_);(first|refine rG Γ hm ?_|refine rD Γ hm z_ ?_);conv=>whnf))
  refine⟨E,by omega,by omega,?_⟩
  ((conv=>whnf);repeat((first|refine aF ?_|refine aT ?_);(first|refine rG Γ hm ?_|refine rD Γ hm z_ ?_);conv=>whnf))
  refine E5 (hf l[j] (List.getElem_mem hj2)) E E E (by simp only[hin];rfl) E E ?_
  ((first|refine rG Γ hm ?_|refine rD Γ hm z_ ?_);(conv=>whnf);repeat((first|refine aF ?_|refine aT ?_);(first|refine rG Γ hm ?_|refine rD Γ hm z_ ?_);conv=>whnf))
  refine⟨fun h2=>?_,fun h2=>?_⟩
  ·((first|refine rG Γ hm ?_|refine rD Γ hm z_ ?_);(conv=>whnf);repeat((first|refine aF ?_|refine aT ?_);(first|refine rG Γ hm ?_|refine rD Γ hm z_ ?_);conv=>whnf))
   refine Ar E (.cons .tmp .nil) (congrArg Aa ?_) E
   exact Co hj2 (fun i hi hij=>by simpa using hI i hi hij) h2
  ·((first|refine rG Γ hm ?_|refine rD Γ hm z_ ?_);(conv=>whnf);repeat((first|refine aF ?_|refine aT ?_);(first|refine rG Γ hm ?_|refine rD Γ hm z_ ?_);conv=>whnf))
   refine iL ?_
   ((conv=>whnf);repeat((first|refine aF ?_|refine aT ?_);(first|refine rG Γ hm ?_|refine rD Γ hm z_ ?_);conv=>whnf))
   exact Bb [] hI hj2 (A8 hI hj2 (by simp[h2])) ⟨⟨E,E,Be _,hc,E,E,E,E,Y⟩,Y,E,E⟩
 ·have h:=of_decide_eq_false h
  ((first|refine rG Γ hm ?_|refine rD Γ hm z_ ?_);(conv=>whnf);repeat((first|refine aF ?_|refine aT ?_);(first|refine rG Γ hm ?_|refine rD Γ hm z_ ?_);conv=>whnf))
  refine Ar E (.cons .tmp .nil) (congrArg Aa ?_) E
  exact Do (fun i hi=>by simpa using hI i hi q_)
theorem Q6 (l:List Vrf) (p:Vrf→Bool) (f:FuncId) (first cap:List SV) (hc:(SV.clo (.func f) first cap).inn []=true) (hf:∀ x∈l,Hc Tryz.prog f (first++[Bz x]++cap) (Ab (p x))) (hl:Aq l) :
  Sy.Spec Tryz.prog 442 [.sl 5 Bz l,.clo (.func f) first cap] [] (Aa (Br p l)) []:=cT F442 Tryz.ntmps442 fun F hF=>by
 unfold Aq at hl
 have hin:∀ x:Vrf,Bs [] (first++[Bz x]++cap)=true:=fun x=>C0 hc rfl
 ((conv=>whnf);repeat((first|refine aF ?_|refine aT ?_);(first|refine rG Γ hm ?_|refine rD Γ hm z_ ?_);conv=>whnf))
 refine A6 l.length (fun j=>El (fun _ x=>!(p x)) l j) (fun j=>[(0,.sl 5 Bz l),(1,.clo (.func f) first cap),(7,Aa l.length),(8,Aa j)]) (fun _=>[]) [] (Bc _ _) ⟨⟨E,E,Be _,hc,E,E,E,E,Y⟩,Y,E,E⟩ ?_
 intro j hj hI
 ((first|refine rG Γ hm ?_|refine rD Γ hm z_ ?_);(conv=>whnf);repeat((first|refine aF ?_|refine aT ?_);(first|refine rG Γ hm ?_|refine rD Γ hm z_ ?_);conv=>whnf))
 refine⟨fun h=>?_,fun h=>?_⟩
 ·have h:=of_decide_eq_true h
  have hj2:j<l.length:=by omega
  ((first|refine rG Γ hm ?_|refine rD Γ hm z_ ?_);(conv=>whnf);repeat((first|refine aF ?_|refine aT ?_);(first|refine rG Γ hm ?_|refine rD Γ hm z_ ?_);conv=>whnf))
  refine⟨E,by omega,by omega,?_⟩
  ((conv=>whnf);repeat((first|refine aF ?_|refine aT ?_);(first|refine rG Γ hm ?_|refine rD Γ hm z_ ?_);conv=>whnf))
  refine E5 (hf l[j] (List.getElem_mem hj2)) E E E (by simp only[hin];rfl) E E ?_
  ((first|refine rG Γ hm ?_|refine rD Γ hm z_ ?_);(conv=>whnf);repeat((first|refine aF ?_|refine aT ?_);(first|refine rG Γ hm ?_|refine rD Γ hm z_ ?_);conv=>whnf))
  refine⟨fun h2=>?_,fun h2=>?_⟩
  ·((first|refine rG Γ hm ?_|refine rD Γ hm z_ ?_);(conv=>whnf);repeat((first|refine aF ?_|refine aT ?_);(first|refine rG Γ hm ?_|refine rD Γ hm z_ ?_);conv=>whnf))
   refine Ar E (.cons .tmp .nil) (congrArg Aa ?_) E
   exact Co hj2 (fun i hi hij=>by simpa using hI i hi hij) h2
  ·((first|refine rG Γ hm ?_|refine rD Γ hm z_ ?_);(conv=>whnf);repeat((first|refine aF ?_|refine aT ?_);(first|refine rG Γ hm ?_|refine rD Γ hm z_ ?_);conv=>whnf))
   refine iL ?_
   ((conv=>whnf);repeat((first|refine aF ?_|refine aT ?_);(first|refine rG Γ hm ?_|refine rD Γ hm z_ ?_);conv=>whnf))
   exact Bb [] hI hj2 (A8 hI hj2 (by simp[h2])) ⟨⟨E,E,Be _,hc,E,E,E,E,Y⟩,Y,E,E⟩
 ·have h:=of_decide_eq_false h
  ((first|refine rG Γ hm ?_|refine rD Γ hm z_ ?_);(conv=>whnf);repeat((first|refine aF ?_|refine aT ?_);(first|refine rG Γ hm ?_|refine rD Γ hm z_ ?_);conv=>whnf))
  refine Ar E (.cons .tmp .nil) (congrArg Aa ?_) E
  exact Do (fun i hi=>by simpa using hI i hi q_)
theorem J7 (l:List Device) (p:Device→Bool) (f:FuncId) (first cap:List SV) (hc:(SV.clo (.func f) first cap).inn []=true) (hf:∀ x∈l,Hc Tryz.prog f (first++[Au x]++cap) (Ab (p x))) (hl:Aq l) :
  Sy.Spec Tryz.prog 338 [.sl 5 Au l,.clo (.func f) first cap] [] (Ab (decide (0≤Br p l))) []:=cT F338 Tryz.ntmps338 fun F hF=>by
 have h0:Bs [] [.sl 5 Au l,.clo (.func f) first cap]=true:=by simp only[Bs,hc];rfl
 ((conv=>whnf);repeat((first|refine aF ?_|refine aT ?_);(first|refine rG Γ hm ?_|refine rD Γ hm z_ ?_);conv=>whnf))
 refine Jh (Ee l p f first cap hc hf hl) F165 E E (by simp only[h0];rfl) E E ?_
 ((first|refine rG Γ hm ?_|refine rD Γ hm z_ ?_);(conv=>whnf);repeat((first|refine aF ?_|refine aT ?_);(first|refine rG Γ hm ?_|refine rD Γ hm z_ ?_);conv=>whnf))
 exact dN
theorem E4 (l:List Domain) (p:Domain→Bool) (f:FuncId) (first cap:List SV) (hc:(SV.clo (.func f) first cap).inn []=true) (hf:∀ x∈l,Hc Tryz.prog f (first++[Ai x]++cap) (Ab (p x))) (hl:Aq l) :
  Sy.Spec Tryz.prog 408 [.sl 6 Ai l,.clo (.func f) first cap] [] (Ab (decide (0≤Br p l))) []:=cT F408 Tryz.ntmps408 fun F hF=>by
 have h0:Bs [] [.sl 6 Ai l,.clo (.func f) first cap]=true:=by simp only[Bs,hc];rfl
 ((conv=>whnf);repeat((first|refine aF ?_|refine aT ?_);(first|refine rG Γ hm ?_|refine rD Γ hm z_ ?_);conv=>whnf))
 refine Jh (Dd l p f first cap hc hf hl) F163 E E (by simp only[h0];rfl) E E ?_
 ((first|refine rG Γ hm ?_|refine rD Γ hm z_ ?_);(conv=>whnf);repeat((first|refine aF ?_|refine aT ?_);(first|refine rG Γ hm ?_|refine rD Γ hm z_ ?_);conv=>whnf))
 exact dN
theorem Va (n:Net) (hn:n.Fin) (l:List Device) (p:Device→Bool) (f:FuncId) (first cap:List SV) (hc:(SV.clo (.func f) first cap).inn []=true) (hf:∀ x∈l,Hc Tryz.prog f (first++[Au x]++cap) (Ab (p x))) (hl:Aq l) :
  Sy.Spec Tryz.prog 404 [Ao n,.sl 5 Au l,.clo (.func f) first cap] [] (Aa (if Af n=true then Br p l else -1)) []:=cT F404 Tryz.ntmps404 fun F hF=>by
 have hr:=Bn n hn
 have q:=Ee l p f first cap hc hf hl
 ((conv=>whnf);repeat((first|refine aF ?_|refine aT ?_);(first|refine rG Γ hm ?_|refine rD Γ hm z_ ?_);conv=>whnf))
 refine c0 hr F25 ?_
 cases hb:Af n
 ·rw[if_neg y_]
  ((first|refine rG Γ hm ?_|refine rD Γ hm z_ ?_);(conv=>whnf);repeat((first|refine aF ?_|refine aT ?_);(first|refine rG Γ hm ?_|refine rD Γ hm z_ ?_);conv=>whnf))
  exact dN
 rw[if_pos rfl]
 ((first|refine rG Γ hm ?_|refine rD Γ hm z_ ?_);(conv=>whnf);repeat((first|refine aF ?_|refine aT ?_);(first|refine rG Γ hm ?_|refine rD Γ hm z_ ?_);conv=>whnf))
 refine Jh q F165 E E (by simp only[Bs,hc,Bool.and_true];rfl) E E ?_
 ((first|refine rG Γ hm ?_|refine rD Γ hm z_ ?_);(conv=>whnf);repeat((first|refine aF ?_|refine aT ?_);(first|refine rG Γ hm ?_|refine rD Γ hm z_ ?_);conv=>whnf))
 exact dN
theorem Y2 (n:Net) (hn:n.Fin) (l:List Port) (p:Port→Bool) (f:FuncId) (first cap:List SV) (hc:(SV.clo (.func f) first cap).inn []=true) (hf:∀ x∈l,Hc Tryz.prog f (first++[A2 x]++cap) (Ab (p x))) (hl:Aq l) :
  Sy.Spec Tryz.prog 406 [Ao n,.sl 7 A2 l,.clo (.func f) first cap] [] (Aa (if Af n=true then Br p l else -1)) []:=cT F406 Tryz.ntmps406 fun F hF=>by
 have hr:=Bn n hn
 have q:=O0 l p f first cap hc hf hl
 ((conv=>whnf);repeat((first|refine aF ?_|refine aT ?_);(first|refine rG Γ hm ?_|refine rD Γ hm z_ ?_);conv=>whnf))
 refine c0 hr F25 ?_
 cases hb:Af n
 ·rw[if_neg y_]
  ((first|refine rG Γ hm ?_|refine rD Γ hm z_ ?_);(conv=>whnf);repeat((first|refine aF ?_|refine aT ?_);(first|refine rG Γ hm ?_|refine rD Γ hm z_ ?_);conv=>whnf))
  exact dN
 rw[if_pos rfl]
 ((first|refine rG Γ hm ?_|refine rD Γ hm z_ ?_);(conv=>whnf);repeat((first|refine aF ?_|refine aT ?_);(first|refine rG Γ hm ?_|refine rD Γ hm z_ ?_);conv=>whnf))
 refine Jh q F121 E E (by simp only[Bs,hc,Bool.and_true];rfl) E E ?_
 ((first|refine rG Γ hm ?_|refine rD Γ hm z_ ?_);(conv=>whnf);repeat((first|refine aF ?_|refine aT ?_);(first|refine rG Γ hm ?_|refine rD Γ hm z_ ?_);conv=>whnf))
 exact dN
theorem Abd (n:Net) (hn:n.Fin) (l:List Vrf) (p:Vrf→Bool) (f:FuncId) (first cap:List SV) (hc:(SV.clo (.func f) first cap).inn []=true) (hf:∀ x∈l,Hc Tryz.prog f (first++[Bz x]++cap) (Ab (p x))) (hl:Aq l) :
  Sy.Spec Tryz.prog 414 [Ao n,.sl 5 Bz l,.clo (.func f) first cap] [] (Aa (if Af n=true then Br p l else -1)) []:=cT F414 Tryz.ntmps414 fun F hF=>by
 have hr:=Bn n hn
 have q:=Q6 l p f first cap hc hf hl
 ((conv=>whnf);repeat((first|refine aF ?_|refine aT ?_);(first|refine rG Γ hm ?_|refine rD Γ hm z_ ?_);conv=>whnf))
 refine c0 hr F25 ?_
 cases hb:Af n
 ·rw[if_neg y_]
  ((first|refine rG Γ hm ?_|refine rD Γ hm z_ ?_);(conv=>whnf);repeat((first|refine aF ?_|refine aT ?_);(first|refine rG Γ hm ?_|refine rD Γ hm z_ ?_);conv=>whnf))
  exact dN
 rw[if_pos rfl]
 ((first|refine rG Γ hm ?_|refine rD Γ hm z_ ?_);(conv=>whnf);repeat((first|refine aF ?_|refine aT ?_);(first|refine rG Γ hm ?_|refine rD Γ hm z_ ?_);conv=>whnf))
 refine Jh q F442 E E (by simp only[Bs,hc,Bool.and_true];rfl) E E ?_
 ((first|refine rG Γ hm ?_|refine rD Γ hm z_ ?_);(conv=>whnf);repeat((first|refine aF ?_|refine aT ?_);(first|refine rG Γ hm ?_|refine rD Γ hm z_ ?_);conv=>whnf))
 exact dN
theorem Uw (s:ByteArray) (d:Device):Sy.Spec Tryz.prog 405 [Au d,.ref 1 (Ah s) 0] [] (Ab (d.name == s)) []:=cT F405 Tryz.ntmps405 fun F hF=>by
 refine T ?_
 exact D
theorem Yp (dev:Int) (s:ByteArray) (p:Port):Sy.Spec Tryz.prog 407 [A2 p,.ref 1 (Aa dev) 0,.ref 1 (Ah s) 0] [] (Ab (p.dev == dev && p.name == s)) []:=cT F407 Tryz.ntmps407 fun F hF=>by
 cases h:(p.dev == dev)
 ·refine T ?_
  exact D
 ·refine T ?_
  exact D
theorem Aaw (dev:Int) (s:ByteArray) (p:Vrf):Sy.Spec Tryz.prog 415 [Bz p,.ref 1 (Aa dev) 0,.ref 1 (Ah s) 0] [] (Ab (p.dev == dev && p.name == s)) []:=cT F415 Tryz.ntmps415 fun F hF=>by
 cases h:(p.dev == dev)
 ·refine T ?_
  exact D
 ·refine T ?_
  exact D
theorem Eb (n:Net) (hn:n.Fin) (hr:Af n=true) (s:ByteArray):Sy.Spec Tryz.prog 340 [Ao n,Ah s] [] (Aa (Bi n s)) []:=cT F340 Tryz.ntmps340 fun F hF=>by
 have q:=Va n hn n.devices (fun d=>d.name == s) 405 [] [.ref 1 (Ah s) 0] rfl (fun d _=>⟨⟨_,_,F405⟩,Uw s d⟩) hn.devices
 rw[if_pos hr]at q
 ((conv=>whnf);repeat((first|refine aF ?_|refine aT ?_);(first|refine rG Γ hm ?_|refine rD Γ hm z_ ?_);conv=>whnf))
 refine Bg 3 1 (Ah s) E E E ?_
 refine c0 q F404 ?_
 ((first|refine rG Γ hm ?_|refine rD Γ hm z_ ?_);(conv=>whnf);repeat((first|refine aF ?_|refine aT ?_);(first|refine rG Γ hm ?_|refine rD Γ hm z_ ?_);conv=>whnf))
 exact dN
theorem Lb (n:Net) (hn:n.Fin) (hr:Af n=true) (dev:Int) (s:ByteArray):Sy.Spec Tryz.prog 341 [Ao n,Aa dev,Ah s] [] (Aa (La n dev s)) []:=cT F341 Tryz.ntmps341 fun F hF=>by
 have q:=Y2 n hn n.ports (fun p=>p.dev == dev && p.name == s) 407 [] [.ref 1 (Aa dev) 0,.ref 1 (Ah s) 0] rfl (fun d _=>⟨⟨_,_,F407⟩,Yp dev s d⟩) hn.ports
 rw[if_pos hr]at q
 ((conv=>whnf);repeat((first|refine aF ?_|refine aT ?_);(first|refine rG Γ hm ?_|refine rD Γ hm z_ ?_);conv=>whnf))
 refine Bg 4 1 (Aa dev) E E E ?_
 refine Bg 5 1 (Ah s) E E E ?_
 refine c0 q F406 ?_
 ((first|refine rG Γ hm ?_|refine rD Γ hm z_ ?_);(conv=>whnf);repeat((first|refine aF ?_|refine aT ?_);(first|refine rG Γ hm ?_|refine rD Γ hm z_ ?_);conv=>whnf))
 exact dN
theorem Ts (n:Net) (hn:n.Fin) (hr:Af n=true) (dev:Int) (s:ByteArray):Sy.Spec Tryz.prog 348 [Ao n,Aa dev,Ah s] [] (Aa (Uf n dev s)) []:=cT F348 Tryz.ntmps348 fun F hF=>by
 have q:=Abd n hn n.vrfs (fun p=>p.dev == dev && p.name == s) 415 [] [.ref 1 (Aa dev) 0,.ref 1 (Ah s) 0] rfl (fun d _=>⟨⟨_,_,F415⟩,Aaw dev s d⟩) hn.vrfs
 rw[if_pos hr]at q
 ((conv=>whnf);repeat((first|refine aF ?_|refine aT ?_);(first|refine rG Γ hm ?_|refine rD Γ hm z_ ?_);conv=>whnf))
 refine Bg 4 1 (Aa dev) E E E ?_
 refine Bg 5 1 (Ah s) E E E ?_
 refine c0 q F414 ?_
 ((first|refine rG Γ hm ?_|refine rD Γ hm z_ ?_);(conv=>whnf);repeat((first|refine aF ?_|refine aT ?_);(first|refine rG Γ hm ?_|refine rD Γ hm z_ ?_);conv=>whnf))
 exact dN
theorem Et (n:Net) (hn:n.Fin) (hr:Af n=true) (dev vlan:Int):Sy.Spec Tryz.prog 168 [Ao n,Aa dev,Aa vlan] [] (Aa (B7 n dev vlan)) []:=by
 have q:=Lw n hn dev vlan
 rwa [O9,if_pos hr]at q
end Go.Sy.YtjenpnjajjplkaaGreatDoor
namespace Go.Sy.YtjenpnjajjplkaaGreatDoor
open Go.Proofs
attribute [local irreducible] Go.Sy.G Go.Sy.DR
set_option maxRecDepth 100000
set_option maxHeartbeats 4000000
theorem Ep {α:Type} {p:α→Bool} {l:List α} (h:¬ Br p l<0):∃ i:Nat,Br p l=i∧i<l.length:=by
 have:=U3 p l
 exact⟨(Br p l).toNat,by omega,by omega⟩
theorem Id (n:Net) (hn:n.Fin) (l:LineM) (hl:LineW l) (k:Int):Sy.Spec Tryz.prog 346 [Ao n,Aj l,Aa k] [] (.tup [Aa (begT n l k).1,Aa (begT n l k).2]) []:=cT F346 Tryz.ntmps346 fun F hF=>by
 have q1:=En l hl
 have q2:=Bn n hn
 have hres:=begT.eq_1 n l k
 have hf:=fitsB.eq_1 n l k
 generalize begT n l k=res at *
 generalize fitsB n l k=f at *
 cases h1:(l.kind == k) with
 | false =>
  have g1:(l.kind != k)=true:=by rw[bne,h1];rfl
  rw[h1,Bool.false_and]at hf
  rw[hf,if_pos rfl]at hres
  subst hres
  refine T ?_
  exact D
 | true =>
  have g1:(l.kind != k)=false:=by rw[bne,h1];rfl
  rw[h1,Bool.true_and]at hf
  cases h2:Bk l with
  | false =>
   rw[h2]at q1 hf
   rw[hf,Bool.false_and,if_pos rfl]at hres
   subst hres
   refine T ?_
   refine C q1 F343 ?_
   exact D
  | true =>
   rw[h2]at q1 hf
   cases h3:Af n with
   | false =>
    rw[h3]at q2 hf
    rw[hf,Bool.and_false,if_pos rfl]at hres
    subst hres
    refine T ?_
    refine C q1 F343 ?_
    refine C q2 F25 ?_
    exact D
   | true =>
    have q3:=Eb n hn h3 l.dev
    rw[h3]at q2 hf
    rw[hf,if_neg y_]at hres
    generalize Bi n l.dev=d at *
    by_cases h4:d<0
    ·have g4:decide (d<0)=true:=decide_eq_true h4
     rw[if_pos h4]at hres
     subst hres
     refine T ?_
     refine C q1 F343 ?_
     refine C q2 F25 ?_
     refine C q3 F340 ?_
     exact D
    ·have g4:decide (d<0)=false:=decide_eq_false h4
     rw[if_neg h4]at hres
     subst hres
     refine T ?_
     refine C q1 F343 ?_
     refine C q2 F25 ?_
     refine C q3 F340 ?_
     exact D
theorem Qe (n:Net) (hn:n.Fin) (l:LineM) (hl:LineW l) (k:Int):Sy.Spec Tryz.prog 347 [Ao n,Aj l,Aa k] [] (.tup [Aa (begT n l k).1,Aa (begT n l k).2]) []:=cT F347 Tryz.ntmps347 fun F hF=>by
 have q1:=En l hl
 have q2:=Bn n hn
 have hres:=begT.eq_1 n l k
 have hf:=fitsB.eq_1 n l k
 generalize begT n l k=res at *
 generalize fitsB n l k=f at *
 cases h1:(l.kind == k) with
 | false =>
  have g1:(l.kind != k)=true:=by rw[bne,h1];rfl
  rw[h1,Bool.false_and]at hf
  rw[hf,if_pos rfl]at hres
  subst hres
  refine T ?_
  exact D
 | true =>
  have g1:(l.kind != k)=false:=by rw[bne,h1];rfl
  rw[h1,Bool.true_and]at hf
  cases h2:Bk l with
  | false =>
   rw[h2]at q1 hf
   rw[hf,Bool.false_and,if_pos rfl]at hres
   subst hres
   refine T ?_
   refine C q1 F343 ?_
   exact D
  | true =>
   rw[h2]at q1 hf
   cases h3:Af n with
   | false =>
    rw[h3]at q2 hf
    rw[hf,Bool.and_false,if_pos rfl]at hres
    subst hres
    refine T ?_
    refine C q1 F343 ?_
    refine C q2 F25 ?_
    exact D
   | true =>
    have q3:=Eb n hn h3 l.dev
    rw[h3]at q2 hf
    rw[hf,if_neg y_]at hres
    generalize Bi n l.dev=d at *
    by_cases h4:d<0
    ·have g4:decide (d<0)=true:=decide_eq_true h4
     rw[if_pos h4]at hres
     subst hres
     refine T ?_
     refine C q1 F343 ?_
     refine C q2 F25 ?_
     refine C q3 F340 ?_
     exact D
    ·have g4:decide (d<0)=false:=decide_eq_false h4
     rw[if_neg h4]at hres
     subst hres
     refine T ?_
     refine C q1 F343 ?_
     refine C q2 F25 ?_
     refine C q3 F340 ?_
     exact D
theorem beg_ok {n:Net} {l:LineM} {k:Int} (h:(begT n l k).2=0):fitsB n l k=true∧Af n=true∧∃ i:Nat,(begT n l k).1=i∧i<n.devices.length:=by
 unfold begT at h ⊢
 cases hf:fitsB n l k with
 | false=>rw[hf,if_pos rfl]at h;exact absurd h j_
 | true =>
  rw[hf,if_neg y_]at h
  rw[if_neg y_]
  by_cases hd:Bi n l.dev<0
  ·rw[if_pos hd]at h;exact absurd h j_
  ·rw[if_neg hd]
   refine⟨E,?_,Ep hd⟩
   unfold fitsB at hf
   simp only[Bool.and_eq_true]at hf
   exact hf.2.2
theorem ownerC (a:Int) (d:Device):Sy.Spec Tryz.prog 166 [Au d,.ref 1 (A9 a) 0] [] (Ab (d.vtep == a)) []:=cT F166 Tryz.ntmps166 fun F hF=>by
 refine T ?_
 exact D
theorem Yn (n:Net) (hn:n.Fin) (a:Int):Sy.Spec Tryz.prog 64 [Ao n,A9 a] [] (Aa (C5 n a)) []:=cT F64 Tryz.ntmps64 fun F hF=>by
 have q:=Ee n.devices (fun d=>d.vtep == a) 166 [] [.ref 1 (A9 a) 0] rfl (fun d _=>⟨⟨_,_,F166⟩,ownerC a d⟩) hn.devices
 ((conv=>whnf);repeat((first|refine aF ?_|refine aT ?_);(first|refine rG Γ hm ?_|refine rD Γ hm z_ ?_);conv=>whnf))
 refine Bg 3 1 (A9 a) E E E ?_
 refine c0 q F165 ?_
 ((first|refine rG Γ hm ?_|refine rD Γ hm z_ ?_);(conv=>whnf);repeat((first|refine aF ?_|refine aT ?_);(first|refine rG Γ hm ?_|refine rD Γ hm z_ ?_);conv=>whnf))
 exact dN
theorem Aea (dev vni:Int) (d:Domain):Sy.Spec Tryz.prog 164 [Ai d,.ref 1 (Aa dev) 0,.ref 1 (Aa vni) 0] [] (Ab (d.dev == dev && (d.vni == vni && vni != 0))) []:=cT F164 Tryz.ntmps164 fun F hF=>by
 cases h:(d.dev == dev)
 ·refine T ?_
  exact D
 ·cases h2:(d.vni == vni)
  ·refine T ?_
   exact D
  ·refine T ?_
   exact D
theorem Lu (n:Net) (hn:n.Fin) (dev vni:Int):Sy.Spec Tryz.prog 63 [Ao n,Aa dev,Aa vni] [] (Aa (Ji n dev vni)) []:=cT F63 Tryz.ntmps63 fun F hF=>by
 have q:=Dd n.domains (fun d=>d.dev == dev && (d.vni == vni && vni != 0)) 164 [] [.ref 1 (Aa dev) 0,.ref 1 (Aa vni) 0] rfl (fun d _=>⟨⟨_,_,F164⟩,Aea dev vni d⟩) hn.domains
 ((conv=>whnf);repeat((first|refine aF ?_|refine aT ?_);(first|refine rG Γ hm ?_|refine rD Γ hm z_ ?_);conv=>whnf))
 refine Bg 4 1 (Aa dev) E E E ?_
 refine Bg 5 1 (Aa vni) E E E ?_
 refine c0 q F163 ?_
 ((first|refine rG Γ hm ?_|refine rD Γ hm z_ ?_);(conv=>whnf);repeat((first|refine aF ?_|refine aT ?_);(first|refine rG Γ hm ?_|refine rD Γ hm z_ ?_);conv=>whnf))
 exact dN
theorem Ad9 (dev vni:Int) (f:Flood):Sy.Spec Tryz.prog 162 [A3 f,.ref 1 (Aa dev) 0,.ref 1 (Aa vni) 0] [] (Ab (f.dev == dev && f.vni == vni)) []:=cT F162 Tryz.ntmps162 fun F hF=>by
 cases h:(f.dev == dev)
 ·refine T ?_
  exact D
 ·refine T ?_
  exact D
theorem Uq (n:Net) (hn:n.Fin) (dev vni:Int):Sy.Spec Tryz.prog 62 [Ao n,Aa dev,Aa vni] [] (Aa (Em n dev vni)) []:=cT F62 Tryz.ntmps62 fun F hF=>by
 have q:=Mw n.floods (fun f=>f.dev == dev && f.vni == vni) 162 [] [.ref 1 (Aa dev) 0,.ref 1 (Aa vni) 0] rfl (fun f _=>⟨⟨_,_,F162⟩,Ad9 dev vni f⟩) hn.floods
 ((conv=>whnf);repeat((first|refine aF ?_|refine aT ?_);(first|refine rG Γ hm ?_|refine rD Γ hm z_ ?_);conv=>whnf))
 refine Bg 4 1 (Aa dev) E E E ?_
 refine Bg 5 1 (Aa vni) E E E ?_
 refine c0 q F161 ?_
 ((first|refine rG Γ hm ?_|refine rD Γ hm z_ ?_);(conv=>whnf);repeat((first|refine aF ?_|refine aT ?_);(first|refine rG Γ hm ?_|refine rD Γ hm z_ ?_);conv=>whnf))
 exact dN
theorem Ad8 (n:Net) (hn:n.Fin) (l:LineM) (hl:LineW l):Sy.Spec Tryz.prog 284 [Ao n,Aj l] [] (.tup [Ao (putVtep n l).1,Aa (putVtep n l).2]) []:=cT F284 Tryz.ntmps284 fun F hF=>by
 have q1:=Id n hn l hl 5
 have hok:=@beg_ok n l 5
 have hres:=putVtep.eq_1 n l
 have q2:=Yn n hn l.addr
 have q3:=Jc n hn
 generalize putVtep n l=res at *
 generalize begT n l 5=b at *
 obtain ⟨d,e⟩:=b
 dsimp only at hres hok q1
 by_cases h1:e≠0
 ·have g1:(e != 0)=true:=by rw[bne_iff_ne];exact h1
  rw[if_pos h1]at hres
  subst hres
  refine T ?_
  refine C q1 F346 ?_
  refine Ae 4 (B1 emptyN) E (.cons .nil (.cons .nil (.cons .nil (.cons .nil (.cons .nil (.cons .nil (.cons .nil (.cons .nil .nil)))))))) ?_
  refine T ?_
  exact D
 have g1:(e != 0)=false:=by rw[bne_eq_false_iff_eq];omega
 rw[if_neg h1]at hres
 obtain ⟨_,_,i,hi,hlt⟩:=hok q_
 subst hi
 clear hok
 have hlt0:((i:Nat):Int).toNat<n.devices.length:=hlt
 have hnth:nth n.devices (i:Int)=n.devices[((i:Nat):Int).toNat]'hlt0:=A7 hlt0
 rw[hnth]at hres
 by_cases h2:(n.devices[((i:Nat):Int).toNat]'hlt0).vtep≠0
 ·have g2:((n.devices[((i:Nat):Int).toNat]'hlt0).vtep != 0)=true:=by rw[bne_iff_ne];exact h2
  rw[if_pos (.inl h2)]at hres
  subst hres
  refine T ?_
  refine C q1 F346 ?_
  refine Ae 4 (B1 emptyN) E (.cons .nil (.cons .nil (.cons .nil (.cons .nil (.cons .nil (.cons .nil (.cons .nil (.cons .nil .nil)))))))) ?_
  refine T ?_
  exact D
 have g2:((n.devices[((i:Nat):Int).toNat]'hlt0).vtep != 0)=false:=by rw[bne_eq_false_iff_eq];omega
 by_cases h3:0≤C5 n l.addr
 ·have g3:decide (C5 n l.addr≥0)=true:=decide_eq_true h3
  rw[if_pos (.inr h3)]at hres
  subst hres
  refine T ?_
  refine C q1 F346 ?_
  refine C q2 F64 ?_
  refine Ae 4 (B1 emptyN) E (.cons .nil (.cons .nil (.cons .nil (.cons .nil (.cons .nil (.cons .nil (.cons .nil (.cons .nil .nil)))))))) ?_
  refine T ?_
  exact D
 have g3:decide (C5 n l.addr≥0)=false:=decide_eq_false h3
 rw[if_neg (fun h=>h.elim h2 h3)]at hres
 have hset:Ul n.devices (i:Int) l.addr=n.devices.set ((i:Nat):Int).toNat { (n.devices[((i:Nat):Int).toNat]'hlt0) with vtep:=l.addr }:=by rw[Ul,hnth]
 rw[hset]at hres
 subst hres
 have hne:n.devices≠[]:=fun e=>by rw[e]at hlt;cases hlt
 refine T ?_
 refine C q1 F346 ?_
 refine C q2 F64 ?_
 refine X (Ac [(0,901),(1,902),(2,903),(3,904),(4,905),(5,906),(6,907),(7,908)] E F61 q3 E W E V) ?_
 refine⟨hne,?_⟩
 refine T ?_
 refine⟨{ (n.devices[((i:Nat):Int).toNat]'hlt0) with vtep:=l.addr },rfl,rfl,?_⟩
 refine T ?_
 refine Ag 901 E ?_
 refine Ag 902 E ?_
 refine Ag 903 E ?_
 refine Ag 904 E ?_
 refine Ag 905 E ?_
 refine Ag 906 E ?_
 refine Ag 907 E ?_
 refine Ag 908 E ?_
 exact D
end Go.Sy.YtjenpnjajjplkaaGreatDoor
namespace Go.Sy.YtjenpnjajjplkaaGreatDoor
open Go.Proofs
attribute [local irreducible] Go.Sy.G Go.Sy.DR
set_option maxRecDepth 20000
set_option maxHeartbeats 4000000
structure Hop where
 (kind port domain addr:Int)
instance:Inhabited Hop:=⟨⟨0,0,0,0⟩⟩
def domOK (n:Net) (d:Int):Prop:=(0≤d∧d<n.domains.length)∧Af n=true
instance (n:Net) (d:Int):Decidable (domOK n d):=inferInstanceAs (Decidable (_∧_))
structure Lead where
 (to domain addr:Int)
instance:Inhabited Lead:=⟨⟨0,0,0⟩⟩
structure Fnd where
 (domain kind:Int) (hop:Hop) (ahead:Int)
instance:Inhabited Fnd:=⟨⟨0,0,default,0⟩⟩
theorem Si {n:Net} (h:Af n=true) {i:Nat} (hi:i<n.ports.length) {v:Int} (hv:Cs n.ports[i] v=true):0≤B7 n n.ports[i].dev v∧(B7 n n.ports[i].dev v).toNat<n.domains.length:=by
 have hp:=Adf h hi
 simp only[Ij,Bool.and_eq_true,Bool.not_eq_true']at hp
 simp only[Cs,Bool.and_eq_true,bne_iff_ne,Bool.or_eq_true,beq_iff_eq]at hv
 have h0:0≤B7 n n.ports[i].dev v:=by
  rcases hv.2 with h1 | h1
  ·have h2:=hp.1.2
   have h3:=hp.1.1.1.1.1.1.1.2
   rw[h1]at hv ⊢
   have h4:decide (0<n.ports[i].native)=true:=by
    simp only[decide_eq_true_eq]at h3 ⊢
    omega
   rw[h4]at h2
   simpa [Cv] using h2
  ·have h2:=hp.1.1.2
   obtain ⟨x,hx,e⟩:=List.any_eq_true.1 h1
   obtain ⟨j,hj,rfl⟩:=List.mem_iff_getElem.1 hx
   have h3:=allB_iff.1 h2 j hj
   simp only[beq_iff_eq]at e
   rw[e]at h3
   simpa [Cv] using h3
 refine⟨h0,?_⟩
 have:=U3 (fun d:Domain=>d.dev == n.ports[i].dev && d.vlan == v) n.domains
 have e:B7 n n.ports[i].dev v=Br (fun d:Domain=>d.dev == n.ports[i].dev && d.vlan == v) n.domains:=rfl
 omega
theorem Oe {n:Net} {i v:Int} (h:(linkDomT n i v).2=true):0≤(linkDomT n i v).1∧(linkDomT n i v).1.toNat<n.domains.length:=by
 unfold linkDomT at h ⊢
 split at h
 ·rename_i hc
  rw[if_pos hc]
  have hth:=Ma hc
  unfold crossT at hc hth ⊢
  split at hc
  ·rename_i h1
   rw[if_pos h1]at hth ⊢
   have hb:=(I2 h1.1).2.1
   have h2:=h1.2.2
   rw[Qb]at h2 ⊢
   rw[O9,if_pos hb]
   dsimp only at hth ⊢
   rw[A7 hth.2]at h2 ⊢
   refine Si hb hth.2 ?_
   simp only[Cs,Bool.and_eq_true,bne_iff_ne,Bool.or_eq_true,beq_iff_eq]
   refine⟨h2,?_⟩
   split
   ·exact .inl E
   ·rename_i h3
    rw[if_neg h3]at h2
    split
    ·rename_i h4
     exact .inr h4
    ·rename_i h4
     rw[if_neg h4]at h2
     exact absurd E h2
  ·cases hc
 ·cases h
theorem e_peer {n:Net} (h:Af n=true) {i:Nat} (hi:i<n.domains.length) {p:Int} (hp:p∈n.domains[i].peers):0≤p∧p.toNat<n.domains.length:=by
 simp only[Af,Bool.and_eq_true]at h
 have h1:=allB_iff.1 h.1.1.1.1.1.1.2 i hi
 obtain ⟨j,hj,rfl⟩:=List.mem_iff_getElem.1 hp
 have h2:=allB_iff.1 h1 j hj
 simp only[Kx,Al,Bool.and_eq_true,decide_eq_true_eq]at h2
 omega
end Go.Sy.YtjenpnjajjplkaaGreatDoor
namespace Go.Sy
theorem Ac8 {P:Program} {o:Oper} {s:SS} {x y:Operand} {at_:Array TypeId} {k k':IntKind} {m n:Int} (h:o.op=.call ⟨.builtin .max,#[x,y],at_⟩)
  (hx:ev s x=.val (.int k m)) (hy:ev s y=.val (.int k' n)):Good P o s ⟨.val (.int k (if n>m then n else m)),[],[]⟩ :=
 Good.pure fun κ a w _ hr ho=>by
  have h1:=hr x (by simp[h,Op.operands,Call.operands])
  have h2:=hr y (by simp[h,Op.operands,Call.operands])
  rw[hx]at h1
  rw[hy]at h2
  refine⟨.int k (if n>m then n else m),?_,by simp[Rd]⟩
  simp[execOp,h,resolve,invoke,builtin,Builtin.max_,Builtin.max2,h1.val,h2.val]
end Go.Sy
namespace Go.Sy.YtjenpnjajjplkaaGreatDoor
open Go.Proofs
attribute [local irreducible] Go.Sy.G Go.Sy.DR
set_option maxRecDepth 100000
set_option maxHeartbeats 4000000
theorem Dm {f:List Int} (hf:B0 f) {i:Int} (h0:0≤i) (hi:i.toNat<f.length):0≤nth f i∧nth f i≤i:=by
 rw[A7 hi]
 have:=hf i.toNat hi
 omega
theorem Hs {f:List Int} (hf:B0 f) {i:Nat} (_hi:i<f.length) {x:Int} (h0:0≤x) (hx:x≤i):B0 (f.set i x):=by
 intro k hk
 rw[List.length_set]at hk
 rw[List.getElem_set]
 split
 ·rename_i e;subst e;exact⟨h0,hx⟩
 ·exact hf k hk
theorem Ti:∀ (m k k':Nat) (f:List Int) (i:Int),B0 f→0≤i→i.toNat<f.length→i.toNat≤m→i.toNat+1≤k→i.toNat+1≤k'→Vt k f i=Vt k' f i
 | m,0,_,_,_,_,_,_,_,h,_=>by omega
 | m,_+1,0,_,_,_,_,_,_,_,h=>by omega
 | m,k+1,k'+1,f,i,hf,h0,hi,hm,h1,h2=>by
  rw[Vt,Vt]
  by_cases e:nth f i=i
  ·rw[if_pos e,if_pos e]
  ·rw[if_neg e,if_neg e]
   obtain ⟨a1,a2⟩:=Dm hf h0 hi
   obtain ⟨b1,b2⟩:=Dm hf a1 (by omega:(nth f i).toNat<f.length)
   match m with
   | 0=>omega
   | m+1 =>
    exact Ti m k k' _ _ (Hs hf hi b1 q_) b1 (by rw[List.length_set];omega) q_ q_ q_
theorem Zl {f:List Int} {i:Int} (h:nth f i=i):E7 f i=(f,i):=by rw[E7,Vt,if_pos h]
theorem Vs {f:List Int} {i:Int} (hf:B0 f) (h0:0≤i) (hi:i.toNat<f.length) (h:nth f i≠i):E7 f i=E7 (f.set i.toNat (nth f (nth f i))) (nth f (nth f i)):=by
 obtain ⟨a1,a2⟩:=Dm hf h0 hi
 obtain ⟨b1,b2⟩:=Dm hf a1 (by omega:(nth f i).toNat<f.length)
 rw[E7,Vt,if_neg h,E7]
 exact Ti i.toNat _ _ _ _ (Hs hf hi b1 q_) b1 (by rw[List.length_set];omega) q_ q_ q_
theorem Ih:∀ (m:Nat) (f:List Int) (i:Int),B0 f→0≤i→i.toNat<f.length→i.toNat≤m→B0 (E7 f i).1∧(E7 f i).1.length=f.length∧0≤(E7 f i).2∧(E7 f i).2≤i
 | m,f,i,hf,h0,hi,hm=>by
  by_cases e:nth f i=i
  ·rw[Zl e];exact⟨hf,rfl,h0,Int.le_refl _⟩
  ·obtain ⟨a1,a2⟩:=Dm hf h0 hi
   obtain ⟨b1,b2⟩:=Dm hf a1 (by omega:(nth f i).toNat<f.length)
   rw[Vs hf h0 hi e]
   match m with
   | 0=>omega
   | m+1 =>
    obtain ⟨c1,c2,c3,c4⟩:=Ih m _ _ (Hs hf hi b1 q_) b1 (by rw[List.length_set];omega:(nth f (nth f i)).toNat<(f.set i.toNat (nth f (nth f i))).length) q_
    exact⟨c1,by rw[c2,List.length_set],c3,by omega⟩
theorem Q4 {f:List Int} {a b:Int} (hf:B0 f) (ha:0≤a∧a.toNat<f.length) (hb:0≤b∧b.toNat<f.length):B0 (K2 f a b).1∧(K2 f a b).1.length=f.length:=by
 obtain ⟨a1,a2,a3,a4⟩:=Ih a.toNat f a hf ha.1 ha.2 (Nat.le_refl _)
 obtain ⟨b1,b2,b3,b4⟩:=Ih b.toNat (E7 f a).1 b a1 hb.1 q_ (Nat.le_refl _)
 unfold K2
 dsimp only
 generalize E7 (E7 f a).1 b=y at *
 generalize E7 f a=x at *
 refine⟨Hs b1 q_ q_ q_,by rw[List.length_set];omega⟩
theorem Vk (k:Nat):B0 (Hv k)∧(Hv k).length=k:=by
 refine⟨fun i hi=>?_,by simp[Hv]⟩
 simp[Hv]
def alJ (k j:Nat):List Int:=(List.range j).map (fun i:Nat=>(i:Int))++List.replicate (k-j) 0
theorem Ads (k:Nat):alJ k 0=List.replicate k 0:=by simp[alJ]
theorem Aeu (k j:Nat) (h:j≤k):(alJ k j).length=k:=by simp[alJ];omega
theorem Adt (k j:Nat) (h:j<k):(alJ k j).set ((j:Nat):Int).toNat (j:Int)=alJ k (j+1):=by
 have hl:((List.range j).map (fun i:Nat=>(i:Int))).length=j:=by simp
 rw[Int.toNat_natCast,alJ,alJ,List.set_append_right _ _ q_,hl,Nat.sub_self,show k-j=(k-(j+1))+1 by omega,List.replicate_succ,List.set_cons_zero,List.range_succ,List.map_append,List.append_assoc]
 rfl
theorem aloneS (k:Nat) (hk:k≤100000):Sy.Spec Tryz.prog 65 [Aa k] [] (.osl 900) [(900,.row 1 Aa (Hv k))]:=cT F65 Tryz.ntmps65 fun F hF=>by
 have hfull:alJ k k=Hv k:=by simp[alJ,Hv]
 refine T ?_
 refine X (Sb Γ.toTy (d:=6) (n:=k) Aa 0 E E E E E E E E q_ q_ E E E) ?_
 refine T ?_
 refine B3 (fun j:Nat=>j≤k) (fun j=>[(3,.osl 1000),(8,Aa k),(9,Aa j)]) (fun j=>[(1000,.row 1 Aa (alJ k j))]) (fun j=>k-j) 0 [(1000,6)] q_ ⟨⟨E,E,congrArg Aa (by rw[List.length_replicate]),E,E,E,Y⟩,⟨.inl (congrArg (Ob.row 1 Aa) (Ads k)),E,Y⟩,E,E⟩ ?_
 intro j hj
 have hl:=Aeu k j hj
 refine T ?_
 refine⟨fun h=>?_,fun h=>?_⟩
 ·have hlt:j<k:=qA h
  clear h
  have hne:alJ k j≠[]:=fun e=>by rw[e]at hl;simp at hl;omega
  have hnx:=Adt k j hlt
  refine T ?_
  refine⟨(j:Int),E,E,?_⟩
  refine T ?_
  exact Az (j+1) [] hlt q_ ⟨⟨E,E,E,E,E,E,Y⟩,⟨.inl (congrArg (Ob.row 1 Aa) hnx.symm),E,Y⟩,E,E⟩
 ·have hje:j=k:=qB h
  clear h
  subst hje
  rw[hfull]
  refine T ?_
  exact done E (.cons .tmp .nil) [(900,1000)] [(900,.row 1 Aa (Hv j))] (fun _ h=>h) E E U
theorem Aaj (l:List Int) (h0:0<l.length) (hl:l.length<2147483648):Sy.Spec Tryz.prog 67 [.sl 1 Aa l] [] (Aa (Wh l)) []:=cT F67 Tryz.ntmps67 fun F hF=>by
 have f0:decide ((l.length:Int)<1)=false:=decide_eq_false q_
 have hz:(0:Int).toNat<l.length:=h0
 have hst:Wh l=S6 (l[(0:Int).toNat]'hz) (l.drop 1):=by rw[Wh,A7 hz]
 refine T ?_
 refine B3 (fun x:Nat × Int=>1≤x.1∧x.1≤l.length∧Wh l=S6 x.2 (l.drop x.1)) (fun x=>[(0,.sl 1 Aa l),(3,Aa x.2),(4,Aa x.1)]) (fun _=>[]) (fun x=>l.length-x.1) (1,l[(0:Int).toNat]'hz) [] ⟨by omega,by omega,hst⟩ U ?_
 rintro ⟨i,m⟩ ⟨h1,h2,hI⟩
 dsimp only at h1 h2 hI ⊢
 refine T ?_
 refine⟨fun h=>?_,fun h=>?_⟩
 ·have hlt:i<l.length:=qA h
  have hlt0:((i:Nat):Int).toNat<l.length:=hlt
  clear h
  rw[List.drop_eq_getElem_cons hlt,S6]at hI
  refine T ?_
  refine X (Sa E E E) ?_
  exact Az (i+1,min m l[i]) [] ⟨by dsimp only;omega,hlt,hI⟩ (by dsimp only;omega) ⟨⟨E,E,congrArg Aa (by dsimp only;show min m l[i]=if l[i]<m then l[i] else m;omega),E,E,E,Y⟩,Y,E,E⟩
 ·have hie:i=l.length:=qB h
  clear h
  rw[hie,List.drop_length,S6]at hI
  rw[hI]
  refine T ?_
  exact D
theorem topS (f:List Int) (i:Int) (hf:B0 f) (h0:0≤i) (hi:i.toNat<f.length) (hl:f.length≤100000):Sy.Spec Tryz.prog 169 [.osl 900,Aa i] [(900,.row 1 Aa f)] (Aa (E7 f i).2) [(900,.row 1 Aa (E7 f i).1)]:=cT F169 Tryz.ntmps169 fun F hF=>by
 refine T ?_
 refine B3 (fun x:List Int × Int=>B0 x.1∧x.1.length=f.length∧0≤x.2∧x.2.toNat<f.length∧E7 f i=E7 x.1 x.2) (fun x=>[(0,.osl 900),(1,Aa x.2)]) (fun x=>[(900,.row 1 Aa x.1)]) (fun x=>x.2.toNat) (f,i) [] ⟨hf,E,h0,hi,E⟩ U ?_
 rintro ⟨g,k⟩ ⟨h1,h2,h3,h4,hI⟩
 dsimp only at h1 h2 h3 h4 hI ⊢
 have hk0:k.toNat<g.length:=by omega
 have hn:=A7 hk0
 by_cases e:nth g k=k
 ·have hb:(g[k.toNat] == k)=true:=by rw[← hn];exact beq_iff_eq.mpr e
  have hb':(!(g[k.toNat] == k))=false:=by rw[hb];rfl
  rw[hI,Zl e]
  refine T ?_
  exact done E (.cons .tmp .nil) [(900,900)] [(900,.row 1 Aa g)] (fun _ h=>h) E E U
 ·obtain ⟨a1,a2⟩:=Dm h1 h3 hk0
  obtain ⟨b1,b2⟩:=Dm h1 a1 (by omega:(nth g k).toNat<g.length)
  have hk1:(g[k.toNat]'hk0).toNat<g.length:=by omega
  have hn1:nth g (nth g k)=g[(g[k.toNat]'hk0).toNat]'hk1:=by rw[hn];exact A7 hk1
  have hs:=Vs h1 h3 hk0 e
  have hb:(g[k.toNat] == k)=false:=by rw[← hn];exact beq_eq_false_iff_ne.mpr e
  have hb':(!(g[k.toNat] == k))=true:=by rw[hb];rfl
  refine T ?_
  refine⟨nth g (nth g k),congrArg (fun x=>cellsOf (Aa x)) hn1,E,?_⟩
  have hk2:k.toNat<(g.set k.toNat (nth g (nth g k))).length:=by rw[List.length_set];exact hk0
  have hn2:(g.set k.toNat (nth g (nth g k)))[k.toNat]'hk2=nth g (nth g k):=List.getElem_set_self _
  refine T ?_
  refine Az (g.set k.toNat (nth g (nth g k)),nth g (nth g k)) [] ⟨Hs h1 hk0 b1 q_,by dsimp only;rw[List.length_set];exact h2,b1,by dsimp only;omega,by dsimp only;rw[hI,hs]⟩ (by dsimp only;omega) ⟨⟨E,E,congrArg Aa hn2.symm,E,Y⟩,⟨.inl E,E,Y⟩,E,E⟩
theorem Ae5 (f:List Int) (a b:Int) (hf:B0 f) (ha:0≤a∧a.toNat<f.length) (hb:0≤b∧b.toNat<f.length) (hl:f.length≤100000):Sy.Spec Tryz.prog 68 [.osl 900,Aa a,Aa b] [(900,.row 1 Aa f)] (Ab (K2 f a b).2) [(900,.row 1 Aa (K2 f a b).1)]:=cT F68 Tryz.ntmps68 fun F hF=>by
 obtain ⟨a1,a2,a3,a4⟩:=Ih a.toNat f a hf ha.1 ha.2 (Nat.le_refl _)
 obtain ⟨b1,b2,b3,b4⟩:=Ih b.toNat (E7 f a).1 b a1 hb.1 q_ (Nat.le_refl _)
 have F1:=topS f a hf ha.1 ha.2 hl
 have F2:=topS (E7 f a).1 b a1 hb.1 q_ q_
 rw[K2]
 dsimp only
 generalize hy:E7 (E7 f a).1 b=y at *
 generalize hx:E7 f a=x at *
 have hm:(if y.2>x.2 then y.2 else x.2).toNat<y.1.length:=by split<;>omega
 have hm0:0≤(if y.2>x.2 then y.2 else x.2):=by split<;>omega
 have e1:(max x.2 y.2).toNat=(if y.2>x.2 then y.2 else x.2).toNat:=by rw[Int.max_def];split<;>split<;>omega
 have e2:(min x.2 y.2)=(if y.2<x.2 then y.2 else x.2):=by rw[Int.min_def];split<;>split<;>omega
 rw[e1,e2]
 refine T ?_
 refine X (Ac [(900,900)] E F169 F1 E W E V) ?_
 refine T ?_
 refine X (Ac [(900,900)] E F169 F2 E W E V) ?_
 refine T ?_
 refine X (Ac8 E E E) ?_
 refine T ?_
 refine X (Sa E E E) ?_
 refine T ?_
 refine⟨_,E,E,?_⟩
 refine T ?_
 exact done E (.cons .tmp .nil) [(900,900)] [(900,.row 1 Aa (y.1.set (if y.2>x.2 then y.2 else x.2).toNat (if y.2<x.2 then y.2 else x.2)))] (fun _ h=>h) E E U
theorem Ly {n:Net} {i:Nat} {v:Int} (h:(linkDomT n i v).2=true) (hi:i<n.ports.length):Cs n.ports[i] v=true:=by
 have e:nth n.ports ((i:Nat):Int)=n.ports[i]:=A7 (l:=n.ports) (i:=((i:Nat):Int)) hi
 unfold linkDomT at h
 split at h
 ·rename_i h3
  unfold crossT at h3
  split at h3
  ·rename_i h4
   rw[e]at h4
   exact h4.2.1
  ·cases h3
 ·cases h
theorem K0 {n:Net} (hr:Af n=true) {f:List Int} {i:Nat} (hi:i<n.ports.length) {v:Int} (hf:B0 f) (hl:n.domains.length≤f.length):B0 (B9 n f i v)∧(B9 n f i v).length=f.length:=by
 unfold B9
 split
 ·rename_i h
  have h2:=Oe h
  have hm:Cs n.ports[i] v=true:=Ly h hi
  have h3:=Si hr hi hm
  have e:nth n.ports ((i:Nat):Int)=n.ports[i]:=A7 (l:=n.ports) (i:=((i:Nat):Int)) hi
  rw[e]
  exact Q4 hf ⟨h3.1,by omega⟩ ⟨h2.1,by omega⟩
 ·exact⟨hf,E⟩
theorem E2 {α:Type} {g:List Int→α→List Int} {k:Nat}:∀ {l:List α} {f:List Int},(∀ a∈l,∀ f,B0 f→k≤f.length→B0 (g f a)∧(g f a).length=f.length)→B0 f→k≤f.length→B0 (l.foldl g f)∧(l.foldl g f).length=f.length
 | [],_,_,h,_=>⟨h,rfl⟩
 | a::l,f,hg,h,hk=>by
  obtain ⟨h1,h2⟩:=hg a y_ f h hk
  obtain ⟨h3,h4⟩:=E2 (l:=l) (fun b hb=>hg b (by simp[hb])) h1 (by omega:k≤(g f a).length)
  exact⟨h3,by rw[List.foldl_cons,h4,h2]⟩
theorem Jz {n:Net} (hr:Af n=true) {f:List Int} {i:Nat} (hi:i<n.ports.length) (hf:B0 f) (hl:n.domains.length≤f.length):B0 (Dy n f i)∧(Dy n f i).length=f.length :=
 E2 (fun _ _ _ h1 h2=>K0 hr hi h1 h2) hf hl
theorem U0 {n:Net} (hr:Af n=true) {f:List Int} (hf:B0 f) (hl:n.domains.length≤f.length):B0 (Kf n f)∧(Kf n f).length=f.length :=
 E2 (fun i hi _ h1 h2=>Jz hr (by simpa using hi) h1 h2) hf hl
theorem Vh (l:List Int) (hl:l.length<2147483648):Sy.Spec Tryz.prog 159 [.sl 1 Aa l] [] (.osl 0) [(0,.row 1 Aa l)]:=cT F159 Tryz.ntmps159 fun F hF=>by
 ((conv=>whnf);repeat((first|refine aF ?_|refine aT ?_);(first|refine rG Γ hm ?_|refine rD Γ hm z_ ?_);conv=>whnf))
 refine D8 E (.inl E) E E E .sl E E ?_
 intro b hb
 cases b
 ·((first|refine rG Γ hm ?_|refine rD Γ hm z_ ?_);(conv=>whnf);repeat((first|refine aF ?_|refine aT ?_);(first|refine rG Γ hm ?_|refine rD Γ hm z_ ?_);conv=>whnf))
  refine Cg (Ak Γ.toTy 7 E E E E E (.lit (e:=Aa) (l:=[]) E E) .sl y_ (by simp;omega) (by simp;omega)) E E ?_
  ((first|refine rG Γ hm ?_|refine rD Γ hm z_ ?_);(conv=>whnf);repeat((first|refine aF ?_|refine aT ?_);(first|refine rG Γ hm ?_|refine rD Γ hm z_ ?_);conv=>whnf))
  exact done E (.cons .tmp .nil) [(0,7)] [(0,.row 1 Aa l)] (fun _ h=>h) E E ⟨Y,⟨.inl E,E,Y⟩,E,E⟩
 ·have h0:l=[]:=List.eq_nil_of_length_eq_zero (hb rfl)
  subst h0
  ((first|refine rG Γ hm ?_|refine rD Γ hm z_ ?_);(conv=>whnf);repeat((first|refine aF ?_|refine aT ?_);(first|refine rG Γ hm ?_|refine rD Γ hm z_ ?_);conv=>whnf))
  refine C3 2 1000 1 Aa E E ?_
  exact done E (.cons .tmp .nil) [(0,1000)] [(0,.row 1 Aa [])] (fun _ h=>h) E E ⟨Y,⟨.inl E,E,Y⟩,E,E⟩
theorem Aeg (n:Net) (f:List Int) (hn:n.Fin) (hr:Af n=true) (hf:B0 f) (hl:n.domains.length≤f.length) (hl2:f.length≤100000):Sy.Spec Tryz.prog 66 [Ao n,.osl 900] [(900,.row 1 Aa f)] (.tup []) [(900,.row 1 Aa (Kf n f))]:=cT F66 Tryz.ntmps66 fun F hF=>by
 have hp:n.ports.length<2147483648:=hn.ports
 refine T ?_
 refine Bg 2 8 (Ao n) E E E ?_
 refine T ?_
 refine Ev n.ports.length (fun j=>[(1,.osl 900),(2,.ref 8 (Ao n) 0),(11,.sl 7 A2 n.ports),(12,Aa n.ports.length),(13,Aa j)]) (fun j=>[(900,.row 1 Aa ((List.range j).foldl (Dy n) f))]) [] U ?_
 intro j hj
 refine T ?_
 refine⟨fun h=>?_,fun h=>?_⟩
 ·have hlt:j<n.ports.length:=qA h
  have hj0:((j:Nat):Int).toNat<n.ports.length:=hlt
  clear h
  have htag:n.ports[((j:Nat):Int).toNat].tagged.length<2147483648:=hn.tagged _ (List.getElem_mem hj0)
  have htag2:n.ports[j].tagged.length<2147483648:=htag
  have hnp:nth n.ports ((j:Nat):Int)=n.ports[((j:Nat):Int).toNat]:=A7 hj0
  obtain ⟨g1,g2⟩:B0 ((List.range j).foldl (Dy n) f)∧((List.range j).foldl (Dy n) f).length=f.length:=E2 (fun i hi _ h1 h2=>Jz hr (by have:=List.mem_range.1 hi;omega) h1 h2) hf hl
  refine T ?_
  refine Xd (Ac [(0,60)] E F159 (Vh n.ports[((j:Nat):Int).toNat].tagged htag) E Y E ⟨.inr E,Y⟩) ?_
  refine T ?_
  refine Xd (Ak Γ.toTy 61 rfl rfl rfl rfl rfl (.row rfl) (.lit (e:=Aa) (l:=[n.ports[((j:Nat):Int).toNat].native]) rfl rfl) (by intro k hk;cases hk;decide) (by simp;omega) (by simp;omega)) ?_
  refine T ?_
  refine Bg 5 7 (A2 n.ports[((j:Nat):Int).toNat]) E E E ?_
  have hlen:(n.ports[((j:Nat):Int).toNat].tagged++[n.ports[((j:Nat):Int).toNat].native]).length=n.ports[((j:Nat):Int).toNat].tagged.length+1:=by simp
  refine T ?_
  obtain ⟨vl,hvl⟩:∃ vl,n.ports[((j:Nat):Int).toNat].tagged++[n.ports[((j:Nat):Int).toNat].native]=vl:=⟨_,rfl⟩
  have hvlen:vl.length<2147483649:=by rw[← hvl,hlen];omega
  obtain ⟨fj,hfj⟩:∃ fj,(List.range j).foldl (Dy n) f=fj:=⟨_,rfl⟩
  rw[hfj]at g1 g2
  refine Ev vl.length (fun i=>[(1,.osl 900),(2,.ref 8 (Ao n) 0),(4,Aa j),(5,.ref 7 (A2 n.ports[((j:Nat):Int).toNat]) 0),(11,.sl 7 A2 n.ports),(12,Aa n.ports.length),(13,Aa j),(24,.osl 1000),(25,Aa vl.length),(26,Aa i)])
   (fun i=>[(900,.row 1 Aa ((vl.take i).foldl (fun f v=>B9 n f j v) fj)),(1000,.row 1 Aa vl)]) [(1000,61)] ⟨⟨rfl,rfl,rfl,rfl,rfl,rfl,rfl,rfl,rfl,rfl,rfl,rfl,rfl,rfl,rfl,rfl,congrArg (fun l:List Int=>Aa l.length) hvl.symm,rfl,rfl,rfl,trivial⟩,⟨.inl (congrArg (Ob.row 1 Aa) hfj.symm),rfl,.inl (congrArg (Ob.row 1 Aa) hvl.symm),rfl,trivial⟩,rfl,rfl⟩ ?_
  intro i hi
  refine T ?_
  refine⟨fun h=>?_,fun h=>?_⟩
  ·have hit:i<vl.length:=qA h
   have hi0:((i:Nat):Int).toNat<vl.length:=hit
   clear h
   obtain ⟨e1,e2⟩:B0 ((vl.take i).foldl (fun f v=>B9 n f j v) fj)∧((vl.take i).foldl (fun f v=>B9 n f j v) fj).length=fj.length:=E2 (fun _ _ _ h1 h2=>K0 hr hlt h1 h2) g1 q_
   have hnx:(vl.take (i+1)).foldl (fun f v=>B9 n f j v) fj=B9 n ((vl.take i).foldl (fun f v=>B9 n f j v) fj) j (vl[((i:Nat):Int).toNat]'hi0):=by
    rw[List.take_succ_eq_append_getElem hit,List.foldl_append];rfl
   have q:=Uz n hn j (vl[((i:Nat):Int).toNat]'hi0)
   refine T ?_
   refine C q F167 ?_
   cases hb:(linkDomT n j (vl[((i:Nat):Int).toNat]'hi0)).2
   ·have hz:B9 n ((vl.take i).foldl (fun f v=>B9 n f j v) fj) j (vl[((i:Nat):Int).toNat]'hi0)=(vl.take i).foldl (fun f v=>B9 n f j v) fj:=by rw[B9,if_neg (by rw[hb];decide)]
    rw[hz]at hnx
    refine T ?_
    exact Hw [] q_ ⟨⟨E,E,E,E,E,E,E,E,E,E,E,E,E,E,E,E,E,E,E,E,Y⟩,⟨.inl (congrArg (Ob.row 1 Aa) hnx),E,.inl E,E,Y⟩,E,E⟩
   ·have hin:=Oe hb
    have hm:Cs (n.ports[((j:Nat):Int).toNat]'hj0) (vl[((i:Nat):Int).toNat]'hi0)=true:=Ly hb hlt
    have hdm:=Si hr hlt hm
    have q2:=Et n hn hr (n.ports[((j:Nat):Int).toNat]'hj0).dev (vl[((i:Nat):Int).toNat]'hi0)
    have hz:B9 n ((vl.take i).foldl (fun f v=>B9 n f j v) fj) j (vl[((i:Nat):Int).toNat]'hi0)=(K2 ((vl.take i).foldl (fun f v=>B9 n f j v) fj) (B7 n (n.ports[((j:Nat):Int).toNat]'hj0).dev (vl[((i:Nat):Int).toNat]'hi0)) (linkDomT n j (vl[((i:Nat):Int).toNat]'hi0)).1).1:=by rw[B9,if_pos hb,hnp]
    rw[hz]at hnx
    have q3:=Ae5 ((vl.take i).foldl (fun f v=>B9 n f j v) fj) (B7 n (n.ports[((j:Nat):Int).toNat]'hj0).dev (vl[((i:Nat):Int).toNat]'hi0)) (linkDomT n j (vl[((i:Nat):Int).toNat]'hi0)).1 e1 ⟨hdm.1,Nat.lt_of_lt_of_le hdm.2 q_⟩ ⟨hin.1,by omega⟩ q_
    refine T ?_
    refine C q2 F168 ?_
    refine T ?_
    refine X (Ac [(900,900)] E F68 q3 E W E V) ?_
    refine T ?_
    exact Hw [] q_ ⟨⟨E,E,E,E,E,E,E,E,E,E,E,E,E,E,E,E,E,E,E,E,Y⟩,⟨.inl (congrArg (Ob.row 1 Aa) hnx),E,.inl E,E,Y⟩,E,E⟩
  ·have hie:i=vl.length:=qB h
   clear h
   subst hie
   have hnx:(List.range (j+1)).foldl (Dy n) f=(vl.take vl.length).foldl (fun f v=>B9 n f j v) fj:=by
    rw[List.range_succ,List.foldl_append,hfj,List.take_length,← hvl]
    show Dy n fj j=_
    rw[Dy,hnp]
   refine T ?_
   exact Hw [] q_ ⟨⟨E,E,E,E,E,E,E,E,E,E,Y⟩,⟨.inl (congrArg (Ob.row 1 Aa) hnx),E,Y⟩,E,E⟩
 ·have hje:j=n.ports.length:=qB h
  clear h
  subst hje
  refine T ?_
  exact Cb E .nil [(900,900)] [(900,.row 1 Aa (Kf n f))] (fun _ h=>h) E E U
end Go.Sy.YtjenpnjajjplkaaGreatDoor
namespace Go.Sy.YtjenpnjajjplkaaGreatDoor
open Go.Proofs
attribute [local irreducible] Go.Sy.G Go.Sy.DR
set_option maxRecDepth 100000
set_option maxHeartbeats 4000000
theorem Zs:∀ (l:List Int) (m:Int),S6 m l=m∨S6 m l∈l
 | [],_=>.inl rfl
 | x::l,m=>by
  rw[S6]
  rcases Zs l (min m x) with h | h
  ·rw[h,Int.min_def]
   split
   ·exact .inl E
   ·exact .inr y_
  ·exact .inr (by simp[h])
theorem Aee {l:List Int} (h:l≠[]):Wh l∈l:=by
 match l,h with
 | x::l,_ =>
  show S6 (nth (x::l) 0) l∈x::l
  rw[show nth (x::l) 0=x from rfl]
  rcases Zs l x with h | h
  ·rw[h];simp
  ·simp[h]
theorem loopS (n:Net) (hn:n.Fin):Sy.Spec Tryz.prog 24 [Ao n] [] (.tup [Aa (loopT n).1,Ab (loopT n).2]) []:=cT F24 Tryz.ntmps24 fun F hF=>by
 have qn:=Bn n hn
 have hT:=loopT.eq_1 n
 generalize loopT n=res at *
 cases hr:Af n with
 | false =>
  rw[hr]at qn
  rw[hr,if_pos rfl]at hT
  subst hT
  refine T ?_
  refine C qn F25 ?_
  refine T ?_
  exact D
 | true =>
 rw[hr]at qn
 rw[hr,if_neg y_]at hT
 obtain ⟨_,_,_,hmany,_⟩:=Adg hr
 obtain ⟨fa1,fa2⟩:=Vk (2 * n.domains.length)
 have fl:=U0 hr fa1 q_
 have q1:=aloneS (2 * n.domains.length) q_
 rw[show ((2 * n.domains.length:Nat):Int)=2 * (n.domains.length:Int) from by omega]at q1
 have q2:=Aeg n (Hv (2 * n.domains.length)) hn hr fa1 q_ q_
 refine T ?_
 refine C qn F25 ?_
 refine Bg 1 8 (Ao n) E E E ?_
 refine T ?_
 refine X (Ac [(900,700)] E F65 q1 E W E V) ?_
 refine T ?_
 refine X (Ac [(900,700)] E F66 q2 E W E V) ?_
 refine T ?_
 refine B3 (fun x:Nat × List Int=>x.1≤n.domains.length∧B0 x.2∧x.2.length=2 * n.domains.length∧res=Mu n x.2 x.1 (n.domains.drop x.1)) (fun x=>[(1,.ref 8 (Ao n) 0),(4,Aa n.domains.length),(5,.osl 1000),(22,.sl 6 Ai n.domains),(23,Aa n.domains.length),(24,Aa x.1)])
  (fun x=>[(1000,.row 1 Aa x.2)]) (fun x=>n.domains.length-x.1) (0,Kf n (Hv (2 * n.domains.length))) [(1000,700)] ⟨by omega,fl.1,by dsimp only;rw[fl.2,fa2],hT⟩ U ?_
 rintro ⟨i,f⟩ ⟨h1,h2,h3,hI⟩
 dsimp only at h1 h2 h3 hI ⊢
 refine T ?_
 refine⟨fun h=>?_,fun h=>?_⟩
 ·have hlt:i<n.domains.length:=qA h
  have hi0:((i:Nat):Int).toNat<n.domains.length:=hlt
  clear h
  rw[List.drop_eq_getElem_cons hlt,Mu]at hI
  have hpl:n.domains[((i:Nat):Int).toNat].peers.length<2147483648:=hn.peers _ (List.getElem_mem hi0)
  refine T ?_
  refine⟨fun h=>?_,fun h=>?_⟩
  ·have hpe:n.domains[i].peers=[]:=List.eq_nil_of_length_eq_zero (by have:=eq_of_beq h;have e:(n.domains[((i:Nat):Int).toNat]'hi0).peers.length=n.domains[i].peers.length:=rfl;omega)
   clear h
   rw[if_pos hpe]at hI
   refine T ?_
   exact Az (i+1,f) [] ⟨hlt,h2,h3,hI⟩ (by dsimp only;omega) ⟨⟨E,E,E,E,E,E,E,E,E,E,E,E,Y⟩,⟨.inl E,E,Y⟩,E,E⟩
  have hpe:n.domains[i].peers≠[]:=fun e=>by
   have e2:(n.domains[((i:Nat):Int).toNat]'hi0).peers=[]:=e
   rw[e2]at h
   cases h
  clear h
  rw[if_neg hpe]at hI
  dsimp only at hI
  have hpm:=e_peer hr hlt (Aee hpe)
  have qm:=Aaj (n.domains[((i:Nat):Int).toNat]'hi0).peers (by have:=List.length_pos_iff.2 hpe;exact this) hpl
  obtain ⟨m,hm⟩:∃ m,Wh (n.domains[((i:Nat):Int).toNat]'hi0).peers=m:=⟨_,rfl⟩
  have hm':Wh n.domains[i].peers=m:=hm
  have emin:min (i:Int) m=if m<(i:Int) then m else (i:Int):=by rw[Int.min_def];split<;>split<;>omega
  rw[hm]at qm
  rw[hm']at hI hpm
  rw[emin]at hI
  have hmb:0≤(if m<(i:Int) then m else (i:Int))∧(if m<(i:Int) then m else (i:Int))<n.domains.length:=by split<;>omega
  have q3:=Ae5 f i ((n.domains.length:Int)+(if m<(i:Int) then m else (i:Int))) h2 ⟨by omega,by omega⟩ ⟨by omega,by omega⟩ q_
  have q3f:=Q4 h2 (⟨by omega,by omega⟩:0≤(i:Int)∧(i:Int).toNat<f.length) (⟨by omega,by omega⟩:0≤(n.domains.length:Int)+(if m<(i:Int) then m else (i:Int))∧((n.domains.length:Int)+(if m<(i:Int) then m else (i:Int))).toNat<f.length)
  have hb48:(n.domains.length:Int)+(if m<(i:Int) then m else (i:Int))<100:=by omega
  generalize (K2 f i ((n.domains.length:Int)+(if m<(i:Int) then m else (i:Int))))=r at *
  obtain ⟨g,ok⟩:=r
  dsimp only at hI q3f
  refine T ?_
  refine C qm F67 ?_
  refine T ?_
  refine X (Sa E E E) ?_
  refine T ?_
  refine X (Ac [(900,1000)] E F68 q3 E W E V) ?_
  cases ok with
  | false =>
   rw[if_pos rfl]at hI
   rw[hI]
   refine T ?_
   exact D
  | true =>
   rw[if_neg j_]at hI
   refine T ?_
   exact Az (i+1,g) [] ⟨hlt,q3f.1,by dsimp only;omega,hI⟩ (by dsimp only;omega) ⟨⟨E,E,E,E,E,E,E,E,E,E,E,E,Y⟩,⟨.inl E,E,Y⟩,E,E⟩
 ·have hie:i=n.domains.length:=qB h
  clear h
  rw[hie,List.drop_length,Mu]at hI
  rw[hI]
  refine T ?_
  exact D
theorem Tx (l:List Int) (x:Int) (hl:Aq l):Sy.Spec Tryz.prog 249 [.sl 1 A9 l,A9 x] [] (Aa (Br (· == x) l)) []:=cT F249 Tryz.ntmps249 fun F hF=>by
 unfold Aq at hl
 ((conv=>whnf);repeat((first|refine aF ?_|refine aT ?_);(first|refine rG Γ hm ?_|refine rD Γ hm z_ ?_);conv=>whnf))
 refine A6 l.length (fun j=>∀ i (h:i<l.length),i<j→(l[i] == x)=false) (fun j=>[(0,.sl 1 A9 l),(1,A9 x),(7,Aa l.length),(8,Aa j)]) (fun _=>[]) [] (fun i h hj=>absurd hj q_) ⟨⟨E,E,E,E,E,E,E,E,Y⟩,Y,E,E⟩ ?_
 intro j hj hI
 ((first|refine rG Γ hm ?_|refine rD Γ hm z_ ?_);(conv=>whnf);repeat((first|refine aF ?_|refine aT ?_);(first|refine rG Γ hm ?_|refine rD Γ hm z_ ?_);conv=>whnf))
 (repeat' (first | (refine⟨fun h=>?_,fun h=>?_⟩<;>(repeat (first | simp only[Al]at h | simp only[decide_eq_true_eq]at h | simp only[decide_eq_false_iff_not]at h | simp only[beq_iff_eq]at h | simp only[beq_eq_false_iff_ne]at h | simp only[bne_iff_ne]at h | simp only[bne_eq_false_iff_eq]at h | simp only[Bool.and_eq_true]at h | simp only[Bool.or_eq_true]at h | simp only[Bool.and_eq_false_iff]at h | simp only[Bool.or_eq_false_iff]at h | simp only[Bool.not_eq_true']at h | simp only[Bool.not_eq_false']at h | simp only[Bool.not_eq_eq_eq_not]at h | simp only[Bool.not_true]at h | simp only[Bool.not_false]at h))<;>((first|refine rg ?_|refine rd z_ ?_);(conv=>whnf);repeat((first|refine aF ?_|refine aT ?_);(first|refine rg ?_|refine rd z_ ?_);(conv=>whnf)))) | (refine Ar rfl (.cons .tmp .nil) ?_ rfl) | (refine⟨z_,?_⟩;((conv=>whnf);repeat((first|refine aF ?_|refine aT ?_);(first|refine rg ?_|refine rd z_ ?_);(conv=>whnf)))) | (refine⟨by (first | (unfold I64;omega) | omega | (simp only[Int.toNat_natCast];omega) | done),by (first | (unfold I64;omega) | omega | (simp only[Int.toNat_natCast];omega) | done),?_⟩;((conv=>whnf);repeat((first|refine aF ?_|refine aT ?_);(first|refine rg ?_|refine rd z_ ?_);(conv=>whnf)))) | (refine⟨by (first | (unfold I64;omega) | omega | (simp only[Int.toNat_natCast];omega) | done),?_⟩;((conv=>whnf);repeat((first|refine aF ?_|refine aT ?_);(first|refine rg ?_|refine rd z_ ?_);(conv=>whnf)))) | refine Bb [] hI q_ ?_ ⟨⟨rfl,rfl,rfl,rfl,rfl,rfl,rfl,rfl,trivial⟩,trivial,rfl,rfl⟩))
 all_goals try (refine congrArg Aa ?_)
 ·exact Co q_ hI (by simpa using h.symm)
 ·intro i hi hij
  rcases Nat.lt_or_ge i j with h1 | h1
  ·exact hI i hi h1
  ·have:i=j:=by omega
   subst this
   simpa using Ne.symm h
 ·exact Do (fun i hi=>hI i hi q_)
theorem Jd (l:List Int) (x:Int) (hl:Aq l):Sy.Spec Tryz.prog 150 [.sl 1 A9 l,A9 x] [] (Ab (inB l x)) []:=cT F150 Tryz.ntmps150 fun F hF=>by
 ((conv=>whnf);repeat((first|refine aF ?_|refine aT ?_);(first|refine rG Γ hm ?_|refine rD Γ hm z_ ?_);conv=>whnf))
 (repeat' (first | (refine⟨fun h=>?_,fun h=>?_⟩<;>(repeat (first | simp only[Al]at h | simp only[decide_eq_true_eq]at h | simp only[decide_eq_false_iff_not]at h | simp only[beq_iff_eq]at h | simp only[beq_eq_false_iff_ne]at h | simp only[bne_iff_ne]at h | simp only[bne_eq_false_iff_eq]at h | simp only[Bool.and_eq_true]at h | simp only[Bool.or_eq_true]at h | simp only[Bool.and_eq_false_iff]at h | simp only[Bool.or_eq_false_iff]at h | simp only[Bool.not_eq_true']at h | simp only[Bool.not_eq_false']at h | simp only[Bool.not_eq_eq_eq_not]at h | simp only[Bool.not_true]at h | simp only[Bool.not_false]at h))<;>((first|refine rg ?_|refine rd z_ ?_);(conv=>whnf);repeat((first|refine aF ?_|refine aT ?_);(first|refine rg ?_|refine rd z_ ?_);(conv=>whnf)))) | (refine Ar rfl (.cons .tmp .nil) ?_ rfl) | (refine⟨z_,?_⟩;((conv=>whnf);repeat((first|refine aF ?_|refine aT ?_);(first|refine rg ?_|refine rd z_ ?_);(conv=>whnf)))) | (refine⟨by (first | (unfold I64;omega) | omega | (simp only[Int.toNat_natCast];omega) | done),by (first | (unfold I64;omega) | omega | (simp only[Int.toNat_natCast];omega) | done),?_⟩;((conv=>whnf);repeat((first|refine aF ?_|refine aT ?_);(first|refine rg ?_|refine rd z_ ?_);(conv=>whnf)))) | (refine⟨by (first | (unfold I64;omega) | omega | (simp only[Int.toNat_natCast];omega) | done),?_⟩;((conv=>whnf);repeat((first|refine aF ?_|refine aT ?_);(first|refine rg ?_|refine rd z_ ?_);(conv=>whnf)))) | (refine c0 (Tx _ _ hl) F249 ?_;((first|refine rg ?_|refine rd z_ ?_);(conv=>whnf);repeat((first|refine aF ?_|refine aT ?_);(first|refine rg ?_|refine rd z_ ?_);(conv=>whnf)))) | (refine cD (Tx _ _ hl) F249 ?_;((first|refine rg ?_|refine rd z_ ?_);(conv=>whnf);repeat((first|refine aF ?_|refine aT ?_);(first|refine rg ?_|refine rd z_ ?_);(conv=>whnf))))))
 exact congrArg Ab (Io _ _).symm
theorem ovVniS (n:Net) (hn:n.Fin) (l:LineM) (hl:LineW l):Sy.Spec Tryz.prog 285 [Ao n,Aj l] [] (.tup [Ao (putVni n l).1,Aa (putVni n l).2]) []:=cT F285 Tryz.ntmps285 fun F hF=>by
 have hok:=@beg_ok n l 6
 have hres:=putVni.eq_1 n l
 have q1:=Id n hn l hl 6
 have qcopy:=Jc n hn
 generalize putVni n l=res at *
 generalize begT n l 6=b at *
 obtain ⟨d,e⟩:=b
 dsimp only at hres hok q1
 by_cases h1:e≠0
 ·have g1:(e != 0)=true:=by rw[bne_iff_ne];exact h1
  rw[if_pos h1]at hres
  subst hres
  refine T ?_
  refine C q1 F346 ?_
  refine Ae 4 (B1 emptyN) E (.cons .nil (.cons .nil (.cons .nil (.cons .nil (.cons .nil (.cons .nil (.cons .nil (.cons .nil .nil)))))))) ?_
  refine T ?_
  exact D
 have g1:(e != 0)=false:=by rw[bne_eq_false_iff_eq];omega
 rw[if_neg h1]at hres
 obtain ⟨_,hr,i,hi,hlt⟩:=hok q_
 subst hi
 clear hok
 have hlt0:((i:Nat):Int).toNat<n.devices.length:=hlt
 have hnth:nth n.devices (i:Int)=n.devices[((i:Nat):Int).toNat]'hlt0:=A7 hlt0
 rw[hnth]at hres
 have q2:=Et n hn hr (i:Int) l.vlan
 have q3:=Lu n hn (i:Int) l.num
 have hdr:B7 n (i:Int) l.vlan<0∨∃ k:Nat,B7 n (i:Int) l.vlan=k∧k<n.domains.length:=by
  by_cases h:B7 n (i:Int) l.vlan<0
  ·exact .inl h
  ·exact .inr (Ep h)
 generalize B7 n (i:Int) l.vlan=dm at *
 by_cases h2:(n.devices[((i:Nat):Int).toNat]'hlt0).vtep=0
 ·have g2:((n.devices[((i:Nat):Int).toNat]'hlt0).vtep == 0)=true:=by rw[beq_iff_eq];exact h2
  rw[if_pos h2]at hres
  subst hres
  refine T ?_
  refine C q1 F346 ?_
  refine C q2 F168 ?_
  refine Ae 4 (B1 emptyN) E (.cons .nil (.cons .nil (.cons .nil (.cons .nil (.cons .nil (.cons .nil (.cons .nil (.cons .nil .nil)))))))) ?_
  refine T ?_
  exact D
 have g2:((n.devices[((i:Nat):Int).toNat]'hlt0).vtep == 0)=false:=by rw[beq_eq_false_iff_ne];exact h2
 rw[if_neg h2]at hres
 by_cases h3:dm<0
 ·have g3:decide (dm<0)=true:=decide_eq_true h3
  rw[if_pos h3]at hres
  subst hres
  refine T ?_
  refine C q1 F346 ?_
  refine C q2 F168 ?_
  refine Ae 4 (B1 emptyN) E (.cons .nil (.cons .nil (.cons .nil (.cons .nil (.cons .nil (.cons .nil (.cons .nil (.cons .nil .nil)))))))) ?_
  refine T ?_
  exact D
 have g3:decide (dm<0)=false:=decide_eq_false h3
 rw[if_neg h3]at hres
 obtain ⟨k,hk,hkl⟩:=hdr.resolve_left h3
 subst hk
 clear hdr
 have hkl0:((k:Nat):Int).toNat<n.domains.length:=hkl
 have hnd:nth n.domains (k:Int)=n.domains[((k:Nat):Int).toNat]'hkl0:=A7 hkl0
 rw[hnd]at hres
 by_cases h4:(n.domains[((k:Nat):Int).toNat]'hkl0).vni≠0
 ·have g4:((n.domains[((k:Nat):Int).toNat]'hkl0).vni != 0)=true:=by rw[bne_iff_ne];exact h4
  rw[if_pos (.inl h4)]at hres
  subst hres
  refine T ?_
  refine C q1 F346 ?_
  refine C q2 F168 ?_
  refine Ae 4 (B1 emptyN) E (.cons .nil (.cons .nil (.cons .nil (.cons .nil (.cons .nil (.cons .nil (.cons .nil (.cons .nil .nil)))))))) ?_
  refine T ?_
  exact D
 have g4:((n.domains[((k:Nat):Int).toNat]'hkl0).vni != 0)=false:=by rw[bne_eq_false_iff_eq];omega
 by_cases h5:0≤Ji n (i:Int) l.num
 ·have g5:decide (Ji n (i:Int) l.num≥0)=true:=decide_eq_true h5
  rw[if_pos (.inr h5)]at hres
  subst hres
  refine T ?_
  refine C q1 F346 ?_
  refine C q2 F168 ?_
  refine C q3 F63 ?_
  refine Ae 4 (B1 emptyN) E (.cons .nil (.cons .nil (.cons .nil (.cons .nil (.cons .nil (.cons .nil (.cons .nil (.cons .nil .nil)))))))) ?_
  refine T ?_
  exact D
 have g5:decide (Ji n (i:Int) l.num≥0)=false:=decide_eq_false h5
 rw[if_neg (fun h=>h.elim h4 h5)]at hres
 have hne:n.domains≠[]:=fun e=>by rw[e]at hkl;cases hkl
 have hne2:∀ x,n.domains.set ((k:Nat):Int).toNat x≠[]:=fun x e=>by
  have:=congrArg List.length e
  rw[List.length_set]at this
  simp at this;exact hne this
 have hk2:∀ x,((k:Nat):Int).toNat<(n.domains.set ((k:Nat):Int).toNat x).length:=fun x=>by rw[List.length_set];exact hkl0
 have hset:∀ x y,(n.domains.set ((k:Nat):Int).toNat x).set ((k:Nat):Int).toNat y=n.domains.set ((k:Nat):Int).toNat y:=fun x y=>List.set_set ..
 have hget:∀ x,(n.domains.set ((k:Nat):Int).toNat x)[((k:Nat):Int).toNat]'(hk2 x)=x:=fun x=>List.getElem_set_self ..
 rw[← hset (⟨(n.domains[((k:Nat):Int).toNat]'hkl0).dev,(n.domains[((k:Nat):Int).toNat]'hkl0).vlan,l.num,(n.domains[((k:Nat):Int).toNat]'hkl0).irb,(n.domains[((k:Nat):Int).toNat]'hkl0).row,(n.domains[((k:Nat):Int).toNat]'hkl0).peers⟩:Domain) (⟨(n.domains[((k:Nat):Int).toNat]'hkl0).dev,(n.domains[((k:Nat):Int).toNat]'hkl0).vlan,l.num,(n.domains[((k:Nat):Int).toNat]'hkl0).irb,l.row,(n.domains[((k:Nat):Int).toNat]'hkl0).peers⟩:Domain)]at hres
 subst hres
 refine T ?_
 refine C q1 F346 ?_
 refine C q2 F168 ?_
 refine C q3 F63 ?_
 refine X (Ac [(0,901),(1,902),(2,903),(3,904),(4,905),(5,906),(6,907),(7,908)] E F61 qcopy E W E V) ?_
 refine⟨hne,?_⟩
 refine T ?_
 refine⟨(⟨(n.domains[((k:Nat):Int).toNat]'hkl0).dev,(n.domains[((k:Nat):Int).toNat]'hkl0).vlan,l.num,(n.domains[((k:Nat):Int).toNat]'hkl0).irb,(n.domains[((k:Nat):Int).toNat]'hkl0).row,(n.domains[((k:Nat):Int).toNat]'hkl0).peers⟩:Domain),E,E,?_⟩
 refine T ?_
 refine⟨hk2 _,?_⟩
 refine T ?_
 refine⟨hne2 _,?_⟩
 refine T ?_
 refine⟨hk2 _,(⟨(n.domains[((k:Nat):Int).toNat]'hkl0).dev,(n.domains[((k:Nat):Int).toNat]'hkl0).vlan,l.num,(n.domains[((k:Nat):Int).toNat]'hkl0).irb,l.row,(n.domains[((k:Nat):Int).toNat]'hkl0).peers⟩:Domain),by rw[hget];rfl,by rw[hget];rfl,?_⟩
 refine T ?_
 refine Ag 901 E ?_
 refine Ag 902 E ?_
 refine Ag 903 E ?_
 refine Ag 904 E ?_
 refine Ag 905 E ?_
 refine Ag 906 E ?_
 refine Ag 907 E ?_
 refine Ag 908 E ?_
 exact D
theorem Acf (n:Net) (hn:n.Fin) (l:LineM) (hl:LineW l):Sy.Spec Tryz.prog 286 [Ao n,Aj l] [] (.tup [Ao (putFlood n l).1,Aa (putFlood n l).2]) []:=cT F286 Tryz.ntmps286 fun F hF=>by
 have hok:=@beg_ok n l 7
 have hres:=putFlood.eq_1 n l
 have q1:=Id n hn l hl 7
 have qcopy:=Jc n hn
 generalize putFlood n l=res at *
 generalize begT n l 7=b at *
 obtain ⟨d,e⟩:=b
 dsimp only at hres hok q1
 by_cases h1:e≠0
 ·have g1:(e != 0)=true:=by rw[bne_iff_ne];exact h1
  rw[if_pos h1]at hres
  subst hres
  refine T ?_
  refine C q1 F346 ?_
  refine Ae 4 (B1 emptyN) E (.cons .nil (.cons .nil (.cons .nil (.cons .nil (.cons .nil (.cons .nil (.cons .nil (.cons .nil .nil)))))))) ?_
  refine T ?_
  exact D
 have g1:(e != 0)=false:=by rw[bne_eq_false_iff_eq];omega
 rw[if_neg h1]at hres
 obtain ⟨_,hr,i,hi,hlt⟩:=hok q_
 subst hi
 clear hok
 have hlt0:((i:Nat):Int).toNat<n.devices.length:=hlt
 have hnth:nth n.devices (i:Int)=n.devices[((i:Nat):Int).toNat]'hlt0:=A7 hlt0
 rw[hnth]at hres
 have hla:=hl.fin.a
 have q2:=Lu n hn (i:Int) l.num
 have q3:=Uq n hn (i:Int) l.num
 have q4:=Jd l.addrs (n.devices[((i:Nat):Int).toNat]'hlt0).vtep (by unfold Aq;omega)
 have q5:=T8 l.addrs q_
 generalize Ji n (i:Int) l.num=v2 at *
 generalize Em n (i:Int) l.num=v3 at *
 generalize inB l.addrs (n.devices[((i:Nat):Int).toNat]'hlt0).vtep=v4 at *
 by_cases h2:v2<0
 ·have g2:decide (v2<0)=true:=decide_eq_true h2
  rw[if_pos h2]at hres
  subst hres
  refine T ?_
  refine C q1 F346 ?_
  refine C q2 F63 ?_
  refine Ae 4 (B1 emptyN) E (.cons .nil (.cons .nil (.cons .nil (.cons .nil (.cons .nil (.cons .nil (.cons .nil (.cons .nil .nil)))))))) ?_
  refine T ?_
  exact D
 have g2:decide (v2<0)=false:=decide_eq_false h2
 rw[if_neg h2]at hres
 by_cases h3:0≤v3
 ·have g3:decide (v3≥0)=true:=decide_eq_true h3
  rw[if_pos h3]at hres
  subst hres
  refine T ?_
  refine C q1 F346 ?_
  refine C q2 F63 ?_
  refine C q3 F62 ?_
  refine Ae 4 (B1 emptyN) E (.cons .nil (.cons .nil (.cons .nil (.cons .nil (.cons .nil (.cons .nil (.cons .nil (.cons .nil .nil)))))))) ?_
  refine T ?_
  exact D
 have g3:decide (v3≥0)=false:=decide_eq_false h3
 rw[if_neg h3]at hres
 cases v4 with
 | true =>
  rw[if_pos rfl]at hres
  subst hres
  refine T ?_
  refine C q1 F346 ?_
  refine C q2 F63 ?_
  refine C q3 F62 ?_
  refine C q4 F150 ?_
  refine Ae 4 (B1 emptyN) E (.cons .nil (.cons .nil (.cons .nil (.cons .nil (.cons .nil (.cons .nil (.cons .nil (.cons .nil .nil)))))))) ?_
  refine T ?_
  exact D
 | false =>
  rw[if_neg y_]at hres
  by_cases h5:n.floods.length=48
  ·have g5:((n.floods.length:Int) == 48)=true:=by rw[beq_iff_eq];omega
   rw[if_pos h5]at hres
   subst hres
   refine T ?_
   refine C q1 F346 ?_
   refine C q2 F63 ?_
   refine C q3 F62 ?_
   refine C q4 F150 ?_
   refine Ae 4 (B1 emptyN) E (.cons .nil (.cons .nil (.cons .nil (.cons .nil (.cons .nil (.cons .nil (.cons .nil (.cons .nil .nil)))))))) ?_
   refine T ?_
   exact D
  have g5:((n.floods.length:Int) == 48)=false:=by rw[beq_eq_false_iff_ne];omega
  rw[if_neg h5]at hres
  subst hres
  have hfl:n.floods.length<2147483648:=hn.floods
  refine T ?_
  refine C q1 F346 ?_
  refine C q2 F63 ?_
  refine C q3 F62 ?_
  refine C q4 F150 ?_
  refine X (Ac [(0,901),(1,902),(2,903),(3,904),(4,905),(5,906),(6,907),(7,908)] E F61 qcopy E W E V) ?_
  refine C q5 F160 ?_
  refine Xd (Ak Γ.toTy 66 E E E E E (.row E) (.lit (e:=A3) (l:=[(⟨l.row,(i:Int),l.num,l.addrs⟩:Flood)]) E E) j_ (by simp only[List.length_singleton];omega) (by simp only[List.length_singleton];omega)) ?_
  refine T ?_
  refine Ag 901 E ?_
  refine Ag 902 E ?_
  refine Ag 903 E ?_
  refine Ag 904 E ?_
  refine Ag 905 E ?_
  refine Ag 66 E ?_
  refine Ag 907 E ?_
  refine Ag 908 E ?_
  exact D
theorem Ad0 (n:Net) (hn:n.Fin) (l:LineM) (hl:LineW l):Sy.Spec Tryz.prog 287 [Ao n,Aj l] [] (.tup [Ao (putVrf n l).1,Aa (putVrf n l).2]) []:=cT F287 Tryz.ntmps287 fun F hF=>by
 have hok:=@beg_ok n l 8
 have hres:=putVrf.eq_1 n l
 have q1:=Qe n hn l hl 8
 have qcopy:=Jc n hn
 generalize putVrf n l=res at *
 generalize begT n l 8=b at *
 obtain ⟨d,e⟩:=b
 dsimp only at hres hok q1
 by_cases h1:e≠0
 ·have g1:(e != 0)=true:=by rw[bne_iff_ne];exact h1
  rw[if_pos h1]at hres
  subst hres
  refine T ?_
  refine C q1 F347 ?_
  refine Ae 4 (B1 emptyN) E (.cons .nil (.cons .nil (.cons .nil (.cons .nil (.cons .nil (.cons .nil (.cons .nil (.cons .nil .nil)))))))) ?_
  refine T ?_
  exact D
 have g1:(e != 0)=false:=by rw[bne_eq_false_iff_eq];omega
 rw[if_neg h1]at hres
 obtain ⟨_,hr,i,hi,hlt⟩:=hok q_
 subst hi
 clear hok
 have hlt0:((i:Nat):Int).toNat<n.devices.length:=hlt
 have hnth:nth n.devices (i:Int)=n.devices[((i:Nat):Int).toNat]'hlt0:=A7 hlt0
 clear hnth
 have hli:=hl.fin.i
 have hle:=hl.fin.e
 have q2:=Ts n hn hr (i:Int) l.name
 have q5:=Er l.imports q_
 have q6:=Er l.exports q_
 have hfl:n.vrfs.length<2147483648:=hn.vrfs
 generalize Uf n (i:Int) l.name=v2 at *
 by_cases h2:0≤v2
 ·have g2:decide (v2≥0)=true:=decide_eq_true h2
  rw[if_pos h2]at hres
  subst hres
  refine T ?_
  refine C q1 F347 ?_
  refine C q2 F348 ?_
  refine Ae 4 (B1 emptyN) E (.cons .nil (.cons .nil (.cons .nil (.cons .nil (.cons .nil (.cons .nil (.cons .nil (.cons .nil .nil)))))))) ?_
  refine T ?_
  exact D
 have g2:decide (v2≥0)=false:=decide_eq_false h2
 rw[if_neg h2]at hres
 by_cases h5:n.vrfs.length=16
 ·have g5:((n.vrfs.length:Int) == 16)=true:=by rw[beq_iff_eq];omega
  rw[if_pos h5]at hres
  subst hres
  refine T ?_
  refine C q1 F347 ?_
  refine C q2 F348 ?_
  refine Ae 4 (B1 emptyN) E (.cons .nil (.cons .nil (.cons .nil (.cons .nil (.cons .nil (.cons .nil (.cons .nil (.cons .nil .nil)))))))) ?_
  refine T ?_
  exact D
 have g5:((n.vrfs.length:Int) == 16)=false:=by rw[beq_eq_false_iff_ne];omega
 rw[if_neg h5]at hres
 subst hres
 refine T ?_
 refine C q1 F347 ?_
 refine C q2 F348 ?_
 refine X (Ac [(0,901),(1,902),(2,903),(3,904),(4,905),(5,906),(6,907),(7,908)] E F61 qcopy E W E V) ?_
 refine C q5 F159 ?_
 refine C q6 F159 ?_
 refine Xd (Ak Γ.toTy 51 E E E E E (.row E) (.lit (e:=Bz) (l:=[(⟨l.row,(i:Int),l.name,l.imports,l.exports⟩:Vrf)]) E E) j_ (by simp only[List.length_singleton];omega) (by simp only[List.length_singleton];omega)) ?_
 refine T ?_
 refine Ag 901 E ?_
 refine Ag 902 E ?_
 refine Ag 903 E ?_
 refine Ag 904 E ?_
 refine Ag 905 E ?_
 refine Ag 906 E ?_
 refine Ag 51 E ?_
 refine Ag 908 E ?_
 exact D
theorem Tq {a b x:Int} (hb:0≤b∧b≤32) (ha:0≤a∧a<4294967296) (hx:0≤x∧x<4294967296):Aek a b x=Mo a b x:=by
 obtain ⟨y,rfl⟩:=Int.eq_ofNat_of_zero_le ha.1
 obtain ⟨z,rfl⟩:=Int.eq_ofNat_of_zero_le hx.1
 obtain ⟨k,hk,hk2⟩:∃ k:Nat,(32-b).toNat=k∧k≤32:=⟨_,rfl,by omega⟩
 have hq:0<2 ^ k:=Nat.two_pow_pos k
 rw[Aek,Aap b hb,hk,masked y z k q_ q_ hk2,Mo,decide_eq_true hb.1,decide_eq_true hb.2,Bool.true_and,Bool.true_and,Ja y k b hb hk,Ja z k b hb hk]
 generalize 2 ^ k=q at *
 have h1:=Nat.div_add_mod y q
 have h2:=Nat.div_add_mod z q
 have e1:y-y % q=q * (y / q):=by omega
 have e2:z-z % q=q * (z / q):=by omega
 rw[e1,e2,Bool.eq_iff_iff,decide_eq_true_eq,beq_iff_eq]
 constructor
 ·intro h;rw[h]
 ·intro h
  exact Nat.eq_of_mul_eq_mul_left hq (by exact_mod_cast h)
theorem clashS (n:Net) (x:Irb) (hv:0≤x.vrf∧x.vrf.toNat<n.vrfs.length) (hb:0≤x.bits∧x.bits≤32) (hx:0≤x.addr∧x.addr<4294967296) (dev a b:Int) (ha:0≤a∧a<4294967296) (hb2:0≤b∧b≤32) :
  Sy.Spec Tryz.prog 350 [Ao n,By x,Aa dev,Zp a b] [] (Ab (clashB n dev a b x)) []:=cT F350 Tryz.ntmps350 fun F hF=>by
 have q1:=Xf x.addr x.bits a hb
 have q2:=Xf a b x.addr hb2
 rw[Tq hb hx ha]at q1
 rw[Tq hb2 ha hx]at q2
 have hc:=clashB.eq_1 n dev a b x
 have hv0:=hv.2
 rw[A7 hv0]at hc
 generalize clashB n dev a b x=r at *
 generalize Mo x.addr x.bits a=p1 at *
 generalize Mo a b x.addr=p2 at *
 cases h1:(x.addr == a) with
 | true =>
  rw[h1,Bool.true_or]at hc
  subst hc
  refine T ?_
  exact D
 | false =>
  rw[h1,Bool.false_or]at hc
  cases h2:((n.vrfs[x.vrf.toNat]'hv0).dev != dev) with
  | false =>
   rw[h2,Bool.false_and]at hc
   subst hc
   refine T ?_
   exact D
  | true =>
   rw[h2,Bool.true_and]at hc
   cases p1 with
   | true =>
    rw[Bool.true_or]at hc
    subst hc
    refine T ?_
    refine C q1 F383 ?_
    exact D
   | false =>
    rw[Bool.false_or]at hc
    subst hc
    refine T ?_
    refine C q1 F383 ?_
    refine C q2 F383 ?_
    exact D
theorem irbC (n:Net) (x:Irb) (hv:0≤x.vrf∧x.vrf.toNat<n.vrfs.length) (hb:0≤x.bits∧x.bits≤32) (hx:0≤x.addr∧x.addr<4294967296) (dev:Int) (l:LineM) (ha:0≤l.addr∧l.addr<4294967296) (hb2:0≤l.bits∧l.bits≤32) :
  Sy.Spec Tryz.prog 349 [By x,.ref 8 (Ao n) 0,.ref 1 (Aa dev) 0,.ref 17 (Aj l) 0] [] (Ab (clashB n dev l.addr l.bits x)) []:=cT F349 Tryz.ntmps349 fun F hF=>by
 have q:=clashS n x hv hb hx dev l.addr l.bits ha hb2
 generalize clashB n dev l.addr l.bits x=r at *
 refine T ?_
 refine C q F350 ?_
 exact D
theorem Y1 {n:Net} {l:LineM} {k:Int} (h:fitsB n l k=true):l.kind=k∧Bk l=true∧Af n=true:=by
 unfold fitsB at h
 simp only[Bool.and_eq_true,beq_iff_eq]at h
 exact⟨h.1,h.2.1,h.2.2⟩
theorem Ye {l:LineM} (h:Bk l=true) (hk:l.kind=9):0≤l.bits∧l.bits≤32:=by
 rw[Bk,Bool.and_eq_true]at h
 have:=h.1
 simp[Av,hk]at this
 have:=Jl this.2.2
 omega
theorem Aej (n:Net) (hn:n.Fin) (ha:Hx n) (l:LineM) (hl:LineW l):Sy.Spec Tryz.prog 288 [Ao n,Aj l] [] (.tup [Ao (putIrb n l).1,Aa (putIrb n l).2]) []:=cT F288 Tryz.ntmps288 fun F hF=>by
 have hok:=@beg_ok n l 9
 have hres:=putIrb.eq_1 n l
 have q1:=Qe n hn l hl 9
 have qcopy:=Jc n hn
 generalize putIrb n l=res at *
 generalize begT n l 9=b at *
 obtain ⟨d,e⟩:=b
 dsimp only at hres hok q1
 by_cases h1:e≠0
 ·have g1:(e != 0)=true:=by rw[bne_iff_ne];exact h1
  rw[if_pos h1]at hres
  subst hres
  refine T ?_
  refine C q1 F347 ?_
  refine Ae 4 (B1 emptyN) E (.cons .nil (.cons .nil (.cons .nil (.cons .nil (.cons .nil (.cons .nil (.cons .nil (.cons .nil .nil)))))))) ?_
  refine T ?_
  exact D
 have g1:(e != 0)=false:=by rw[bne_eq_false_iff_eq];omega
 rw[if_neg h1]at hres
 obtain ⟨hfit,hr,i,hi,hlt⟩:=hok q_
 subst hi
 clear hok
 have hlt0:((i:Nat):Int).toNat<n.devices.length:=hlt
 have hnth:nth n.devices (i:Int)=n.devices[((i:Nat):Int).toNat]'hlt0:=A7 hlt0
 clear hnth
 obtain ⟨hk9,hrl,_⟩:=Y1 hfit
 have hbits:=Ye hrl hk9
 have q2:=Ts n hn hr (i:Int) l.name
 have q3:=Et n hn hr (i:Int) l.vlan
 have hirb:∀ x∈n.irbs,(0≤x.vrf∧x.vrf.toNat<n.vrfs.length)∧(0≤x.bits∧x.bits≤32):=fun x hx=>by
  obtain ⟨j,hj,rfl⟩:=List.getElem_of_mem hx
  have:=e_irb hr hj
  simp only[U2,Al,Bool.and_eq_true,decide_eq_true_eq]at this
  omega
 have qc:=Mb n.irbs (clashB n (i:Int) l.addr l.bits) 349 [] [.ref 8 (Ao n) 0,.ref 1 (Aa (i:Int)) 0,.ref 17 (Aj l) 0] rfl (fun x hx=>⟨⟨_,_,F349⟩,irbC n x (hirb x hx).1 (hirb x hx).2 (ha x hx) (i:Int) l hl.ok.addr hbits⟩) hn.irbs
 rw[Io]at qc
 have hdr:B7 n (i:Int) l.vlan<0∨∃ k:Nat,B7 n (i:Int) l.vlan=k∧k<n.domains.length:=by
  by_cases h:B7 n (i:Int) l.vlan<0
  ·exact .inl h
  ·exact .inr (Ep h)
 generalize Uf n (i:Int) l.name=v2 at *
 generalize B7 n (i:Int) l.vlan=dm at *
 generalize n.irbs.any (clashB n (i:Int) l.addr l.bits)=cl at *
 by_cases h2:v2<0
 ·have g2:decide (v2<0)=true:=decide_eq_true h2
  rw[if_pos h2]at hres
  subst hres
  refine T ?_
  refine C q1 F347 ?_
  refine C q2 F348 ?_
  refine C q3 F168 ?_
  refine Ae 4 (B1 emptyN) E (.cons .nil (.cons .nil (.cons .nil (.cons .nil (.cons .nil (.cons .nil (.cons .nil (.cons .nil .nil)))))))) ?_
  refine T ?_
  exact D
 have g2:decide (v2<0)=false:=decide_eq_false h2
 rw[if_neg h2]at hres
 by_cases h3:dm<0
 ·have g3:decide (dm<0)=true:=decide_eq_true h3
  rw[if_pos h3]at hres
  subst hres
  refine T ?_
  refine C q1 F347 ?_
  refine C q2 F348 ?_
  refine C q3 F168 ?_
  refine Ae 4 (B1 emptyN) E (.cons .nil (.cons .nil (.cons .nil (.cons .nil (.cons .nil (.cons .nil (.cons .nil (.cons .nil .nil)))))))) ?_
  refine T ?_
  exact D
 have g3:decide (dm<0)=false:=decide_eq_false h3
 rw[if_neg h3]at hres
 obtain ⟨k,hk,hkl⟩:=hdr.resolve_left h3
 subst hk
 clear hdr
 have hkl0:((k:Nat):Int).toNat<n.domains.length:=hkl
 have hnd:nth n.domains (k:Int)=n.domains[((k:Nat):Int).toNat]'hkl0:=A7 hkl0
 rw[hnd]at hres
 by_cases h4:0≤(n.domains[((k:Nat):Int).toNat]'hkl0).irb
 ·have g4:decide ((n.domains[((k:Nat):Int).toNat]'hkl0).irb≥0)=true:=decide_eq_true h4
  rw[if_pos (.inl h4)]at hres
  subst hres
  refine T ?_
  refine C q1 F347 ?_
  refine C q2 F348 ?_
  refine C q3 F168 ?_
  refine Ae 4 (B1 emptyN) E (.cons .nil (.cons .nil (.cons .nil (.cons .nil (.cons .nil (.cons .nil (.cons .nil (.cons .nil .nil)))))))) ?_
  refine T ?_
  exact D
 have g4:decide ((n.domains[((k:Nat):Int).toNat]'hkl0).irb≥0)=false:=decide_eq_false h4
 cases cl with
 | true =>
  rw[if_pos (.inr rfl)]at hres
  subst hres
  refine T ?_
  refine C q1 F347 ?_
  refine C q2 F348 ?_
  refine C q3 F168 ?_
  refine Bg 2 8 (Ao n) E E E ?_
  refine Bg 3 17 (Aj l) E E E ?_
  refine Bg 6 1 (Aa (i:Int)) E E E ?_
  refine C qc F263 ?_
  refine Ae 4 (B1 emptyN) E (.cons .nil (.cons .nil (.cons .nil (.cons .nil (.cons .nil (.cons .nil (.cons .nil (.cons .nil .nil)))))))) ?_
  refine T ?_
  exact D
 | false =>
  rw[if_neg (fun h=>h.elim h4 y_)]at hres
  subst hres
  have hne:n.domains≠[]:=fun e=>by rw[e]at hkl;cases hkl
  have hfl:n.irbs.length<2147483648:=hn.irbs
  refine T ?_
  refine C q1 F347 ?_
  refine C q2 F348 ?_
  refine C q3 F168 ?_
  refine Bg 2 8 (Ao n) E E E ?_
  refine Bg 3 17 (Aj l) E E E ?_
  refine Bg 6 1 (Aa (i:Int)) E E E ?_
  refine C qc F263 ?_
  refine X (Ac [(0,901),(1,902),(2,903),(3,904),(4,905),(5,906),(6,907),(7,908)] E F61 qcopy E W E V) ?_
  refine⟨hne,?_⟩
  refine T ?_
  refine⟨(⟨(n.domains[((k:Nat):Int).toNat]'hkl0).dev,(n.domains[((k:Nat):Int).toNat]'hkl0).vlan,(n.domains[((k:Nat):Int).toNat]'hkl0).vni,(n.irbs.length:Int),(n.domains[((k:Nat):Int).toNat]'hkl0).row,(n.domains[((k:Nat):Int).toNat]'hkl0).peers⟩:Domain),E,E,?_⟩
  refine T ?_
  refine X (Ak Γ.toTy 77 E E E E E (.row E) (.lit (e:=By) (l:=[(⟨l.row,(k:Int),v2,l.addr,l.bits⟩:Irb)]) E E) j_ (by simp only[List.length_singleton];omega) (by simp only[List.length_singleton];omega)) ?_
  refine Ag 901 E ?_
  refine Ag 902 E ?_
  refine Ag 903 E ?_
  refine Ag 904 E ?_
  refine Ag 905 E ?_
  refine Ag 906 E ?_
  refine Ag 907 E ?_
  refine Ag 77 E ?_
  exact D
theorem Lz (l:List Static) (p:Static→Bool) (f:FuncId) (first cap:List SV) (hc:(SV.clo (.func f) first cap).inn []=true) (hf:∀ x∈l,Hc Tryz.prog f (first++[A1 x]++cap) (Ab (p x))) (hl:Aq l) :
  Sy.Spec Tryz.prog 412 [.sl 4 A1 l,.clo (.func f) first cap] [] (Aa (Br p l)) []:=cT F412 Tryz.ntmps412 fun F hF=>by
 unfold Aq at hl
 have hin:∀ x:Static,Bs [] (first++[A1 x]++cap)=true:=fun x=>C0 hc rfl
 ((conv=>whnf);repeat((first|refine aF ?_|refine aT ?_);(first|refine rG Γ hm ?_|refine rD Γ hm z_ ?_);conv=>whnf))
 refine A6 l.length (fun j=>El (fun _ x=>!(p x)) l j) (fun j=>[(0,.sl 4 A1 l),(1,.clo (.func f) first cap),(7,Aa l.length),(8,Aa j)]) (fun _=>[]) [] (Bc _ _) ⟨⟨E,E,Be _,hc,E,E,E,E,Y⟩,Y,E,E⟩ ?_
 intro j hj hI
 ((first|refine rG Γ hm ?_|refine rD Γ hm z_ ?_);(conv=>whnf);repeat((first|refine aF ?_|refine aT ?_);(first|refine rG Γ hm ?_|refine rD Γ hm z_ ?_);conv=>whnf))
 refine⟨fun h=>?_,fun h=>?_⟩
 ·have h:=of_decide_eq_true h
  have hj2:j<l.length:=by omega
  ((first|refine rG Γ hm ?_|refine rD Γ hm z_ ?_);(conv=>whnf);repeat((first|refine aF ?_|refine aT ?_);(first|refine rG Γ hm ?_|refine rD Γ hm z_ ?_);conv=>whnf))
  refine⟨E,by omega,by omega,?_⟩
  ((conv=>whnf);repeat((first|refine aF ?_|refine aT ?_);(first|refine rG Γ hm ?_|refine rD Γ hm z_ ?_);conv=>whnf))
  refine E5 (hf l[j] (List.getElem_mem hj2)) E E E (by simp only[hin];rfl) E E ?_
  ((first|refine rG Γ hm ?_|refine rD Γ hm z_ ?_);(conv=>whnf);repeat((first|refine aF ?_|refine aT ?_);(first|refine rG Γ hm ?_|refine rD Γ hm z_ ?_);conv=>whnf))
  refine⟨fun h2=>?_,fun h2=>?_⟩
  ·((first|refine rG Γ hm ?_|refine rD Γ hm z_ ?_);(conv=>whnf);repeat((first|refine aF ?_|refine aT ?_);(first|refine rG Γ hm ?_|refine rD Γ hm z_ ?_);conv=>whnf))
   refine Ar E (.cons .tmp .nil) (congrArg Aa ?_) E
   exact Co hj2 (fun i hi hij=>by simpa using hI i hi hij) h2
  ·((first|refine rG Γ hm ?_|refine rD Γ hm z_ ?_);(conv=>whnf);repeat((first|refine aF ?_|refine aT ?_);(first|refine rG Γ hm ?_|refine rD Γ hm z_ ?_);conv=>whnf))
   refine iL ?_
   ((conv=>whnf);repeat((first|refine aF ?_|refine aT ?_);(first|refine rG Γ hm ?_|refine rD Γ hm z_ ?_);conv=>whnf))
   exact Bb [] hI hj2 (A8 hI hj2 (by simp[h2])) ⟨⟨E,E,Be _,hc,E,E,E,E,Y⟩,Y,E,E⟩
 ·have h:=of_decide_eq_false h
  ((first|refine rG Γ hm ?_|refine rD Γ hm z_ ?_);(conv=>whnf);repeat((first|refine aF ?_|refine aT ?_);(first|refine rG Γ hm ?_|refine rD Γ hm z_ ?_);conv=>whnf))
  refine Ar E (.cons .tmp .nil) (congrArg Aa ?_) E
  exact Do (fun i hi=>by simpa using hI i hi q_)
theorem Acn (dom m:Int) (s:Static):Sy.Spec Tryz.prog 413 [A1 s,.ref 1 (Aa dom) 0,.ref 1 (Dv m) 0] [] (Ab (s.domain == dom && s.mac == m)) []:=cT F413 Tryz.ntmps413 fun F hF=>by
 cases h:(s.domain == dom)
 ·refine T ?_
  exact D
 ·refine T ?_
  exact D
theorem Acm (n:Net) (hn:n.Fin) (dom m:Int):Sy.Spec Tryz.prog 345 [Ao n,Aa dom,Dv m] [] (Aa (Vc n dom m)) []:=cT F345 Tryz.ntmps345 fun F hF=>by
 have q:=Lz n.statics (fun s:Static=>s.domain == dom && s.mac == m) 413 [] [.ref 1 (Aa dom) 0,.ref 1 (Dv m) 0] rfl (fun x _=>⟨⟨_,_,F413⟩,Acn dom m x⟩) hn.statics
 ((conv=>whnf);repeat((first|refine aF ?_|refine aT ?_);(first|refine rG Γ hm ?_|refine rD Γ hm z_ ?_);conv=>whnf))
 refine Bg 4 1 (Aa dom) E E E ?_
 refine Bg 5 1 (Dv m) E E E ?_
 refine c0 q F412 ?_
 ((first|refine rG Γ hm ?_|refine rD Γ hm z_ ?_);(conv=>whnf);repeat((first|refine aF ?_|refine aT ?_);(first|refine rG Γ hm ?_|refine rD Γ hm z_ ?_);conv=>whnf))
 exact dN
theorem X9 (n:Net) (hn:n.Fin) (l:LineM) (hl:LineW l):Sy.Spec Tryz.prog 283 [Ao n,Aj l] [] (.tup [Ao (putStatic n l).1,Aa (putStatic n l).2]) []:=cT F283 Tryz.ntmps283 fun F hF=>by
 have qr:=En l hl
 have qn:=Bn n hn
 have qcopy:=Jc n hn
 have hres:=putStatic.eq_1 n l
 dsimp only at hres
 have hf:=fitsB.eq_1 n l 4
 generalize putStatic n l=res at *
 generalize fitsB n l 4=f at *
 cases h1:(l.kind == 4) with
 | false =>
  have g1:(l.kind != 4)=true:=by rw[bne,h1];rfl
  rw[h1,Bool.false_and]at hf
  rw[hf,if_pos rfl]at hres
  subst hres
  refine T ?_
  refine Ae 4 (B1 emptyN) E (.cons .nil (.cons .nil (.cons .nil (.cons .nil (.cons .nil (.cons .nil (.cons .nil (.cons .nil .nil)))))))) ?_
  refine T ?_
  exact D
 | true =>
 have g1:(l.kind != 4)=false:=by rw[bne,h1];rfl
 rw[h1,Bool.true_and]at hf
 cases h2:Bk l with
 | false =>
  rw[h2]at qr hf
  rw[hf,Bool.false_and,if_pos rfl]at hres
  subst hres
  refine T ?_
  refine C qr F343 ?_
  refine Ae 4 (B1 emptyN) E (.cons .nil (.cons .nil (.cons .nil (.cons .nil (.cons .nil (.cons .nil (.cons .nil (.cons .nil .nil)))))))) ?_
  refine T ?_
  exact D
 | true =>
 rw[h2]at qr hf
 cases hr:Af n with
 | false =>
  rw[hr]at qn hf
  rw[hf,Bool.and_false,if_pos rfl]at hres
  subst hres
  refine T ?_
  refine C qr F343 ?_
  refine C qn F25 ?_
  refine Ae 4 (B1 emptyN) E (.cons .nil (.cons .nil (.cons .nil (.cons .nil (.cons .nil (.cons .nil (.cons .nil (.cons .nil .nil)))))))) ?_
  refine T ?_
  exact D
 | true =>
 rw[hr]at qn hf
 rw[hf,if_neg y_]at hres
 have q1:=Eb n hn hr l.dev
 have q2:=Lb n hn hr (Bi n l.dev) l.port
 have q3:=Et n hn hr (Bi n l.dev) l.vlan
 have q5:=Acm n hn (B7 n (Bi n l.dev) l.vlan) l.mac
 have hpr:La n (Bi n l.dev) l.port<0∨∃ k:Nat,La n (Bi n l.dev) l.port=k∧k<n.ports.length:=by
  by_cases h:La n (Bi n l.dev) l.port<0
  ·exact .inl h
  ·exact .inr (Ep h)
 have hfl:n.statics.length<2147483648:=hn.statics
 generalize La n (Bi n l.dev) l.port=pt at *
 generalize B7 n (Bi n l.dev) l.vlan=dm at *
 generalize Bi n l.dev=dv at *
 generalize Vc n dm l.mac=en at *
 by_cases h3:dv<0
 ·have g3:decide (dv<0)=true:=decide_eq_true h3
  rw[if_pos (.inl h3)]at hres
  subst hres
  refine T ?_
  refine C qr F343 ?_
  refine C qn F25 ?_
  refine C q1 F340 ?_
  refine C q2 F341 ?_
  refine C q3 F168 ?_
  refine Ae 4 (B1 emptyN) E (.cons .nil (.cons .nil (.cons .nil (.cons .nil (.cons .nil (.cons .nil (.cons .nil (.cons .nil .nil)))))))) ?_
  refine T ?_
  exact D
 have g3:decide (dv<0)=false:=decide_eq_false h3
 by_cases h4:pt<0
 ·have g4:decide (pt<0)=true:=decide_eq_true h4
  rw[if_pos (.inr h4)]at hres
  subst hres
  refine T ?_
  refine C qr F343 ?_
  refine C qn F25 ?_
  refine C q1 F340 ?_
  refine C q2 F341 ?_
  refine C q3 F168 ?_
  refine Ae 4 (B1 emptyN) E (.cons .nil (.cons .nil (.cons .nil (.cons .nil (.cons .nil (.cons .nil (.cons .nil (.cons .nil .nil)))))))) ?_
  refine T ?_
  exact D
 have g4:decide (pt<0)=false:=decide_eq_false h4
 rw[if_neg (fun h=>h.elim h3 h4)]at hres
 obtain ⟨p,hp,hpl⟩:=hpr.resolve_left h4
 subst hp
 clear hpr
 have hp0:((p:Nat):Int).toNat<n.ports.length:=hpl
 have hnp:nth n.ports (p:Int)=n.ports[((p:Nat):Int).toNat]'hp0:=A7 hp0
 rw[hnp]at hres
 by_cases h5:dm<0
 ·have g5:decide (dm<0)=true:=decide_eq_true h5
  rw[if_pos (.inl h5)]at hres
  subst hres
  refine T ?_
  refine C qr F343 ?_
  refine C qn F25 ?_
  refine C q1 F340 ?_
  refine C q2 F341 ?_
  refine C q3 F168 ?_
  refine Ae 4 (B1 emptyN) E (.cons .nil (.cons .nil (.cons .nil (.cons .nil (.cons .nil (.cons .nil (.cons .nil (.cons .nil .nil)))))))) ?_
  refine T ?_
  exact D
 have g5:decide (dm<0)=false:=decide_eq_false h5
 have q4:=Ux (n.ports[((p:Nat):Int).toNat]'hp0) l.vlan (hn.tagged _ (List.getElem_mem hp0))
 cases hb:Cs (n.ports[((p:Nat):Int).toNat]'hp0) l.vlan with
 | false =>
  rw[hb]at q4
  rw[if_pos (.inr hb)]at hres
  subst hres
  refine T ?_
  refine C qr F343 ?_
  refine C qn F25 ?_
  refine C q1 F340 ?_
  refine C q2 F341 ?_
  refine C q3 F168 ?_
  refine C q4 F179 ?_
  refine Ae 4 (B1 emptyN) E (.cons .nil (.cons .nil (.cons .nil (.cons .nil (.cons .nil (.cons .nil (.cons .nil (.cons .nil .nil)))))))) ?_
  refine T ?_
  exact D
 | true =>
 rw[hb]at q4
 rw[if_neg (fun h=>h.elim h5 (by rw[hb];simp))]at hres
 by_cases h6:0≤en
 ·have g6:decide (en≥0)=true:=decide_eq_true h6
  rw[if_pos h6]at hres
  subst hres
  refine T ?_
  refine C qr F343 ?_
  refine C qn F25 ?_
  refine C q1 F340 ?_
  refine C q2 F341 ?_
  refine C q3 F168 ?_
  refine C q4 F179 ?_
  refine C q5 F345 ?_
  refine Ae 4 (B1 emptyN) E (.cons .nil (.cons .nil (.cons .nil (.cons .nil (.cons .nil (.cons .nil (.cons .nil (.cons .nil .nil)))))))) ?_
  refine T ?_
  exact D
 have g6:decide (en≥0)=false:=decide_eq_false h6
 rw[if_neg h6]at hres
 by_cases h7:n.statics.length=64
 ·have g7:((n.statics.length:Int) == 64)=true:=by rw[beq_iff_eq];omega
  rw[if_pos h7]at hres
  subst hres
  refine T ?_
  refine C qr F343 ?_
  refine C qn F25 ?_
  refine C q1 F340 ?_
  refine C q2 F341 ?_
  refine C q3 F168 ?_
  refine C q4 F179 ?_
  refine C q5 F345 ?_
  refine Ae 4 (B1 emptyN) E (.cons .nil (.cons .nil (.cons .nil (.cons .nil (.cons .nil (.cons .nil (.cons .nil (.cons .nil .nil)))))))) ?_
  refine T ?_
  exact D
 have g7:((n.statics.length:Int) == 64)=false:=by rw[beq_eq_false_iff_ne];omega
 rw[if_neg h7]at hres
 subst hres
 refine T ?_
 refine C qr F343 ?_
 refine C qn F25 ?_
 refine C q1 F340 ?_
 refine C q2 F341 ?_
 refine C q3 F168 ?_
 refine C q4 F179 ?_
 refine C q5 F345 ?_
 refine X (Ac [(0,901),(1,902),(2,903),(3,904),(4,905),(5,906),(6,907),(7,908)] E F61 qcopy E W E V) ?_
 refine X (Ak Γ.toTy 87 E E E E E (.row E) (.lit (e:=A1) (l:=[(⟨l.row,dm,(p:Int),l.mac⟩:Static)]) E E) j_ (by simp only[List.length_singleton];omega) (by simp only[List.length_singleton];omega)) ?_
 refine Ag 901 E ?_
 refine Ag 902 E ?_
 refine Ag 903 E ?_
 refine Ag 904 E ?_
 refine Ag 87 E ?_
 refine Ag 906 E ?_
 refine Ag 907 E ?_
 refine Ag 908 E ?_
 exact D
end Go.Sy.YtjenpnjajjplkaaGreatDoor
