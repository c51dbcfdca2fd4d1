/-
  I38 I40 I42 I43 I44 I45 Sy23 O1 O6 I46 I20 I21 NB0 NB1 NB2 E20 E22 E23 E24 NB14 NB15 NB3 NB4 I26 NB5 NB6: parts of a proof, joined by program.
-/
import Derived.Test.YtjenpnjajjplkaaGreatDoorXL4
import Derived.Test.YtjenpnjajjplkaaGreatDoorXL5
import Derived.Test.YtjenpnjajjplkaaGreatDoorXL2
import Derived.Test.YtjenpnjajjplkaaGreatDoorXL3
set_option linter.all false
set_option linter.unusedVariables false
set_option linter.unusedSimpArgs false
set_option linter.deprecated false
namespace Go.Sy.YtjenpnjajjplkaaGreatDoor
open Go.Proofs
attribute [local irreducible] Go.Sy.G Go.Sy.DR
set_option maxRecDepth 100000
set_option maxHeartbeats 4000000
def La (x:LineM):List Int:=[(x.dev.size:Int),(x.port.size:Int),(x.peer.size:Int),(x.far.size:Int),(x.name.size:Int),(x.tagged.length:Int),(x.imports.length:Int),(x.exports.length:Int),(x.addrs.length:Int)]
def Jc:List Int→Int→Bool × Int
 | [],t=>(false,t)
 | x::r,t=>if 300<x then (true,0) else Jc r (t+x)
def Jb:List LineM→Int→Bool
 | [],t=>decide (10000<t)
 | x::r,t=>if (Jc (La x) t).1=true then true else Jb r (Jc (La x) t).2
def linesGreat (l:List LineM):Bool:=if 400<l.length then true else Jb l 0
theorem Sd:∀ (l:List Int) (t:Int),(Jc l t).1=false→∀ x∈l,x≤300
 | [],_,_,_,hx=>by cases hx
 | y::r,t,h,x,hx=>by
  rw[Jc]at h
  split at h
  ·cases h
  ·rcases List.mem_cons.1 hx with rfl | hx
   ·omega
   ·exact Sd r _ h x hx
theorem J9:∀ (l:List LineM) (t:Int),Jb l t=false→∀ x∈l,∀ y∈La x,y≤300
 | [],_,_,_,hx=>by cases hx
 | z::r,t,h,x,hx=>by
  rw[Jb]at h
  split at h
  ·cases h
  ·rename_i h0
   rcases List.mem_cons.1 hx with rfl | hx
   ·exact Sd _ _ (by simpa using h0)
   ·exact J9 r _ h x hx
theorem Acb {l:List LineM} (h:linesGreat l=false):∀ x∈l,LineFin x:=by
 rw[linesGreat]at h
 split at h
 ·cases h
 ·intro x hx
  have:=J9 l 0 h x hx
  simp only[La,List.forall_mem_cons]at this
  exact⟨by omega,by omega,by omega,by omega⟩
theorem Ab5 (x:LineM):∀ y∈La x,0≤y:=by
 simp only[La,List.forall_mem_cons]
 refine⟨by omega,by omega,by omega,by omega,by omega,by omega,by omega,by omega,by omega,fun y hy=>by cases hy⟩
theorem W9 (M:List LineM) (hl:M.length<1000000):Sy.Spec Tryz.prog 11 [.sl 17 Aj M] [] (Ab (linesGreat M)) []:=cT F11 Tryz.ntmps11 fun F hF=>by
 have hres:=linesGreat.eq_1 M
 generalize linesGreat M=res at *
 by_cases c0:400<M.length
 ·rw[if_pos c0]at hres
  have f0:decide ((M.length:Int)>400)=true:=decide_eq_true q_
  subst hres
  refine T ?_
  exact D
 rw[if_neg c0]at hres
 have f0:decide ((M.length:Int)>400)=false:=decide_eq_false q_
 refine T ?_
 refine Bd (fun x:Nat × Int=>res=Jb (M.drop x.1) x.2∧x.1≤M.length∧0≤x.2∧x.2≤2700 * x.1) (fun x=>[(0,.sl 17 Aj M),(3,Aa x.2),(4,Aa x.1)]) (fun _=>[]) (fun x=>M.length-x.1) (0,0) [] ⟨hres,by simp,by simp,by simp⟩ U ?_
 rintro ⟨j,t⟩ ⟨hI,hj,ht0,ht⟩
 dsimp only at hI hj ht0 ht ⊢
 refine T ?_
 refine⟨fun h2=>?_,fun h2=>?_⟩
 ·have hlt:j<M.length:=by have:=of_decide_eq_true h2;omega
  have hlt0:((j:Nat):Int).toNat<M.length:=hlt
  clear h2
  have hdr:M.drop j=M[((j:Nat):Int).toNat]'hlt0::M.drop (j+1):=List.drop_eq_getElem_cons hlt
  rw[hdr,Jb]at hI
  refine T ?_
  refine Aaf 70 Aa (La (M[((j:Nat):Int).toNat]'hlt0)) E E ?_
  refine Ah 70 E ?_
  have hps:=Ab5 (M[((j:Nat):Int).toNat]'hlt0)
  have hls:(La (M[((j:Nat):Int).toNat]'hlt0)).length=9:=rfl
  generalize La (M[((j:Nat):Int).toNat]'hlt0)=ls at *
  refine T ?_
  refine Bd (fun x:Nat × Int=>Jc ls t=Jc (ls.drop x.1) x.2∧x.1≤9∧0≤x.2∧x.2≤2700 * j+300 * x.1) (fun x=>[(0,.sl 17 Aj M),(3,Aa x.2),(4,Aa j),(70,.sl 1 Aa ls),(71,Aa 9),(72,Aa x.1)]) (fun _=>[]) (fun x=>9-x.1) (0,t) [] ⟨E,by simp,ht0,by dsimp only;omega⟩ U ?_
  rintro ⟨k,u⟩ ⟨hK,hk,hu0,hu⟩
  dsimp only at hK hk hu0 hu ⊢
  refine T ?_
  refine⟨fun h2=>?_,fun h2=>?_⟩
  ·have hkt:k<9:=by have:=of_decide_eq_true h2;omega
   have hkt0:((k:Nat):Int).toNat<ls.length:=by omega
   clear h2
   have hdk:ls.drop k=ls[((k:Nat):Int).toNat]'hkt0::ls.drop (k+1):=List.drop_eq_getElem_cons hkt0
   rw[hdk,Jc]at hK
   have hp:=hps (ls[((k:Nat):Int).toNat]'hkt0) (List.getElem_mem _)
   by_cases c1:300<ls[((k:Nat):Int).toNat]'hkt0
   ·rw[if_pos c1]at hK
    rw[hK,if_pos rfl]at hI
    have f1:decide (ls[((k:Nat):Int).toNat]'hkt0>300)=true:=decide_eq_true q_
    subst hI
    refine T ?_
    exact D
   ·rw[if_neg c1]at hK
    have f1:decide (ls[((k:Nat):Int).toNat]'hkt0>300)=false:=decide_eq_false q_
    refine T ?_
    exact Ak (k+1,u+ls[((k:Nat):Int).toNat]'hkt0) [] ⟨hK,hkt,by dsimp only;omega,by dsimp only;omega⟩ (by dsimp only;omega) U
  ·have hk9:k=9:=by have:=of_decide_eq_false h2;omega
   subst hk9
   clear h2
   rw[List.drop_eq_nil_of_le q_,Jc]at hK
   rw[hK,if_neg y_]at hI
   refine T ?_
   exact Ak (j+1,u) [] ⟨hI,hlt,hu0,by dsimp only;omega⟩ (by dsimp only;omega) U
 ·have hje:j=M.length:=by have:=of_decide_eq_false h2;omega
  subst hje
  clear h2
  rw[List.drop_length,Jb]at hI
  subst hI
  refine T ?_
  exact D
end Go.Sy.YtjenpnjajjplkaaGreatDoor
namespace Go.Sy
open Go.ChangeShapes Go.WideShapes Go.ChangeAt Go.RowKit
section
variable {H:Type} (enc:TypeId × Value→H) (P:Program) (W:World)
def Op1 (t:TypeId) {α:Type} (e:α→SV) (p:α→Prop):Prop :=
 ∀ n c y,DataW.trod enc P W 0 (fun _=>true) true n t [c]=some y→∃ x,p x∧Rd κ0 W (e x) c∧c.oneCell'=true
def OpN (t:TypeId) {α:Type} (e:α→SV) (p:α→Prop) (sz:Nat):Prop :=
 ∀ n cs y,DataW.trod enc P W 0 (fun _=>true) true n t cs=some y→∃ x,p x∧cs.length=sz∧Ones cs∧RdL κ0 W (cellsOf (e x)) cs
variable {enc P W}
theorem J4 {t:TypeId} {k:IntKind} (ht:P.underlying t=some (.int k)):Op1 enc P W t (fun z=>.val (.int k z)) (fun z=>(Lit.int k z).wf=true):=fun n c y h=>by
 obtain ⟨z,e,_,hw⟩:=DataW.trod_int ht h
 have e:c=.int k z:=by simpa using e
 subst e
 exact⟨z,hw,by simp[Rd],E⟩
theorem Q2 {t:TypeId} (ht:P.underlying t=some .string):Op1 enc P W t Ai (fun s=>s.size≤maxLen):=fun n c y h=>by
 obtain ⟨z,e,_,hw⟩:=DataW.trod_string ht h
 have e:c=.string z:=by simpa using e
 subst e
 exact⟨z,hw,by simp[Ai,Rd],E⟩
theorem Aam {t:TypeId} {k:IntKind} (ht:P.underlying t=some (.int k)):OpN enc P W t (fun z=>.val (.int k z)) (fun z=>(Lit.int k z).wf=true) 1:=fun n cs y h=>by
 obtain ⟨z,rfl,_,hw⟩:=DataW.trod_int ht h
 refine⟨z,hw,E,fun c hc=>by simp at hc;subst hc;rfl,?_⟩
 simp[cellsOf,RdL,Rd]
theorem Uv {base:Nat} {a:Addr} {n:Nat} {cs:List Value} (h:W.cells? base a n=some cs):cs.length=n∧∀ j (_:j<n),W.cell? (a.add j)=cs[j]?:=by
 unfold World.cells? at h
 split at h
 ·refine⟨by simpa using mapM_some_length h,fun j hj=>?_⟩
  exact mapM_some_get h j j (by simp[hj])
 ·cases h
theorem Q3 {t et:TypeId} {α:Type} {e:α→SV} {p:α→Prop} {sz:Nat} (ht:P.underlying t=some (.slice et)) (hsz:P.cellsOf et=sz) (h0:0<sz) (hb:∀ x,(e x).boxed=true) (hd:∀ x,(e x).data=true) (hO:OpN enc P W et e p sz) :
  Op1 enc P W t (fun l:List α=>.sl sz e l) (fun l=>(∀ x∈l,p x)∧l.length≤maxLen):=fun n c y h=>by
 rcases DataW.trod_slice ht h with ⟨hcs,_⟩ | ⟨a,len,cap,elems,rest,m,rfl,hcs,_,_,hlc,hcm,hel,hget,_⟩
 ·have hc:c=.slice none 0 0:=by simpa using hcs
  subst hc
  refine⟨[],⟨by simp,Nat.zero_le _⟩,?_,E⟩
  simp only[Rd,RdD]
  exact .inl ⟨Y,none,0,E⟩
 ·have hc:c=.slice (some a) len cap:=by simpa using hcs
  subst hc
  rw[hsz]at hget
  have hall:∀ i:Fin len,∃ x,p x∧∃ cs,W.cells? 0 (a.add (i * sz)) sz=some cs∧cs.length=sz∧Ones cs∧RdL κ0 W (cellsOf (e x)) cs:=fun i=>by
   have h1:=hget i.1 i.2
   rw[List.getElem?_eq_getElem q_]at h1
   obtain ⟨cs,h2,h3⟩:=Option.bind_eq_some_iff.1 h1
   obtain ⟨x,h4,h5,h6,h7⟩:=hO _ _ _ h3
   exact⟨x,h4,cs,h2,h5,h6,h7⟩
  let xs:Fin len→α:=fun i=>Classical.choose (hall i)
  have hxs:∀ i,p (xs i)∧∃ cs,W.cells? 0 (a.add (i.1 * sz)) sz=some cs∧cs.length=sz∧Ones cs∧RdL κ0 W (cellsOf (e (xs i))) cs:=fun i=>Classical.choose_spec (hall i)
  refine⟨List.ofFn xs,⟨fun x hx=>?_,by simp;omega⟩,?_,E⟩
  ·obtain ⟨i,rfl⟩:=List.mem_ofFn.1 hx
   exact(hxs i).1
  ·simp only[Rd,RdD]
   by_cases hl:len=0
   ·subst hl
    exact .inl ⟨by simp,_,_,E⟩
   ·have hcell:∀ i:Fin len,∀ j,j<sz→∃ v,W.cell? ((a.add (i.1 * sz)).add j)=some v:=fun i j hj=>by
     obtain ⟨_,cs,h1,h2,_⟩:=hxs i
     have:=(Uv h1).2 j hj
     rw[List.getElem?_eq_getElem q_]at this
     exact⟨_,this⟩
    obtain ⟨b,off,spot⟩:=a
    have hspot:spot=none:=by
     obtain ⟨v,hv⟩:=hcell ⟨0,by omega⟩ 0 h0
     simpa [Addr.add] using World.cell?_spot hv
    subst hspot
    have hadd:∀ i j,((⟨b,off,none⟩:Addr).add i).add j=⟨b,off+i+j,none⟩:=fun i j=>by rw[Addr.add_lit,Addr.add_lit]
    refine .inr ⟨b,off,cap,by simp,by simpa using hlc,?_,?_,fun i hi=>?_⟩
    ·rintro (⟨k,hk⟩ | hk)
     ·cases hk
     ·exact hk
    ·obtain ⟨v,hv⟩:=hcell ⟨0,by omega⟩ 0 h0
     rw[hadd]at hv
     rcases Nat.lt_or_ge b W.heap.size with h | h
     ·exact h
     ·simp[World.cell?,Array.getElem?_eq_none h]at hv
    ·simp only[List.length_ofFn]at hi
     obtain ⟨_,cs,h1,h2,h3,h4⟩:=hxs ⟨i,hi⟩
     obtain ⟨u,g1,g2⟩:=Rd.of_cells (hb _) h3 h4
     refine⟨u,?_,?_,by rw[g2];exact h3,fun j hj=>?_⟩
     ·rw[List.getElem_ofFn]
      exact Rd.data _ _ (hd _) g1
     ·have:u.cells.toList.length=sz:=by rw[g2,h2]
      simpa using this
     ·have:=(Uv h1).2 j hj
      rw[hadd]at this
      rw[this,← g2]
      simp
end
end Go.Sy
namespace Go.Sy.YtjenpnjajjplkaaGreatDoor
open Go.Proofs Go.ChangeShapes Go.WideShapes Go.ChangeAt Go.RowKit
set_option maxRecDepth 100000
section
variable {H:Type} {enc:TypeId × Value→H} {W:World}
def wI (k:IntKind) (z:Int):Prop:=(Lit.int k z).wf=true
theorem Vb:Op1 enc Tryz.prog W 63 (fun l:List Int=>.sl 1 (fun z=>.val (.int .i64 z)) l) (fun l=>(∀ z∈l,wI .i64 z)∧l.length≤maxLen) :=
 Q3 Tryz.underlying63 (by kernel_rfl:Tryz.prog.cellsOf 3=1) j_ (fun _=>rfl) (fun _=>rfl) (Aam Tryz.underlying3)
theorem Afi:Op1 enc Tryz.prog W 64 (fun l:List Int=>.sl 1 (fun z=>.val (.int .u32 z)) l) (fun l=>(∀ z∈l,wI .u32 z)∧l.length≤maxLen) :=
 Q3 Tryz.underlying64 (by kernel_rfl:Tryz.prog.cellsOf 62=1) j_ (fun _=>rfl) (fun _=>rfl) (Aam Tryz.underlying62)
def Device.In (x:Device):Prop:=wI .i64 x.row∧wI .i64 x.prio∧x.name.size≤maxLen∧wI .u64 x.mac∧wI .u32 x.vtep
def Port.In (x:Port):Prop:=wI .i64 x.row∧wI .i64 x.dev∧wI .i64 x.native∧wI .i64 x.cost∧wI .i64 x.link∧x.name.size≤maxLen∧((∀ z∈x.tagged,wI .i64 z)∧x.tagged.length≤maxLen)
def Link.In (x:Link):Prop:=wI .i64 x.row∧wI .i64 x.a∧wI .i64 x.b
def Domain.In (x:Domain):Prop:=wI .i64 x.dev∧wI .i64 x.vlan∧wI .i64 x.vni∧wI .i64 x.irb∧wI .i64 x.row∧((∀ z∈x.peers,wI .i64 z)∧x.peers.length≤maxLen)
def Static.In (x:Static):Prop:=wI .i64 x.row∧wI .i64 x.domain∧wI .i64 x.port∧wI .u64 x.mac
def Flood.In (x:Flood):Prop:=wI .i64 x.row∧wI .i64 x.dev∧wI .i64 x.vni∧((∀ z∈x.addrs,wI .u32 z)∧x.addrs.length≤maxLen)
def Vrf.In (x:Vrf):Prop:=wI .i64 x.row∧wI .i64 x.dev∧x.name.size≤maxLen∧((∀ z∈x.imports,wI .i64 z)∧x.imports.length≤maxLen)∧((∀ z∈x.exports,wI .i64 z)∧x.exports.length≤maxLen)
def Irb.In (x:Irb):Prop:=wI .i64 x.row∧wI .i64 x.domain∧wI .i64 x.vrf∧wI .u32 x.addr∧wI .i64 x.bits
structure Net.In (n:Net):Prop where
 devices:(∀ x∈n.devices,Device.In x)∧n.devices.length≤maxLen
 ports:(∀ x∈n.ports,Port.In x)∧n.ports.length≤maxLen
 links:(∀ x∈n.links,Link.In x)∧n.links.length≤maxLen
 domains:(∀ x∈n.domains,Domain.In x)∧n.domains.length≤maxLen
 statics:(∀ x∈n.statics,Static.In x)∧n.statics.length≤maxLen
 floods:(∀ x∈n.floods,Flood.In x)∧n.floods.length≤maxLen
 vrfs:(∀ x∈n.vrfs,Vrf.In x)∧n.vrfs.length≤maxLen
 irbs:(∀ x∈n.irbs,Irb.In x)∧n.irbs.length≤maxLen
theorem Ac9 {t et:TypeId} {α:Type} {e:α→SV} {p:List α→Prop} {sz base:Nat} {v:Value} {d:DataW H} {ps:List MemPlace} (ht:Tryz.prog.underlying t=some (.slice et)) (hO:Op1 enc Tryz.prog W t (fun l:List α=>.sl sz e l) p)
  (hval:Value.okWide Tryz.prog W .any base t v) (h1:DataW.Trod enc Tryz.prog W 0 (fun _=>true) true t v d ps):∃ l,p l∧Rd κ0 W (.sl sz e l) v:=by
 obtain ⟨a,len,cap,rfl⟩:=okWide_slice ht hval
 obtain ⟨fuel,hf⟩:=h1
 obtain ⟨x,h1,h2,_⟩:=hO _ _ _ hf
 exact⟨x,h1,h2⟩
end
end Go.Sy.YtjenpnjajjplkaaGreatDoor
namespace Go.Sy.YtjenpnjajjplkaaGreatDoor
open Go.Proofs Go.ChangeShapes Go.WideShapes Go.ChangeAt Go.RowKit
set_option maxRecDepth 100000
section
variable {H:Type} {enc:TypeId × Value→H} {W:World}
def LineM.In (x:LineM):Prop:=wI .i64 x.row∧wI .i64 x.kind∧x.dev.size≤maxLen∧x.port.size≤maxLen∧x.peer.size≤maxLen∧x.far.size≤maxLen∧x.name.size≤maxLen∧wI .u64 x.mac∧wI .u32 x.addr∧wI .i64 x.bits∧wI .i64 x.vlan∧wI .i64 x.num∧wI .i64 x.cost∧((∀ z∈x.tagged,wI .i64 z)∧x.tagged.length≤maxLen)∧((∀ z∈x.imports,wI .i64 z)∧x.imports.length≤maxLen)∧((∀ z∈x.exports,wI .i64 z)∧x.exports.length≤maxLen)∧((∀ z∈x.addrs,wI .u32 z)∧x.addrs.length≤maxLen)
theorem Abp:OpN enc Tryz.prog W 66 Aj LineM.In 17:=fun n cs y h=>by
 obtain ⟨xs,m,_,_,hlen,hx,hg⟩:=DataW.trod_struct Tryz.underlying66 h
 have hlen:cs.length=17:=hlen.trans (by kernel_rfl:Tryz.prog.cellsOf 66=17)
 have hx:xs.length=17:=hx
 match cs,hlen with
 | [c0,c1,c2,c3,c4,c5,c6,c7,c8,c9,c10,c11,c12,c13,c14,c15,c16],_ =>
  have g0:DataW.trod enc Tryz.prog W 0 (fun _=>true) true m 3 (([c0,c1,c2,c3,c4,c5,c6,c7,c8,c9,c10,c11,c12,c13,c14,c15,c16].drop 0).take (Tryz.prog.cellsOf 3))=xs[0]?:=hg 0 _ rfl
  rw[(by kernel_rfl:Tryz.prog.cellsOf 3=1),List.getElem?_eq_getElem q_]at g0
  obtain ⟨z0,p0,r0,o0⟩:=J4 Tryz.underlying3 _ _ _ g0
  have g1:DataW.trod enc Tryz.prog W 0 (fun _=>true) true m 3 (([c0,c1,c2,c3,c4,c5,c6,c7,c8,c9,c10,c11,c12,c13,c14,c15,c16].drop 1).take (Tryz.prog.cellsOf 3))=xs[1]?:=hg 1 _ rfl
  rw[(by kernel_rfl:Tryz.prog.cellsOf 3=1),List.getElem?_eq_getElem q_]at g1
  obtain ⟨z1,p1,r1,o1⟩:=J4 Tryz.underlying3 _ _ _ g1
  have g2:DataW.trod enc Tryz.prog W 0 (fun _=>true) true m 9 (([c0,c1,c2,c3,c4,c5,c6,c7,c8,c9,c10,c11,c12,c13,c14,c15,c16].drop 2).take (Tryz.prog.cellsOf 9))=xs[2]?:=hg 2 _ rfl
  rw[(by kernel_rfl:Tryz.prog.cellsOf 9=1),List.getElem?_eq_getElem q_]at g2
  obtain ⟨z2,p2,r2,o2⟩:=Q2 Tryz.underlying9 _ _ _ g2
  have g3:DataW.trod enc Tryz.prog W 0 (fun _=>true) true m 9 (([c0,c1,c2,c3,c4,c5,c6,c7,c8,c9,c10,c11,c12,c13,c14,c15,c16].drop 3).take (Tryz.prog.cellsOf 9))=xs[3]?:=hg 3 _ rfl
  rw[(by kernel_rfl:Tryz.prog.cellsOf 9=1),List.getElem?_eq_getElem q_]at g3
  obtain ⟨z3,p3,r3,o3⟩:=Q2 Tryz.underlying9 _ _ _ g3
  have g4:DataW.trod enc Tryz.prog W 0 (fun _=>true) true m 9 (([c0,c1,c2,c3,c4,c5,c6,c7,c8,c9,c10,c11,c12,c13,c14,c15,c16].drop 4).take (Tryz.prog.cellsOf 9))=xs[4]?:=hg 4 _ rfl
  rw[(by kernel_rfl:Tryz.prog.cellsOf 9=1),List.getElem?_eq_getElem q_]at g4
  obtain ⟨z4,p4,r4,o4⟩:=Q2 Tryz.underlying9 _ _ _ g4
  have g5:DataW.trod enc Tryz.prog W 0 (fun _=>true) true m 9 (([c0,c1,c2,c3,c4,c5,c6,c7,c8,c9,c10,c11,c12,c13,c14,c15,c16].drop 5).take (Tryz.prog.cellsOf 9))=xs[5]?:=hg 5 _ rfl
  rw[(by kernel_rfl:Tryz.prog.cellsOf 9=1),List.getElem?_eq_getElem q_]at g5
  obtain ⟨z5,p5,r5,o5⟩:=Q2 Tryz.underlying9 _ _ _ g5
  have g6:DataW.trod enc Tryz.prog W 0 (fun _=>true) true m 9 (([c0,c1,c2,c3,c4,c5,c6,c7,c8,c9,c10,c11,c12,c13,c14,c15,c16].drop 6).take (Tryz.prog.cellsOf 9))=xs[6]?:=hg 6 _ rfl
  rw[(by kernel_rfl:Tryz.prog.cellsOf 9=1),List.getElem?_eq_getElem q_]at g6
  obtain ⟨z6,p6,r6,o6⟩:=Q2 Tryz.underlying9 _ _ _ g6
  have g7:DataW.trod enc Tryz.prog W 0 (fun _=>true) true m 61 (([c0,c1,c2,c3,c4,c5,c6,c7,c8,c9,c10,c11,c12,c13,c14,c15,c16].drop 7).take (Tryz.prog.cellsOf 61))=xs[7]?:=hg 7 _ rfl
  rw[(by kernel_rfl:Tryz.prog.cellsOf 61=1),List.getElem?_eq_getElem q_]at g7
  obtain ⟨z7,p7,r7,o7⟩:=J4 Tryz.underlying61 _ _ _ g7
  have g8:DataW.trod enc Tryz.prog W 0 (fun _=>true) true m 62 (([c0,c1,c2,c3,c4,c5,c6,c7,c8,c9,c10,c11,c12,c13,c14,c15,c16].drop 8).take (Tryz.prog.cellsOf 62))=xs[8]?:=hg 8 _ rfl
  rw[(by kernel_rfl:Tryz.prog.cellsOf 62=1),List.getElem?_eq_getElem q_]at g8
  obtain ⟨z8,p8,r8,o8⟩:=J4 Tryz.underlying62 _ _ _ g8
  have g9:DataW.trod enc Tryz.prog W 0 (fun _=>true) true m 3 (([c0,c1,c2,c3,c4,c5,c6,c7,c8,c9,c10,c11,c12,c13,c14,c15,c16].drop 9).take (Tryz.prog.cellsOf 3))=xs[9]?:=hg 9 _ rfl
  rw[(by kernel_rfl:Tryz.prog.cellsOf 3=1),List.getElem?_eq_getElem q_]at g9
  obtain ⟨z9,p9,r9,o9⟩:=J4 Tryz.underlying3 _ _ _ g9
  have g10:DataW.trod enc Tryz.prog W 0 (fun _=>true) true m 3 (([c0,c1,c2,c3,c4,c5,c6,c7,c8,c9,c10,c11,c12,c13,c14,c15,c16].drop 10).take (Tryz.prog.cellsOf 3))=xs[10]?:=hg 10 _ rfl
  rw[(by kernel_rfl:Tryz.prog.cellsOf 3=1),List.getElem?_eq_getElem q_]at g10
  obtain ⟨z10,p10,r10,o10⟩:=J4 Tryz.underlying3 _ _ _ g10
  have g11:DataW.trod enc Tryz.prog W 0 (fun _=>true) true m 3 (([c0,c1,c2,c3,c4,c5,c6,c7,c8,c9,c10,c11,c12,c13,c14,c15,c16].drop 11).take (Tryz.prog.cellsOf 3))=xs[11]?:=hg 11 _ rfl
  rw[(by kernel_rfl:Tryz.prog.cellsOf 3=1),List.getElem?_eq_getElem q_]at g11
  obtain ⟨z11,p11,r11,o11⟩:=J4 Tryz.underlying3 _ _ _ g11
  have g12:DataW.trod enc Tryz.prog W 0 (fun _=>true) true m 3 (([c0,c1,c2,c3,c4,c5,c6,c7,c8,c9,c10,c11,c12,c13,c14,c15,c16].drop 12).take (Tryz.prog.cellsOf 3))=xs[12]?:=hg 12 _ rfl
  rw[(by kernel_rfl:Tryz.prog.cellsOf 3=1),List.getElem?_eq_getElem q_]at g12
  obtain ⟨z12,p12,r12,o12⟩:=J4 Tryz.underlying3 _ _ _ g12
  have g13:DataW.trod enc Tryz.prog W 0 (fun _=>true) true m 63 (([c0,c1,c2,c3,c4,c5,c6,c7,c8,c9,c10,c11,c12,c13,c14,c15,c16].drop 13).take (Tryz.prog.cellsOf 63))=xs[13]?:=hg 13 _ rfl
  rw[(by kernel_rfl:Tryz.prog.cellsOf 63=1),List.getElem?_eq_getElem q_]at g13
  obtain ⟨z13,p13,r13,o13⟩:=Vb _ _ _ g13
  have g14:DataW.trod enc Tryz.prog W 0 (fun _=>true) true m 63 (([c0,c1,c2,c3,c4,c5,c6,c7,c8,c9,c10,c11,c12,c13,c14,c15,c16].drop 14).take (Tryz.prog.cellsOf 63))=xs[14]?:=hg 14 _ rfl
  rw[(by kernel_rfl:Tryz.prog.cellsOf 63=1),List.getElem?_eq_getElem q_]at g14
  obtain ⟨z14,p14,r14,o14⟩:=Vb _ _ _ g14
  have g15:DataW.trod enc Tryz.prog W 0 (fun _=>true) true m 63 (([c0,c1,c2,c3,c4,c5,c6,c7,c8,c9,c10,c11,c12,c13,c14,c15,c16].drop 15).take (Tryz.prog.cellsOf 63))=xs[15]?:=hg 15 _ rfl
  rw[(by kernel_rfl:Tryz.prog.cellsOf 63=1),List.getElem?_eq_getElem q_]at g15
  obtain ⟨z15,p15,r15,o15⟩:=Vb _ _ _ g15
  have g16:DataW.trod enc Tryz.prog W 0 (fun _=>true) true m 64 (([c0,c1,c2,c3,c4,c5,c6,c7,c8,c9,c10,c11,c12,c13,c14,c15,c16].drop 16).take (Tryz.prog.cellsOf 64))=xs[16]?:=hg 16 _ rfl
  rw[(by kernel_rfl:Tryz.prog.cellsOf 64=1),List.getElem?_eq_getElem q_]at g16
  obtain ⟨z16,p16,r16,o16⟩:=Afi _ _ _ g16
  refine⟨⟨z0,z1,z2,z3,z4,z5,z6,z7,z8,z9,z10,z11,z12,z13,z14,z15,z16⟩,⟨p0,p1,p2,p3,p4,p5,p6,p7,p8,p9,p10,p11,p12,p13,p14,p15,p16⟩,E,fun c hc=>?_,?_⟩
  ·simp only[List.mem_cons,List.not_mem_nil,or_false]at hc
   rcases hc with rfl | rfl | rfl | rfl | rfl | rfl | rfl | rfl | rfl | rfl | rfl | rfl | rfl | rfl | rfl | rfl | rfl<;>assumption
  ·simp only[Aj,cellsOf,RdL]
   exact⟨_,_,E,r0,_,_,E,r1,_,_,E,r2,_,_,E,r3,_,_,E,r4,_,_,E,r5,_,_,E,r6,_,_,E,r7,_,_,E,r8,_,_,E,r9,_,_,E,r10,_,_,E,r11,_,_,E,r12,_,_,E,r13,_,_,E,r14,_,_,E,r15,_,_,E,r16,E⟩
theorem Adl:Op1 enc Tryz.prog W 22 (fun l:List LineM=>.sl 17 Aj l) (fun l=>(∀ x∈l,LineM.In x)∧l.length≤maxLen) :=
 Q3 Tryz.underlying22 (by kernel_rfl:Tryz.prog.cellsOf 66=17) j_ (fun _=>rfl) (fun _=>rfl) Abp
end
end Go.Sy.YtjenpnjajjplkaaGreatDoor
namespace Go.Sy.YtjenpnjajjplkaaGreatDoor
open Go.Proofs
theorem Afo {l:LineM} (h:LineM.In l):LineOK l:=by
 obtain ⟨_,_,_,_,_,_,_,h8,h9,_,_,_,_,_,_,_,h17⟩:=h
 refine⟨?_,?_,fun x hx=>?_⟩
 ·simp only[wI,Lit.wf,decide_eq_true_eq,Bool.and_eq_true]at h8
  exact⟨h8.1,Int.lt_of_le_of_lt h8.2 j_⟩
 ·simp only[wI,Lit.wf,decide_eq_true_eq,Bool.and_eq_true]at h9
  exact⟨h9.1,Int.lt_of_le_of_lt h9.2 j_⟩
 ·have h1:=h17.1 x hx
  simp only[wI,Lit.wf,decide_eq_true_eq,Bool.and_eq_true]at h1
  exact⟨h1.1,Int.lt_of_le_of_lt h1.2 j_⟩
def emptyN:Net:=⟨[],[],[],[],[],[],[],[]⟩
def fitsB (n:Net) (l:LineM) (k:Int):Bool:=l.kind == k && (Bp l && Ae n)
def Bm (n:Net) (s:ByteArray):Int:=Bv (fun d:Device=>d.name == s) n.devices
def Lj (n:Net) (dev:Int) (s:ByteArray):Int:=Bv (fun p:Port=>p.dev == dev && p.name == s) n.ports
def U1 (n:Net) (dev:Int) (s:ByteArray):Int:=Bv (fun v:Vrf=>v.dev == dev && v.name == s) n.vrfs
def putDevice (n:Net) (l:LineM):Net × Int :=
 if fitsB n l 1=false then (emptyN,2) else if n.devices.any (fun d=>d.name == l.dev || d.mac == l.mac)=true then (emptyN,30) else if n.devices.length=8 then (emptyN,3)
 else ({ n with devices:=n.devices++[⟨l.row,l.num,l.dev,l.mac,0⟩] },0)
def Bt (dev:Int) (ds:List Domain) (v:Int):List Domain:=if 0<v∧ds.any (fun d=>d.dev == dev && d.vlan == v)=false then ds++[⟨dev,v,0,-1,0,[]⟩] else ds
def Ax (dev:Int) (ds:List Domain) (l:List Int):List Domain:=l.foldl (Bt dev) ds
def putPort (n:Net) (l:LineM):Net × Int :=
 if fitsB n l 2=false then (emptyN,2) else if Bm n l.dev<0 then (emptyN,31) else if 0≤Lj n (Bm n l.dev) l.port then (emptyN,30) else if n.ports.length=40 then (emptyN,3)
 else if 48<(Ax (Bm n l.dev) n.domains (l.vlan::l.tagged)).length then (emptyN,3)
 else ({ n with ports:=n.ports++[⟨l.row,Bm n l.dev,l.vlan,l.cost,-1,l.port,l.tagged⟩],domains:=Ax (Bm n l.dev) n.domains (l.vlan::l.tagged) },0)
def endI (n:Net) (dev port:ByteArray):Int:=if Bm n dev<0 then -1 else Lj n (Bm n dev) port
def Df (l:List Port) (i k:Int):List Port:=l.set i.toNat { nth l i with link:=k }
def putLink (n:Net) (l:LineM):Net × Int :=
 if fitsB n l 3=false then (emptyN,2) else
 let a:=endI n l.dev l.port
 let b:=endI n l.peer l.far
 if a<0∨b<0 then (emptyN,31) else if (nth n.ports a).dev=(nth n.ports b).dev∨0≤(nth n.ports a).link∨0≤(nth n.ports b).link then (emptyN,33) else if n.links.length=20 then (emptyN,3)
 else ({ n with ports:=Df (Df n.ports a n.links.length) b n.links.length,links:=n.links++[⟨l.row,a,b⟩] },0)
def Vy (n:Net) (d mac:Int):Int:=Bv (fun s:Static=>s.domain == d && s.mac == mac) n.statics
def putStatic (n:Net) (l:LineM):Net × Int :=
 if fitsB n l 4=false then (emptyN,2) else
 let dev:=Bm n l.dev
 let port:=Lj n dev l.port
 let dom:=Ca n dev l.vlan
 if dev<0∨port<0 then (emptyN,31) else if dom<0∨Cw (nth n.ports port) l.vlan=false then (emptyN,32) else if 0≤Vy n dom l.mac then (emptyN,30) else if n.statics.length=64 then (emptyN,3)
 else ({ n with statics:=n.statics++[⟨l.row,dom,port,l.mac⟩] },0)
def Cq (n:Net) (a:Int):Int:=Bv (fun d:Device=>d.vtep == a) n.devices
def Io (n:Net) (dev vni:Int):Int:=Bv (fun d:Domain=>d.dev == dev && (d.vni == vni && vni != 0)) n.domains
def Dv (n:Net) (dev vni:Int):Int:=Bv (fun f:Flood=>f.dev == dev && f.vni == vni) n.floods
def begT (n:Net) (l:LineM) (k:Int):Int × Int:=if fitsB n l k=false then (0,2) else if Bm n l.dev<0 then (0,31) else (Bm n l.dev,0)
def Qy (l:List Device) (i a:Int):List Device:=l.set i.toNat { nth l i with vtep:=a }
def putVtep (n:Net) (l:LineM):Net × Int :=
 if (begT n l 5).2≠0 then (emptyN,(begT n l 5).2) else
 let dev:=(begT n l 5).1
 if (nth n.devices dev).vtep≠0∨0≤Cq n l.addr then (emptyN,30) else ({ n with devices:=Qy n.devices dev l.addr },0)
def putVni (n:Net) (l:LineM):Net × Int :=
 if (begT n l 6).2≠0 then (emptyN,(begT n l 6).2) else
 let dev:=(begT n l 6).1
 let at_:=Ca n dev l.vlan
 if (nth n.devices dev).vtep=0 then (emptyN,35) else if at_<0 then (emptyN,32) else if (nth n.domains at_).vni≠0∨0≤Io n dev l.num then (emptyN,30)
 else ({ n with domains:=n.domains.set at_.toNat { nth n.domains at_ with vni:=l.num,row:=l.row } },0)
def putFlood (n:Net) (l:LineM):Net × Int :=
 if (begT n l 7).2≠0 then (emptyN,(begT n l 7).2) else
 let dev:=(begT n l 7).1
 if Io n dev l.num<0 then (emptyN,31) else if 0≤Dv n dev l.num then (emptyN,30) else if inB l.addrs (nth n.devices dev).vtep=true then (emptyN,36) else if n.floods.length=48 then (emptyN,3)
 else ({ n with floods:=n.floods++[⟨l.row,dev,l.num,l.addrs⟩] },0)
def putVrf (n:Net) (l:LineM):Net × Int :=
 if (begT n l 8).2≠0 then (emptyN,(begT n l 8).2) else
 let dev:=(begT n l 8).1
 if 0≤U1 n dev l.name then (emptyN,30) else if n.vrfs.length=16 then (emptyN,3)
 else ({ n with vrfs:=n.vrfs++[⟨l.row,dev,l.name,l.imports,l.exports⟩] },0)
def My (a bits x:Int):Bool:=decide (0≤bits) && (decide (bits≤32) && Im a bits == Im x bits)
def clashB (n:Net) (dev a bits:Int) (x:Irb):Bool:=x.addr == a || ((nth n.vrfs x.vrf).dev != dev && (My x.addr x.bits a || My a bits x.addr))
def putIrb (n:Net) (l:LineM):Net × Int :=
 if (begT n l 9).2≠0 then (emptyN,(begT n l 9).2) else
 let dev:=(begT n l 9).1
 let vrf:=U1 n dev l.name
 let at_:=Ca n dev l.vlan
 if vrf<0 then (emptyN,31) else if at_<0 then (emptyN,32) else if 0≤(nth n.domains at_).irb∨n.irbs.any (clashB n dev l.addr l.bits)=true then (emptyN,37)
 else ({ n with domains:=n.domains.set at_.toNat { nth n.domains at_ with irb:=n.irbs.length },irbs:=n.irbs++[⟨l.row,at_,vrf,l.addr,l.bits⟩] },0)
def putT (n:Net) (l:LineM):Net × Int :=
 if l.kind=1 then putDevice n l else if l.kind=2 then putPort n l else if l.kind=3 then putLink n l else if l.kind=4 then putStatic n l else if l.kind=5 then putVtep n l
 else if l.kind=6 then putVni n l else if l.kind=7 then putFlood n l else if l.kind=8 then putVrf n l else if l.kind=9 then putIrb n l else (emptyN,2)
def agreeA (n:Net) (f:Flood) (a:Int):Bool :=
 let dev:=Cq n a
 decide (0≤dev) && (a != 0 && (decide (0≤Io n dev f.vni) && (decide (0≤Dv n dev f.vni) &&
  (inB (nth n.floods (Dv n dev f.vni)).addrs (nth n.devices f.dev).vtep && f.addrs.all fun b=>b == a || inB (nth n.floods (Dv n dev f.vni)).addrs b))))
def agreesB (n:Net) (f:Flood):Bool:=decide (0≤Io n f.dev f.vni) && f.addrs.all (agreeA n f)
def peersT (n:Net) (d:Domain):List Int:=if d.vni≠0∧0≤Dv n d.dev d.vni then (nth n.floods (Dv n d.dev d.vni)).addrs.map (fun a=>Io n (Cq n a) d.vni) else []
def A7 (n:Net):Net:={ n with domains:=n.domains.map fun d=>{ d with peers:=peersT n d } }
def meshNT (n:Net):Net × Int × Int :=
 if Ae n=false then (emptyN,0,2) else match n.floods.find? (fun f=>!(agreesB n f)) with
 | some f=>(emptyN,f.row,36)
 | none=>if Ae (A7 n)=false then (emptyN,0,36) else (A7 n,0,0)
def B6 (f:List Int):Prop:=∀ i (h:i<f.length),0≤f[i]∧f[i]≤i
def Wf:Nat→List Int→Int→List Int × Int
 | 0,f,i=>(f,i)
 | k+1,f,i=>if nth f i=i then (f,i) else Wf k (f.set i.toNat (nth f (nth f i))) (nth f (nth f i))
def He (f:List Int) (i:Int):List Int × Int:=Wf (i.toNat+1) f i
def Lb (f:List Int) (a b:Int):List Int × Bool :=
 let x:=He f a
 let y:=He x.1 b
 (y.1.set (max x.2 y.2).toNat (min x.2 y.2),x.2 != y.2)
def H3 (k:Nat):List Int:=(List.range k).map fun i:Nat=>(i:Int)
def Cc (n:Net) (f:List Int) (i:Int) (v:Int):List Int:=if (linkDomT n i v).2=true then (Lb f (Ca n (nth n.ports i).dev v) (linkDomT n i v).1).1 else f
def D4 (n:Net) (f:List Int) (i:Nat):List Int:=((nth n.ports i).tagged++[(nth n.ports i).native]).foldl (fun f v=>Cc n f i v) f
def Ko (n:Net) (f:List Int):List Int:=(List.range n.ports.length).foldl (D4 n) f
def Tn:Int→List Int→Int
 | m,[]=>m
 | m,x::l=>Tn (min m x) l
def W4 (l:List Int):Int:=Tn (nth l 0) (l.drop 1)
def Ja (n:Net):List Int→Nat→List Domain→Int × Bool
 | _,_,[]=>(0,false)
 | f,i,d::r=>if d.peers=[] then Ja n f (i+1) r else
  let x:=Lb f i ((n.domains.length:Int)+min (i:Int) (W4 d.peers))
  if x.2=false then (d.row,true) else Ja n x.1 (i+1) r
def loopT (n:Net):Int × Bool:=if Ae n=false then (0,false) else Ja n (Ko n (H3 (2 * n.domains.length))) 0 n.domains
def finishT (n:Net):Net × Int × Int:=if (meshNT n).2.2≠0 then meshNT n else if (loopT (meshNT n).1).2=true then (emptyN,(loopT (meshNT n).1).1,38) else ((meshNT n).1,0,0)
def B3:Net→List LineM→Net × Int × Int
 | n,[]=>finishT n
 | n,l::r=>if (putT n l).2≠0 then (emptyN,l.row,(putT n l).2) else B3 (putT n l).1 r
def B2 (l:List LineM):Net × Int × Int:=B3 emptyN l
def netTextT (b:List UInt8):Net × Int × Int:=if (textT b).2.2≠0 then (emptyN,(textT b).2.1,(textT b).2.2) else B2 (textT b).1
end Go.Sy.YtjenpnjajjplkaaGreatDoor
namespace Go.Sy.YtjenpnjajjplkaaGreatDoor
open Go.Proofs
attribute [local irreducible] Go.Sy.G Go.Sy.DR
set_option maxRecDepth 100000
set_option maxHeartbeats 4000000
theorem T3 (l:List Device) (hl:l.length<2147483648):Sy.Spec Tryz.prog 151 [.sl 5 At l] [] (.osl 0) [(0,.row 5 At l)]:=cT F151 Tryz.ntmps151 fun F hF=>by
 ((conv=>whnf);repeat((first|refine aF ?_|refine aT ?_);(first|refine rG Γ hm ?_|refine rD Γ hm z_ ?_);conv=>whnf))
 refine Eg E (.inl E) E E E .sl E E ?_
 intro b hb
 cases b
 ·((first|refine rG Γ hm ?_|refine rD Γ hm z_ ?_);(conv=>whnf);repeat((first|refine aF ?_|refine aT ?_);(first|refine rG Γ hm ?_|refine rD Γ hm z_ ?_);conv=>whnf))
  refine Cm (An Γ.toTy 7 E E E E E (.lit (e:=At) (l:=[]) E E) .sl y_ (by simp;omega) (by simp;omega)) E E ?_
  ((first|refine rG Γ hm ?_|refine rD Γ hm z_ ?_);(conv=>whnf);repeat((first|refine aF ?_|refine aT ?_);(first|refine rG Γ hm ?_|refine rD Γ hm z_ ?_);conv=>whnf))
  exact done E (.cons .tmp .nil) [(0,7)] [(0,.row 5 At l)] (fun _ h=>h) E E ⟨Y,⟨.inl E,E,Y⟩,E,E⟩
 ·have h0:l=[]:=List.eq_nil_of_length_eq_zero (hb rfl)
  subst h0
  ((first|refine rG Γ hm ?_|refine rD Γ hm z_ ?_);(conv=>whnf);repeat((first|refine aF ?_|refine aT ?_);(first|refine rG Γ hm ?_|refine rD Γ hm z_ ?_);conv=>whnf))
  refine C8 2 1000 5 At E E ?_
  exact done E (.cons .tmp .nil) [(0,1000)] [(0,.row 5 At [])] (fun _ h=>h) E E ⟨Y,⟨.inl E,E,Y⟩,E,E⟩
theorem Xw (l:List Link) (hl:l.length<2147483648):Sy.Spec Tryz.prog 153 [.sl 3 Bs l] [] (.osl 0) [(0,.row 3 Bs l)]:=cT F153 Tryz.ntmps153 fun F hF=>by
 ((conv=>whnf);repeat((first|refine aF ?_|refine aT ?_);(first|refine rG Γ hm ?_|refine rD Γ hm z_ ?_);conv=>whnf))
 refine Eg E (.inl E) E E E .sl E E ?_
 intro b hb
 cases b
 ·((first|refine rG Γ hm ?_|refine rD Γ hm z_ ?_);(conv=>whnf);repeat((first|refine aF ?_|refine aT ?_);(first|refine rG Γ hm ?_|refine rD Γ hm z_ ?_);conv=>whnf))
  refine Cm (An Γ.toTy 7 E E E E E (.lit (e:=Bs) (l:=[]) E E) .sl y_ (by simp;omega) (by simp;omega)) E E ?_
  ((first|refine rG Γ hm ?_|refine rD Γ hm z_ ?_);(conv=>whnf);repeat((first|refine aF ?_|refine aT ?_);(first|refine rG Γ hm ?_|refine rD Γ hm z_ ?_);conv=>whnf))
  exact done E (.cons .tmp .nil) [(0,7)] [(0,.row 3 Bs l)] (fun _ h=>h) E E ⟨Y,⟨.inl E,E,Y⟩,E,E⟩
 ·have h0:l=[]:=List.eq_nil_of_length_eq_zero (hb rfl)
  subst h0
  ((first|refine rG Γ hm ?_|refine rD Γ hm z_ ?_);(conv=>whnf);repeat((first|refine aF ?_|refine aT ?_);(first|refine rG Γ hm ?_|refine rD Γ hm z_ ?_);conv=>whnf))
  refine C8 2 1000 3 Bs E E ?_
  exact done E (.cons .tmp .nil) [(0,1000)] [(0,.row 3 Bs [])] (fun _ h=>h) E E ⟨Y,⟨.inl E,E,Y⟩,E,E⟩
theorem T1 (l:List Static) (hl:l.length<2147483648):Sy.Spec Tryz.prog 155 [.sl 4 A0 l] [] (.osl 0) [(0,.row 4 A0 l)]:=cT F155 Tryz.ntmps155 fun F hF=>by
 ((conv=>whnf);repeat((first|refine aF ?_|refine aT ?_);(first|refine rG Γ hm ?_|refine rD Γ hm z_ ?_);conv=>whnf))
 refine Eg E (.inl E) E E E .sl E E ?_
 intro b hb
 cases b
 ·((first|refine rG Γ hm ?_|refine rD Γ hm z_ ?_);(conv=>whnf);repeat((first|refine aF ?_|refine aT ?_);(first|refine rG Γ hm ?_|refine rD Γ hm z_ ?_);conv=>whnf))
  refine Cm (An Γ.toTy 7 E E E E E (.lit (e:=A0) (l:=[]) E E) .sl y_ (by simp;omega) (by simp;omega)) E E ?_
  ((first|refine rG Γ hm ?_|refine rD Γ hm z_ ?_);(conv=>whnf);repeat((first|refine aF ?_|refine aT ?_);(first|refine rG Γ hm ?_|refine rD Γ hm z_ ?_);conv=>whnf))
  exact done E (.cons .tmp .nil) [(0,7)] [(0,.row 4 A0 l)] (fun _ h=>h) E E ⟨Y,⟨.inl E,E,Y⟩,E,E⟩
 ·have h0:l=[]:=List.eq_nil_of_length_eq_zero (hb rfl)
  subst h0
  ((first|refine rG Γ hm ?_|refine rD Γ hm z_ ?_);(conv=>whnf);repeat((first|refine aF ?_|refine aT ?_);(first|refine rG Γ hm ?_|refine rD Γ hm z_ ?_);conv=>whnf))
  refine C8 2 1000 4 A0 E E ?_
  exact done E (.cons .tmp .nil) [(0,1000)] [(0,.row 4 A0 [])] (fun _ h=>h) E E ⟨Y,⟨.inl E,E,Y⟩,E,E⟩
theorem Z6 (l:List Irb) (hl:l.length<2147483648):Sy.Spec Tryz.prog 158 [.sl 5 Bw l] [] (.osl 0) [(0,.row 5 Bw l)]:=cT F158 Tryz.ntmps158 fun F hF=>by
 ((conv=>whnf);repeat((first|refine aF ?_|refine aT ?_);(first|refine rG Γ hm ?_|refine rD Γ hm z_ ?_);conv=>whnf))
 refine Eg E (.inl E) E E E .sl E E ?_
 intro b hb
 cases b
 ·((first|refine rG Γ hm ?_|refine rD Γ hm z_ ?_);(conv=>whnf);repeat((first|refine aF ?_|refine aT ?_);(first|refine rG Γ hm ?_|refine rD Γ hm z_ ?_);conv=>whnf))
  refine Cm (An Γ.toTy 7 E E E E E (.lit (e:=Bw) (l:=[]) E E) .sl y_ (by simp;omega) (by simp;omega)) E E ?_
  ((first|refine rG Γ hm ?_|refine rD Γ hm z_ ?_);(conv=>whnf);repeat((first|refine aF ?_|refine aT ?_);(first|refine rG Γ hm ?_|refine rD Γ hm z_ ?_);conv=>whnf))
  exact done E (.cons .tmp .nil) [(0,7)] [(0,.row 5 Bw l)] (fun _ h=>h) E E ⟨Y,⟨.inl E,E,Y⟩,E,E⟩
 ·have h0:l=[]:=List.eq_nil_of_length_eq_zero (hb rfl)
  subst h0
  ((first|refine rG Γ hm ?_|refine rD Γ hm z_ ?_);(conv=>whnf);repeat((first|refine aF ?_|refine aT ?_);(first|refine rG Γ hm ?_|refine rD Γ hm z_ ?_);conv=>whnf))
  refine C8 2 1000 5 Bw E E ?_
  exact done E (.cons .tmp .nil) [(0,1000)] [(0,.row 5 Bw [])] (fun _ h=>h) E E ⟨Y,⟨.inl E,E,Y⟩,E,E⟩
theorem Jj (n:Net) (hn:n.Fin) :
  Sy.Spec Tryz.prog 61 [Ap n] [] (.agg [.osl 0,.osl 1,.osl 2,.osl 3,.osl 4,.osl 5,.osl 6,.osl 7]) [(0,.row 5 At n.devices),(1,.row 7 Ay n.ports),(2,.row 3 Bs n.links),(3,.row 6 Ad n.domains),(4,.row 4 A0 n.statics),(5,.row 4 Aw n.floods),(6,.row 5 Bn n.vrfs),(7,.row 5 Bw n.irbs)]:=cT F61 Tryz.ntmps61 fun F hF=>by
 have h1:n.devices.length<2147483648∧n.ports.length<2147483648∧n.links.length<2147483648∧n.domains.length<2147483648∧n.statics.length<2147483648∧n.floods.length<2147483648∧n.vrfs.length<2147483648∧n.irbs.length<2147483648:=⟨hn.devices,hn.ports,hn.links,hn.domains,hn.statics,hn.floods,hn.vrfs,hn.irbs⟩
 have h2:(∀ p∈n.ports,p.tagged.length<2147483648)∧(∀ p∈n.domains,p.peers.length<2147483648)∧(∀ p∈n.floods,p.addrs.length<2147483648)∧(∀ p∈n.vrfs,p.imports.length<2147483648∧p.exports.length<2147483648):=⟨hn.tagged,hn.peers,hn.addrs,fun v hv=>⟨hn.imports v hv,hn.exports v hv⟩⟩
 ((conv=>whnf);repeat((first|refine aF ?_|refine aT ?_);(first|refine rG Γ hm ?_|refine rD Γ hm z_ ?_);conv=>whnf))
 refine H8 (Ac [(0,11)] E F151 (T3 n.devices h1.1) E Y E ⟨.inr E,Y⟩) z_ E ?_
 ((first|refine rG Γ hm ?_|refine rD Γ hm z_ ?_);(conv=>whnf);repeat((first|refine aF ?_|refine aT ?_);(first|refine rG Γ hm ?_|refine rD Γ hm z_ ?_);conv=>whnf))
 refine H8 (Ac [(0,14)] E F152 (Z5 n.ports h1.2.1) E Y E ⟨.inr E,Y⟩) z_ E ?_
 ((first|refine rG Γ hm ?_|refine rD Γ hm z_ ?_);(conv=>whnf);repeat((first|refine aF ?_|refine aT ?_);(first|refine rG Γ hm ?_|refine rD Γ hm z_ ?_);conv=>whnf))
 refine H8 (Ac [(0,17)] E F153 (Xw n.links h1.2.2.1) E Y E ⟨.inr E,Y⟩) z_ E ?_
 ((first|refine rG Γ hm ?_|refine rD Γ hm z_ ?_);(conv=>whnf);repeat((first|refine aF ?_|refine aT ?_);(first|refine rG Γ hm ?_|refine rD Γ hm z_ ?_);conv=>whnf))
 refine H8 (Ac [(0,20)] E F154 (V4 n.domains h1.2.2.2.1) E Y E ⟨.inr E,Y⟩) z_ E ?_
 ((first|refine rG Γ hm ?_|refine rD Γ hm z_ ?_);(conv=>whnf);repeat((first|refine aF ?_|refine aT ?_);(first|refine rG Γ hm ?_|refine rD Γ hm z_ ?_);conv=>whnf))
 refine H8 (Ac [(0,23)] E F155 (T1 n.statics h1.2.2.2.2.1) E Y E ⟨.inr E,Y⟩) z_ E ?_
 ((first|refine rG Γ hm ?_|refine rD Γ hm z_ ?_);(conv=>whnf);repeat((first|refine aF ?_|refine aT ?_);(first|refine rG Γ hm ?_|refine rD Γ hm z_ ?_);conv=>whnf))
 refine H8 (Ac [(0,26)] E F156 (Xx n.floods h1.2.2.2.2.2.1) E Y E ⟨.inr E,Y⟩) z_ E ?_
 ((first|refine rG Γ hm ?_|refine rD Γ hm z_ ?_);(conv=>whnf);repeat((first|refine aF ?_|refine aT ?_);(first|refine rG Γ hm ?_|refine rD Γ hm z_ ?_);conv=>whnf))
 refine H8 (Ac [(0,29)] E F157 (Ach n.vrfs h1.2.2.2.2.2.2.1) E Y E ⟨.inr E,Y⟩) z_ E ?_
 ((first|refine rG Γ hm ?_|refine rD Γ hm z_ ?_);(conv=>whnf);repeat((first|refine aF ?_|refine aT ?_);(first|refine rG Γ hm ?_|refine rD Γ hm z_ ?_);conv=>whnf))
 refine H8 (Ac [(0,32)] E F158 (Z6 n.irbs h1.2.2.2.2.2.2.2) E Y E ⟨.inr E,Y⟩) z_ E ?_
 ((first|refine rG Γ hm ?_|refine rD Γ hm z_ ?_);(conv=>whnf);repeat((first|refine aF ?_|refine aT ?_);(first|refine rG Γ hm ?_|refine rD Γ hm z_ ?_);conv=>whnf))
 refine⟨z_,?_⟩
 ((conv=>whnf);repeat((first|refine aF ?_|refine aT ?_);(first|refine rG Γ hm ?_|refine rD Γ hm z_ ?_);conv=>whnf))
 refine E3 n.ports.length (fun j=>[(2,.ptr 2 0),(3,.ptr 3 0),(36,Aa n.ports.length),(37,Aa j)]) (fun _=>[(2,.box [.val (.slice none 0 0),.val (.slice none 0 0),.val (.slice none 0 0),.val (.slice none 0 0),.val (.slice none 0 0),.val (.slice none 0 0),.val (.slice none 0 0),.val (.slice none 0 0)]),(3,.box [.osl 11,.osl 14,.osl 17,.osl 20,.osl 23,.osl 26,.osl 29,.osl 32]),(11,.row 5 At n.devices),(14,.row 7 Ay n.ports),(17,.row 3 Bs n.links),(20,.row 6 Ad n.domains),(23,.row 4 A0 n.statics),(26,.row 4 Aw n.floods),(29,.row 5 Bn n.vrfs),(32,.row 5 Bw n.irbs)]) []
  ⟨⟨rfl,rfl,rfl,rfl,rfl,rfl,rfl,rfl,trivial⟩,⟨.inl rfl,rfl,.inl rfl,rfl,.inl rfl,rfl,.inl rfl,rfl,.inl rfl,rfl,.inl rfl,rfl,.inl rfl,rfl,.inl rfl,rfl,.inl rfl,rfl,.inl rfl,rfl,trivial⟩,rfl,rfl⟩ ?_
 intro j hj
 ((first|refine rG Γ hm ?_|refine rD Γ hm z_ ?_);(conv=>whnf);repeat((first|refine aF ?_|refine aT ?_);(first|refine rG Γ hm ?_|refine rD Γ hm z_ ?_);conv=>whnf))
 refine⟨fun h=>?_,fun h=>?_⟩
 ·have hlt:j<n.ports.length:=by simpa using h
  obtain ⟨p,hp⟩:∃ p,n.ports[(j:Int).toNat]'q_=p:=⟨_,rfl⟩
  have hne:n.ports≠[]:=fun e=>by rw[e]at hlt;cases hlt
  have hset:n.ports.set (j:Int).toNat p=n.ports:=by rw[← hp];exact List.set_getElem_self _
  have hpl:=h2.1 p (by rw[← hp];exact List.getElem_mem _)
  ((first|refine rG Γ hm ?_|refine rD Γ hm z_ ?_);(conv=>whnf);repeat((first|refine aF ?_|refine aT ?_);(first|refine rG Γ hm ?_|refine rD Γ hm z_ ?_);conv=>whnf))
  refine⟨by omega,by show _<n.ports.length;omega,?_⟩
  ((conv=>whnf);repeat((first|refine aF ?_|refine aT ?_);(first|refine rG Γ hm ?_|refine rD Γ hm z_ ?_);conv=>whnf))
  refine⟨hne,?_⟩
  ((conv=>whnf);repeat((first|refine aF ?_|refine aT ?_);(first|refine rG Γ hm ?_|refine rD Γ hm z_ ?_);conv=>whnf))
  refine⟨E,by omega,?_⟩
  rw[hp]
  ((conv=>whnf);repeat((first|refine aF ?_|refine aT ?_);(first|refine rG Γ hm ?_|refine rD Γ hm z_ ?_);conv=>whnf))
  refine cD (Ez p.tagged hpl) F159 ?_
  ((first|refine rG Γ hm ?_|refine rD Γ hm z_ ?_);(conv=>whnf);repeat((first|refine aF ?_|refine aT ?_);(first|refine rG Γ hm ?_|refine rD Γ hm z_ ?_);conv=>whnf))
  refine⟨by omega,by show _<n.ports.length;omega,?_⟩
  ((conv=>whnf);repeat((first|refine aF ?_|refine aT ?_);(first|refine rG Γ hm ?_|refine rD Γ hm z_ ?_);conv=>whnf))
  refine⟨hne,?_⟩
  ((conv=>whnf);repeat((first|refine aF ?_|refine aT ?_);(first|refine rG Γ hm ?_|refine rD Γ hm z_ ?_);conv=>whnf))
  refine⟨E,by omega,p,(by rw[hp];rfl),(by rw[hp];rfl),?_⟩
  ((conv=>whnf);repeat((first|refine aF ?_|refine aT ?_);(first|refine rG Γ hm ?_|refine rD Γ hm z_ ?_);conv=>whnf))
  refine⟨z_,?_⟩
  ((conv=>whnf);repeat((first|refine aF ?_|refine aT ?_);(first|refine rG Γ hm ?_|refine rD Γ hm z_ ?_);conv=>whnf))
  refine iL ?_
  ((conv=>whnf);repeat((first|refine aF ?_|refine aT ?_);(first|refine rG Γ hm ?_|refine rD Γ hm z_ ?_);conv=>whnf))
  exact H4 [] hlt ⟨⟨E,E,E,E,E,E,E,E,Y⟩,⟨.inl E,E,.inl E,E,.inl E,E,.inl (congrArg (Ob.row 7 Ay) hset.symm),E,.inl E,E,.inl E,E,.inl E,E,.inl E,E,.inl E,E,.inl E,E,Y⟩,E,E⟩
 ·((first|refine rG Γ hm ?_|refine rD Γ hm z_ ?_);(conv=>whnf);repeat((first|refine aF ?_|refine aT ?_);(first|refine rG Γ hm ?_|refine rD Γ hm z_ ?_);conv=>whnf))
  refine E3 n.domains.length (fun j=>[(2,.ptr 2 0),(3,.ptr 3 0),(55,Aa n.domains.length),(56,Aa j)]) (fun _=>[(2,.box [.val (.slice none 0 0),.val (.slice none 0 0),.val (.slice none 0 0),.val (.slice none 0 0),.val (.slice none 0 0),.val (.slice none 0 0),.val (.slice none 0 0),.val (.slice none 0 0)]),(3,.box [.osl 11,.osl 14,.osl 17,.osl 20,.osl 23,.osl 26,.osl 29,.osl 32]),(11,.row 5 At n.devices),(14,.row 7 Ay n.ports),(17,.row 3 Bs n.links),(20,.row 6 Ad n.domains),(23,.row 4 A0 n.statics),(26,.row 4 Aw n.floods),(29,.row 5 Bn n.vrfs),(32,.row 5 Bw n.irbs)]) []
   ⟨⟨rfl,rfl,rfl,rfl,rfl,rfl,rfl,rfl,trivial⟩,⟨.inl rfl,rfl,.inl rfl,rfl,.inl rfl,rfl,.inl rfl,rfl,.inl rfl,rfl,.inl rfl,rfl,.inl rfl,rfl,.inl rfl,rfl,.inl rfl,rfl,.inl rfl,rfl,trivial⟩,rfl,rfl⟩ ?_
  intro j hj
  ((first|refine rG Γ hm ?_|refine rD Γ hm z_ ?_);(conv=>whnf);repeat((first|refine aF ?_|refine aT ?_);(first|refine rG Γ hm ?_|refine rD Γ hm z_ ?_);conv=>whnf))
  refine⟨fun h=>?_,fun h=>?_⟩
  ·have hlt:j<n.domains.length:=by simpa using h
   obtain ⟨p,hp⟩:∃ p,n.domains[(j:Int).toNat]'q_=p:=⟨_,rfl⟩
   have hne:n.domains≠[]:=fun e=>by rw[e]at hlt;cases hlt
   have hset:n.domains.set (j:Int).toNat p=n.domains:=by rw[← hp];exact List.set_getElem_self _
   have hpl:=h2.2.1 p (by rw[← hp];exact List.getElem_mem _)
   ((first|refine rG Γ hm ?_|refine rD Γ hm z_ ?_);(conv=>whnf);repeat((first|refine aF ?_|refine aT ?_);(first|refine rG Γ hm ?_|refine rD Γ hm z_ ?_);conv=>whnf))
   refine⟨by omega,by show _<n.domains.length;omega,?_⟩
   ((conv=>whnf);repeat((first|refine aF ?_|refine aT ?_);(first|refine rG Γ hm ?_|refine rD Γ hm z_ ?_);conv=>whnf))
   refine⟨hne,?_⟩
   ((conv=>whnf);repeat((first|refine aF ?_|refine aT ?_);(first|refine rG Γ hm ?_|refine rD Γ hm z_ ?_);conv=>whnf))
   refine⟨E,by omega,?_⟩
   rw[hp]
   ((conv=>whnf);repeat((first|refine aF ?_|refine aT ?_);(first|refine rG Γ hm ?_|refine rD Γ hm z_ ?_);conv=>whnf))
   refine cD (Ez p.peers hpl) F159 ?_
   ((first|refine rG Γ hm ?_|refine rD Γ hm z_ ?_);(conv=>whnf);repeat((first|refine aF ?_|refine aT ?_);(first|refine rG Γ hm ?_|refine rD Γ hm z_ ?_);conv=>whnf))
   refine⟨by omega,by show _<n.domains.length;omega,?_⟩
   ((conv=>whnf);repeat((first|refine aF ?_|refine aT ?_);(first|refine rG Γ hm ?_|refine rD Γ hm z_ ?_);conv=>whnf))
   refine⟨hne,?_⟩
   ((conv=>whnf);repeat((first|refine aF ?_|refine aT ?_);(first|refine rG Γ hm ?_|refine rD Γ hm z_ ?_);conv=>whnf))
   refine⟨E,by omega,p,(by rw[hp];rfl),(by rw[hp];rfl),?_⟩
   ((conv=>whnf);repeat((first|refine aF ?_|refine aT ?_);(first|refine rG Γ hm ?_|refine rD Γ hm z_ ?_);conv=>whnf))
   refine⟨z_,?_⟩
   ((conv=>whnf);repeat((first|refine aF ?_|refine aT ?_);(first|refine rG Γ hm ?_|refine rD Γ hm z_ ?_);conv=>whnf))
   refine iL ?_
   ((conv=>whnf);repeat((first|refine aF ?_|refine aT ?_);(first|refine rG Γ hm ?_|refine rD Γ hm z_ ?_);conv=>whnf))
   exact H4 [] hlt ⟨⟨E,E,E,E,E,E,E,E,Y⟩,⟨.inl E,E,.inl E,E,.inl E,E,.inl E,E,.inl E,E,.inl (congrArg (Ob.row 6 Ad) hset.symm),E,.inl E,E,.inl E,E,.inl E,E,.inl E,E,Y⟩,E,E⟩
  ·((first|refine rG Γ hm ?_|refine rD Γ hm z_ ?_);(conv=>whnf);repeat((first|refine aF ?_|refine aT ?_);(first|refine rG Γ hm ?_|refine rD Γ hm z_ ?_);conv=>whnf))
   refine E3 n.floods.length (fun j=>[(2,.ptr 2 0),(3,.ptr 3 0),(74,Aa n.floods.length),(75,Aa j)]) (fun _=>[(2,.box [.val (.slice none 0 0),.val (.slice none 0 0),.val (.slice none 0 0),.val (.slice none 0 0),.val (.slice none 0 0),.val (.slice none 0 0),.val (.slice none 0 0),.val (.slice none 0 0)]),(3,.box [.osl 11,.osl 14,.osl 17,.osl 20,.osl 23,.osl 26,.osl 29,.osl 32]),(11,.row 5 At n.devices),(14,.row 7 Ay n.ports),(17,.row 3 Bs n.links),(20,.row 6 Ad n.domains),(23,.row 4 A0 n.statics),(26,.row 4 Aw n.floods),(29,.row 5 Bn n.vrfs),(32,.row 5 Bw n.irbs)]) []
    ⟨⟨rfl,rfl,rfl,rfl,rfl,rfl,rfl,rfl,trivial⟩,⟨.inl rfl,rfl,.inl rfl,rfl,.inl rfl,rfl,.inl rfl,rfl,.inl rfl,rfl,.inl rfl,rfl,.inl rfl,rfl,.inl rfl,rfl,.inl rfl,rfl,.inl rfl,rfl,trivial⟩,rfl,rfl⟩ ?_
   intro j hj
   ((first|refine rG Γ hm ?_|refine rD Γ hm z_ ?_);(conv=>whnf);repeat((first|refine aF ?_|refine aT ?_);(first|refine rG Γ hm ?_|refine rD Γ hm z_ ?_);conv=>whnf))
   refine⟨fun h=>?_,fun h=>?_⟩
   ·have hlt:j<n.floods.length:=by simpa using h
    obtain ⟨p,hp⟩:∃ p,n.floods[(j:Int).toNat]'q_=p:=⟨_,rfl⟩
    have hne:n.floods≠[]:=fun e=>by rw[e]at hlt;cases hlt
    have hset:n.floods.set (j:Int).toNat p=n.floods:=by rw[← hp];exact List.set_getElem_self _
    have hpl:=h2.2.2.1 p (by rw[← hp];exact List.getElem_mem _)
    ((first|refine rG Γ hm ?_|refine rD Γ hm z_ ?_);(conv=>whnf);repeat((first|refine aF ?_|refine aT ?_);(first|refine rG Γ hm ?_|refine rD Γ hm z_ ?_);conv=>whnf))
    refine⟨by omega,by show _<n.floods.length;omega,?_⟩
    ((conv=>whnf);repeat((first|refine aF ?_|refine aT ?_);(first|refine rG Γ hm ?_|refine rD Γ hm z_ ?_);conv=>whnf))
    refine⟨hne,?_⟩
    ((conv=>whnf);repeat((first|refine aF ?_|refine aT ?_);(first|refine rG Γ hm ?_|refine rD Γ hm z_ ?_);conv=>whnf))
    refine⟨E,by omega,?_⟩
    rw[hp]
    ((conv=>whnf);repeat((first|refine aF ?_|refine aT ?_);(first|refine rG Γ hm ?_|refine rD Γ hm z_ ?_);conv=>whnf))
    refine cD (Uu p.addrs hpl) F160 ?_
    ((first|refine rG Γ hm ?_|refine rD Γ hm z_ ?_);(conv=>whnf);repeat((first|refine aF ?_|refine aT ?_);(first|refine rG Γ hm ?_|refine rD Γ hm z_ ?_);conv=>whnf))
    refine⟨by omega,by show _<n.floods.length;omega,?_⟩
    ((conv=>whnf);repeat((first|refine aF ?_|refine aT ?_);(first|refine rG Γ hm ?_|refine rD Γ hm z_ ?_);conv=>whnf))
    refine⟨hne,?_⟩
    ((conv=>whnf);repeat((first|refine aF ?_|refine aT ?_);(first|refine rG Γ hm ?_|refine rD Γ hm z_ ?_);conv=>whnf))
    refine⟨E,by omega,p,(by rw[hp];rfl),(by rw[hp];rfl),?_⟩
    ((conv=>whnf);repeat((first|refine aF ?_|refine aT ?_);(first|refine rG Γ hm ?_|refine rD Γ hm z_ ?_);conv=>whnf))
    refine⟨z_,?_⟩
    ((conv=>whnf);repeat((first|refine aF ?_|refine aT ?_);(first|refine rG Γ hm ?_|refine rD Γ hm z_ ?_);conv=>whnf))
    refine iL ?_
    ((conv=>whnf);repeat((first|refine aF ?_|refine aT ?_);(first|refine rG Γ hm ?_|refine rD Γ hm z_ ?_);conv=>whnf))
    exact H4 [] hlt ⟨⟨E,E,E,E,E,E,E,E,Y⟩,⟨.inl E,E,.inl E,E,.inl E,E,.inl E,E,.inl E,E,.inl E,E,.inl E,E,.inl (congrArg (Ob.row 4 Aw) hset.symm),E,.inl E,E,.inl E,E,Y⟩,E,E⟩
   ·((first|refine rG Γ hm ?_|refine rD Γ hm z_ ?_);(conv=>whnf);repeat((first|refine aF ?_|refine aT ?_);(first|refine rG Γ hm ?_|refine rD Γ hm z_ ?_);conv=>whnf))
    refine E3 n.vrfs.length (fun j=>[(2,.ptr 2 0),(3,.ptr 3 0),(93,Aa n.vrfs.length),(94,Aa j)]) (fun _=>[(2,.box [.val (.slice none 0 0),.val (.slice none 0 0),.val (.slice none 0 0),.val (.slice none 0 0),.val (.slice none 0 0),.val (.slice none 0 0),.val (.slice none 0 0),.val (.slice none 0 0)]),(3,.box [.osl 11,.osl 14,.osl 17,.osl 20,.osl 23,.osl 26,.osl 29,.osl 32]),(11,.row 5 At n.devices),(14,.row 7 Ay n.ports),(17,.row 3 Bs n.links),(20,.row 6 Ad n.domains),(23,.row 4 A0 n.statics),(26,.row 4 Aw n.floods),(29,.row 5 Bn n.vrfs),(32,.row 5 Bw n.irbs)]) []
     ⟨⟨rfl,rfl,rfl,rfl,rfl,rfl,rfl,rfl,trivial⟩,⟨.inl rfl,rfl,.inl rfl,rfl,.inl rfl,rfl,.inl rfl,rfl,.inl rfl,rfl,.inl rfl,rfl,.inl rfl,rfl,.inl rfl,rfl,.inl rfl,rfl,.inl rfl,rfl,trivial⟩,rfl,rfl⟩ ?_
    intro j hj
    ((first|refine rG Γ hm ?_|refine rD Γ hm z_ ?_);(conv=>whnf);repeat((first|refine aF ?_|refine aT ?_);(first|refine rG Γ hm ?_|refine rD Γ hm z_ ?_);conv=>whnf))
    refine⟨fun h=>?_,fun h=>?_⟩
    ·have hlt:j<n.vrfs.length:=by simpa using h
     obtain ⟨p,hp⟩:∃ p,n.vrfs[(j:Int).toNat]'q_=p:=⟨_,rfl⟩
     have hne:n.vrfs≠[]:=fun e=>by rw[e]at hlt;cases hlt
     have hset:n.vrfs.set (j:Int).toNat p=n.vrfs:=by rw[← hp];exact List.set_getElem_self _
     have hpl:=h2.2.2.2 p (by rw[← hp];exact List.getElem_mem _)
     ((first|refine rG Γ hm ?_|refine rD Γ hm z_ ?_);(conv=>whnf);repeat((first|refine aF ?_|refine aT ?_);(first|refine rG Γ hm ?_|refine rD Γ hm z_ ?_);conv=>whnf))
     have hne2:n.vrfs.set (j:Int).toNat p≠[]:=by rw[hset];exact hne
     have hp2:(n.vrfs.set (j:Int).toNat p)[(j:Int).toNat]'(by rw[hset];omega)=p:=by simp
     have hset2:(n.vrfs.set (j:Int).toNat p).set (j:Int).toNat p=n.vrfs:=by rw[hset,hset]
     refine⟨by omega,by show _<n.vrfs.length;omega,?_⟩
     ((conv=>whnf);repeat((first|refine aF ?_|refine aT ?_);(first|refine rG Γ hm ?_|refine rD Γ hm z_ ?_);conv=>whnf))
     refine H8 (Ct E (.inr (.inr (.inr ⟨29,5,_,0,E,fun κ w h=>Km hne h,E⟩)))) z_ E ?_
     ((first|refine rG Γ hm ?_|refine rD Γ hm z_ ?_);(conv=>whnf);repeat((first|refine aF ?_|refine aT ?_);(first|refine rG Γ hm ?_|refine rD Γ hm z_ ?_);conv=>whnf))
     refine⟨hne,?_⟩
     ((conv=>whnf);repeat((first|refine aF ?_|refine aT ?_);(first|refine rG Γ hm ?_|refine rD Γ hm z_ ?_);conv=>whnf))
     refine⟨E,by omega,?_⟩
     rw[hp]
     ((conv=>whnf);repeat((first|refine aF ?_|refine aT ?_);(first|refine rG Γ hm ?_|refine rD Γ hm z_ ?_);conv=>whnf))
     refine cD (Ez p.imports hpl.1) F159 ?_
     ((first|refine rG Γ hm ?_|refine rD Γ hm z_ ?_);(conv=>whnf);repeat((first|refine aF ?_|refine aT ?_);(first|refine rG Γ hm ?_|refine rD Γ hm z_ ?_);conv=>whnf))
     refine H8 (Ct E (.inr (.inr (.inr ⟨29,5,_,0,E,fun κ w h=>Km hne h,E⟩)))) z_ E ?_
     ((first|refine rG Γ hm ?_|refine rD Γ hm z_ ?_);(conv=>whnf);repeat((first|refine aF ?_|refine aT ?_);(first|refine rG Γ hm ?_|refine rD Γ hm z_ ?_);conv=>whnf))
     refine⟨hne,?_⟩
     ((conv=>whnf);repeat((first|refine aF ?_|refine aT ?_);(first|refine rG Γ hm ?_|refine rD Γ hm z_ ?_);conv=>whnf))
     refine⟨E,by omega,?_⟩
     rw[hp]
     ((conv=>whnf);repeat((first|refine aF ?_|refine aT ?_);(first|refine rG Γ hm ?_|refine rD Γ hm z_ ?_);conv=>whnf))
     refine cD (Ez p.exports hpl.2) F159 ?_
     ((first|refine rG Γ hm ?_|refine rD Γ hm z_ ?_);(conv=>whnf);repeat((first|refine aF ?_|refine aT ?_);(first|refine rG Γ hm ?_|refine rD Γ hm z_ ?_);conv=>whnf))
     refine H8 (Ct E (.inr (.inr (.inr ⟨29,5,_,0,E,fun κ w h=>Km hne h,E⟩)))) z_ E ?_
     ((first|refine rG Γ hm ?_|refine rD Γ hm z_ ?_);(conv=>whnf);repeat((first|refine aF ?_|refine aT ?_);(first|refine rG Γ hm ?_|refine rD Γ hm z_ ?_);conv=>whnf))
     refine⟨hne,?_⟩
     ((conv=>whnf);repeat((first|refine aF ?_|refine aT ?_);(first|refine rG Γ hm ?_|refine rD Γ hm z_ ?_);conv=>whnf))
     refine⟨E,by omega,p,(by rw[hp];rfl),(by rw[hp];rfl),?_⟩
     ((conv=>whnf);repeat((first|refine aF ?_|refine aT ?_);(first|refine rG Γ hm ?_|refine rD Γ hm z_ ?_);conv=>whnf))
     refine H8 (Ct E (.inr (.inr (.inr ⟨29,5,_,0,E,fun κ w h=>Km hne2 h,E⟩)))) z_ E ?_
     ((first|refine rG Γ hm ?_|refine rD Γ hm z_ ?_);(conv=>whnf);repeat((first|refine aF ?_|refine aT ?_);(first|refine rG Γ hm ?_|refine rD Γ hm z_ ?_);conv=>whnf))
     refine⟨hne2,?_⟩
     ((conv=>whnf);repeat((first|refine aF ?_|refine aT ?_);(first|refine rG Γ hm ?_|refine rD Γ hm z_ ?_);conv=>whnf))
     refine⟨E,by rw[hset];omega,p,(by rw[hp2];rfl),(by rw[hp2];rfl),?_⟩
     ((conv=>whnf);repeat((first|refine aF ?_|refine aT ?_);(first|refine rG Γ hm ?_|refine rD Γ hm z_ ?_);conv=>whnf))
     refine⟨z_,?_⟩
     ((conv=>whnf);repeat((first|refine aF ?_|refine aT ?_);(first|refine rG Γ hm ?_|refine rD Γ hm z_ ?_);conv=>whnf))
     refine iL ?_
     ((conv=>whnf);repeat((first|refine aF ?_|refine aT ?_);(first|refine rG Γ hm ?_|refine rD Γ hm z_ ?_);conv=>whnf))
     exact H4 [] hlt ⟨⟨E,E,E,E,E,E,E,E,Y⟩,⟨.inl E,E,.inl E,E,.inl E,E,.inl E,E,.inl E,E,.inl E,E,.inl E,E,.inl E,E,.inl (congrArg (Ob.row 5 Bn) hset2.symm),E,.inl E,E,Y⟩,E,E⟩
    ·((first|refine rG Γ hm ?_|refine rD Γ hm z_ ?_);(conv=>whnf);repeat((first|refine aF ?_|refine aT ?_);(first|refine rG Γ hm ?_|refine rD Γ hm z_ ?_);conv=>whnf))
     exact done E (.cons (.cell E E E E) .nil) [(0,11),(1,14),(2,17),(3,20),(4,23),(5,26),(6,29),(7,32)] [(0,.row 5 At n.devices),(1,.row 7 Ay n.ports),(2,.row 3 Bs n.links),(3,.row 6 Ad n.domains),(4,.row 4 A0 n.statics),(5,.row 4 Aw n.floods),(6,.row 5 Bn n.vrfs),(7,.row 5 Bw n.irbs)] (fun _ h=>h) E E ⟨Y,⟨.inl E,E,.inl E,E,.inl E,E,.inl E,E,.inl E,E,.inl E,E,.inl E,E,.inl E,E,Y⟩,E,E⟩
end Go.Sy.YtjenpnjajjplkaaGreatDoor
namespace Go.Sy.YtjenpnjajjplkaaGreatDoor
open Go.Proofs
attribute [local irreducible] Go.Sy.G Go.Sy.DR
set_option maxRecDepth 20000
set_option maxHeartbeats 4000000
theorem Em (l:List Device) (p:Device→Bool) (f:FuncId) (first cap:List SV) (hc:(SV.clo (.func f) first cap).inn []=true) (hf:∀ x∈l,Et Tryz.prog f (first++[At x]++cap) (Ab (p x))) (hl:Ar l) :
  Sy.Spec Tryz.prog 165 [.sl 5 At l,.clo (.func f) first cap] [] (Aa (Bv p l)) []:=cT F165 Tryz.ntmps165 fun F hF=>by
 unfold Ar at hl
 have hin:∀ x:Device,Bz [] (first++[At x]++cap)=true:=fun x=>C5 hc rfl
 ((conv=>whnf);repeat((first|refine aF ?_|refine aT ?_);(first|refine rG Γ hm ?_|refine rD Γ hm z_ ?_);conv=>whnf))
 refine A9 l.length (fun j=>Ev (fun _ x=>!(p x)) l j) (fun j=>[(0,.sl 5 At l),(1,.clo (.func f) first cap),(7,Aa l.length),(8,Aa j)]) (fun _=>[]) [] (Bf _ _) ⟨⟨E,E,Bh _,hc,E,E,E,E,Y⟩,Y,E,E⟩ ?_
 intro j hj hI
 ((first|refine rG Γ hm ?_|refine rD Γ hm z_ ?_);(conv=>whnf);repeat((first|refine aF ?_|refine aT ?_);(first|refine rG Γ hm ?_|refine rD Γ hm z_ ?_);conv=>whnf))
 refine⟨fun h=>?_,fun h=>?_⟩
 ·have h:=of_decide_eq_true h
  have hj2:j<l.length:=by omega
  ((first|refine rG Γ hm ?_|refine rD Γ hm z_ ?_);(conv=>whnf);repeat((first|refine aF ?_|refine aT ?_);(first|refine rG Γ hm ?_|refine rD Γ hm z_ ?_);conv=>whnf))
  refine⟨E,by omega,by omega,?_⟩
  ((conv=>whnf);repeat((first|refine aF ?_|refine aT ?_);(first|refine rG Γ hm ?_|refine rD Γ hm z_ ?_);conv=>whnf))
  refine D5 (hf l[j] (List.getElem_mem hj2)) E E E (by simp only[hin];rfl) E E ?_
  ((first|refine rG Γ hm ?_|refine rD Γ hm z_ ?_);(conv=>whnf);repeat((first|refine aF ?_|refine aT ?_);(first|refine rG Γ hm ?_|refine rD Γ hm z_ ?_);conv=>whnf))
  refine⟨fun h2=>?_,fun h2=>?_⟩
  ·((first|refine rG Γ hm ?_|refine rD Γ hm z_ ?_);(conv=>whnf);repeat((first|refine aF ?_|refine aT ?_);(first|refine rG Γ hm ?_|refine rD Γ hm z_ ?_);conv=>whnf))
   refine Au E (.cons .tmp .nil) (congrArg Aa ?_) E
   exact Cs hj2 (fun i hi hij=>by simpa using hI i hi hij) h2
  ·((first|refine rG Γ hm ?_|refine rD Γ hm z_ ?_);(conv=>whnf);repeat((first|refine aF ?_|refine aT ?_);(first|refine rG Γ hm ?_|refine rD Γ hm z_ ?_);conv=>whnf))
   refine iL ?_
   ((conv=>whnf);repeat((first|refine aF ?_|refine aT ?_);(first|refine rG Γ hm ?_|refine rD Γ hm z_ ?_);conv=>whnf))
   exact Be [] hI hj2 (Bb hI hj2 (by simp[h2])) ⟨⟨E,E,Bh _,hc,E,E,E,E,Y⟩,Y,E,E⟩
 ·have h:=of_decide_eq_false h
  ((first|refine rG Γ hm ?_|refine rD Γ hm z_ ?_);(conv=>whnf);repeat((first|refine aF ?_|refine aT ?_);(first|refine rG Γ hm ?_|refine rD Γ hm z_ ?_);conv=>whnf))
  refine Au E (.cons .tmp .nil) (congrArg Aa ?_) E
  exact Ds (fun i hi=>by simpa using hI i hi q_)
theorem M5 (l:List Flood) (p:Flood→Bool) (f:FuncId) (first cap:List SV) (hc:(SV.clo (.func f) first cap).inn []=true) (hf:∀ x∈l,Et Tryz.prog f (first++[Aw x]++cap) (Ab (p x))) (hl:Ar l) :
  Sy.Spec Tryz.prog 161 [.sl 4 Aw l,.clo (.func f) first cap] [] (Aa (Bv p l)) []:=cT F161 Tryz.ntmps161 fun F hF=>by
 unfold Ar at hl
 have hin:∀ x:Flood,Bz [] (first++[Aw x]++cap)=true:=fun x=>C5 hc rfl
 ((conv=>whnf);repeat((first|refine aF ?_|refine aT ?_);(first|refine rG Γ hm ?_|refine rD Γ hm z_ ?_);conv=>whnf))
 refine A9 l.length (fun j=>Ev (fun _ x=>!(p x)) l j) (fun j=>[(0,.sl 4 Aw l),(1,.clo (.func f) first cap),(7,Aa l.length),(8,Aa j)]) (fun _=>[]) [] (Bf _ _) ⟨⟨E,E,Bh _,hc,E,E,E,E,Y⟩,Y,E,E⟩ ?_
 intro j hj hI
 ((first|refine rG Γ hm ?_|refine rD Γ hm z_ ?_);(conv=>whnf);repeat((first|refine aF ?_|refine aT ?_);(first|refine rG Γ hm ?_|refine rD Γ hm z_ ?_);conv=>whnf))
 refine⟨fun h=>?_,fun h=>?_⟩
 ·have h:=of_decide_eq_true h
  have hj2:j<l.length:=by omega
  ((first|refine rG Γ hm ?_|refine rD Γ hm z_ ?_);(conv=>whnf);repeat((first|refine aF ?_|refine aT ?_);(first|refine rG Γ hm ?_|refine rD Γ hm z_ ?_);conv=>whnf))
  refine⟨E,by omega,by omega,?_⟩
  ((conv=>whnf);repeat((first|refine aF ?_|refine aT ?_);(first|refine rG Γ hm ?_|refine rD Γ hm z_ ?_);conv=>whnf))
  refine D5 (hf l[j] (List.getElem_mem hj2)) E E E (by simp only[hin];rfl) E E ?_
  ((first|refine rG Γ hm ?_|refine rD Γ hm z_ ?_);(conv=>whnf);repeat((first|refine aF ?_|refine aT ?_);(first|refine rG Γ hm ?_|refine rD Γ hm z_ ?_);conv=>whnf))
  refine⟨fun h2=>?_,fun h2=>?_⟩
  ·((first|refine rG Γ hm ?_|refine rD Γ hm z_ ?_);(conv=>whnf);repeat((first|refine aF ?_|refine aT ?_);(first|refine rG Γ hm ?_|refine rD Γ hm z_ ?_);conv=>whnf))
   refine Au E (.cons .tmp .nil) (congrArg Aa ?_) E
   exact Cs hj2 (fun i hi hij=>by simpa using hI i hi hij) h2
  ·((first|refine rG Γ hm ?_|refine rD Γ hm z_ ?_);(conv=>whnf);repeat((first|refine aF ?_|refine aT ?_);(first|refine rG Γ hm ?_|refine rD Γ hm z_ ?_);conv=>whnf))
   refine iL ?_
   ((conv=>whnf);repeat((first|refine aF ?_|refine aT ?_);(first|refine rG Γ hm ?_|refine rD Γ hm z_ ?_);conv=>whnf))
   exact Be [] hI hj2 (Bb hI hj2 (by simp[h2])) ⟨⟨E,E,Bh _,hc,E,E,E,E,Y⟩,Y,E,E⟩
 ·have h:=of_decide_eq_false h
  ((first|refine rG Γ hm ?_|refine rD Γ hm z_ ?_);(conv=>whnf);repeat((first|refine aF ?_|refine aT ?_);(first|refine rG Γ hm ?_|refine rD Γ hm z_ ?_);conv=>whnf))
  refine Au E (.cons .tmp .nil) (congrArg Aa ?_) E
  exact Ds (fun i hi=>by simpa using hI i hi q_)
theorem Sl (l:List Vrf) (p:Vrf→Bool) (f:FuncId) (first cap:List SV) (hc:(SV.clo (.func f) first cap).inn []=true) (hf:∀ x∈l,Et Tryz.prog f (first++[Bn x]++cap) (Ab (p x))) (hl:Ar l) :
  Sy.Spec Tryz.prog 442 [.sl 5 Bn l,.clo (.func f) first cap] [] (Aa (Bv p l)) []:=cT F442 Tryz.ntmps442 fun F hF=>by
 unfold Ar at hl
 have hin:∀ x:Vrf,Bz [] (first++[Bn x]++cap)=true:=fun x=>C5 hc rfl
 ((conv=>whnf);repeat((first|refine aF ?_|refine aT ?_);(first|refine rG Γ hm ?_|refine rD Γ hm z_ ?_);conv=>whnf))
 refine A9 l.length (fun j=>Ev (fun _ x=>!(p x)) l j) (fun j=>[(0,.sl 5 Bn l),(1,.clo (.func f) first cap),(7,Aa l.length),(8,Aa j)]) (fun _=>[]) [] (Bf _ _) ⟨⟨E,E,Bh _,hc,E,E,E,E,Y⟩,Y,E,E⟩ ?_
 intro j hj hI
 ((first|refine rG Γ hm ?_|refine rD Γ hm z_ ?_);(conv=>whnf);repeat((first|refine aF ?_|refine aT ?_);(first|refine rG Γ hm ?_|refine rD Γ hm z_ ?_);conv=>whnf))
 refine⟨fun h=>?_,fun h=>?_⟩
 ·have h:=of_decide_eq_true h
  have hj2:j<l.length:=by omega
  ((first|refine rG Γ hm ?_|refine rD Γ hm z_ ?_);(conv=>whnf);repeat((first|refine aF ?_|refine aT ?_);(first|refine rG Γ hm ?_|refine rD Γ hm z_ ?_);conv=>whnf))
  refine⟨E,by omega,by omega,?_⟩
  ((conv=>whnf);repeat((first|refine aF ?_|refine aT ?_);(first|refine rG Γ hm ?_|refine rD Γ hm z_ ?_);conv=>whnf))
  refine D5 (hf l[j] (List.getElem_mem hj2)) E E E (by simp only[hin];rfl) E E ?_
  ((first|refine rG Γ hm ?_|refine rD Γ hm z_ ?_);(conv=>whnf);repeat((first|refine aF ?_|refine aT ?_);(first|refine rG Γ hm ?_|refine rD Γ hm z_ ?_);conv=>whnf))
  refine⟨fun h2=>?_,fun h2=>?_⟩
  ·((first|refine rG Γ hm ?_|refine rD Γ hm z_ ?_);(conv=>whnf);repeat((first|refine aF ?_|refine aT ?_);(first|refine rG Γ hm ?_|refine rD Γ hm z_ ?_);conv=>whnf))
   refine Au E (.cons .tmp .nil) (congrArg Aa ?_) E
   exact Cs hj2 (fun i hi hij=>by simpa using hI i hi hij) h2
  ·((first|refine rG Γ hm ?_|refine rD Γ hm z_ ?_);(conv=>whnf);repeat((first|refine aF ?_|refine aT ?_);(first|refine rG Γ hm ?_|refine rD Γ hm z_ ?_);conv=>whnf))
   refine iL ?_
   ((conv=>whnf);repeat((first|refine aF ?_|refine aT ?_);(first|refine rG Γ hm ?_|refine rD Γ hm z_ ?_);conv=>whnf))
   exact Be [] hI hj2 (Bb hI hj2 (by simp[h2])) ⟨⟨E,E,Bh _,hc,E,E,E,E,Y⟩,Y,E,E⟩
 ·have h:=of_decide_eq_false h
  ((first|refine rG Γ hm ?_|refine rD Γ hm z_ ?_);(conv=>whnf);repeat((first|refine aF ?_|refine aT ?_);(first|refine rG Γ hm ?_|refine rD Γ hm z_ ?_);conv=>whnf))
  refine Au E (.cons .tmp .nil) (congrArg Aa ?_) E
  exact Ds (fun i hi=>by simpa using hI i hi q_)
theorem Kh (l:List Device) (p:Device→Bool) (f:FuncId) (first cap:List SV) (hc:(SV.clo (.func f) first cap).inn []=true) (hf:∀ x∈l,Et Tryz.prog f (first++[At x]++cap) (Ab (p x))) (hl:Ar l) :
  Sy.Spec Tryz.prog 338 [.sl 5 At l,.clo (.func f) first cap] [] (Ab (decide (0≤Bv p l))) []:=cT F338 Tryz.ntmps338 fun F hF=>by
 have h0:Bz [] [.sl 5 At l,.clo (.func f) first cap]=true:=by simp only[Bz,hc];rfl
 ((conv=>whnf);repeat((first|refine aF ?_|refine aT ?_);(first|refine rG Γ hm ?_|refine rD Γ hm z_ ?_);conv=>whnf))
 refine Jo (Em l p f first cap hc hf hl) F165 E E (by simp only[h0];rfl) E E ?_
 ((first|refine rG Γ hm ?_|refine rD Γ hm z_ ?_);(conv=>whnf);repeat((first|refine aF ?_|refine aT ?_);(first|refine rG Γ hm ?_|refine rD Γ hm z_ ?_);conv=>whnf))
 exact dN
theorem Hc (l:List Domain) (p:Domain→Bool) (f:FuncId) (first cap:List SV) (hc:(SV.clo (.func f) first cap).inn []=true) (hf:∀ x∈l,Et Tryz.prog f (first++[Ad x]++cap) (Ab (p x))) (hl:Ar l) :
  Sy.Spec Tryz.prog 408 [.sl 6 Ad l,.clo (.func f) first cap] [] (Ab (decide (0≤Bv p l))) []:=cT F408 Tryz.ntmps408 fun F hF=>by
 have h0:Bz [] [.sl 6 Ad l,.clo (.func f) first cap]=true:=by simp only[Bz,hc];rfl
 ((conv=>whnf);repeat((first|refine aF ?_|refine aT ?_);(first|refine rG Γ hm ?_|refine rD Γ hm z_ ?_);conv=>whnf))
 refine Jo (Di l p f first cap hc hf hl) F163 E E (by simp only[h0];rfl) E E ?_
 ((first|refine rG Γ hm ?_|refine rD Γ hm z_ ?_);(conv=>whnf);repeat((first|refine aF ?_|refine aT ?_);(first|refine rG Γ hm ?_|refine rD Γ hm z_ ?_);conv=>whnf))
 exact dN
theorem Vv (n:Net) (hn:n.Fin) (l:List Device) (p:Device→Bool) (f:FuncId) (first cap:List SV) (hc:(SV.clo (.func f) first cap).inn []=true) (hf:∀ x∈l,Et Tryz.prog f (first++[At x]++cap) (Ab (p x))) (hl:Ar l) :
  Sy.Spec Tryz.prog 404 [Ap n,.sl 5 At l,.clo (.func f) first cap] [] (Aa (if Ae n=true then Bv p l else -1)) []:=cT F404 Tryz.ntmps404 fun F hF=>by
 have hr:=Bl n hn
 have q:=Em l p f first cap hc hf hl
 ((conv=>whnf);repeat((first|refine aF ?_|refine aT ?_);(first|refine rG Γ hm ?_|refine rD Γ hm z_ ?_);conv=>whnf))
 refine c0 hr F25 ?_
 cases hb:Ae n
 ·rw[if_neg y_]
  ((first|refine rG Γ hm ?_|refine rD Γ hm z_ ?_);(conv=>whnf);repeat((first|refine aF ?_|refine aT ?_);(first|refine rG Γ hm ?_|refine rD Γ hm z_ ?_);conv=>whnf))
  exact dN
 rw[if_pos rfl]
 ((first|refine rG Γ hm ?_|refine rD Γ hm z_ ?_);(conv=>whnf);repeat((first|refine aF ?_|refine aT ?_);(first|refine rG Γ hm ?_|refine rD Γ hm z_ ?_);conv=>whnf))
 refine Jo q F165 E E (by simp only[Bz,hc,Bool.and_true];rfl) E E ?_
 ((first|refine rG Γ hm ?_|refine rD Γ hm z_ ?_);(conv=>whnf);repeat((first|refine aF ?_|refine aT ?_);(first|refine rG Γ hm ?_|refine rD Γ hm z_ ?_);conv=>whnf))
 exact dN
theorem Zu (n:Net) (hn:n.Fin) (l:List Port) (p:Port→Bool) (f:FuncId) (first cap:List SV) (hc:(SV.clo (.func f) first cap).inn []=true) (hf:∀ x∈l,Et Tryz.prog f (first++[Ay x]++cap) (Ab (p x))) (hl:Ar l) :
  Sy.Spec Tryz.prog 406 [Ap n,.sl 7 Ay l,.clo (.func f) first cap] [] (Aa (if Ae n=true then Bv p l else -1)) []:=cT F406 Tryz.ntmps406 fun F hF=>by
 have hr:=Bl n hn
 have q:=Qe l p f first cap hc hf hl
 ((conv=>whnf);repeat((first|refine aF ?_|refine aT ?_);(first|refine rG Γ hm ?_|refine rD Γ hm z_ ?_);conv=>whnf))
 refine c0 hr F25 ?_
 cases hb:Ae n
 ·rw[if_neg y_]
  ((first|refine rG Γ hm ?_|refine rD Γ hm z_ ?_);(conv=>whnf);repeat((first|refine aF ?_|refine aT ?_);(first|refine rG Γ hm ?_|refine rD Γ hm z_ ?_);conv=>whnf))
  exact dN
 rw[if_pos rfl]
 ((first|refine rG Γ hm ?_|refine rD Γ hm z_ ?_);(conv=>whnf);repeat((first|refine aF ?_|refine aT ?_);(first|refine rG Γ hm ?_|refine rD Γ hm z_ ?_);conv=>whnf))
 refine Jo q F121 E E (by simp only[Bz,hc,Bool.and_true];rfl) E E ?_
 ((first|refine rG Γ hm ?_|refine rD Γ hm z_ ?_);(conv=>whnf);repeat((first|refine aF ?_|refine aT ?_);(first|refine rG Γ hm ?_|refine rD Γ hm z_ ?_);conv=>whnf))
 exact dN
theorem Acd (n:Net) (hn:n.Fin) (l:List Vrf) (p:Vrf→Bool) (f:FuncId) (first cap:List SV) (hc:(SV.clo (.func f) first cap).inn []=true) (hf:∀ x∈l,Et Tryz.prog f (first++[Bn x]++cap) (Ab (p x))) (hl:Ar l) :
  Sy.Spec Tryz.prog 414 [Ap n,.sl 5 Bn l,.clo (.func f) first cap] [] (Aa (if Ae n=true then Bv p l else -1)) []:=cT F414 Tryz.ntmps414 fun F hF=>by
 have hr:=Bl n hn
 have q:=Sl l p f first cap hc hf hl
 ((conv=>whnf);repeat((first|refine aF ?_|refine aT ?_);(first|refine rG Γ hm ?_|refine rD Γ hm z_ ?_);conv=>whnf))
 refine c0 hr F25 ?_
 cases hb:Ae n
 ·rw[if_neg y_]
  ((first|refine rG Γ hm ?_|refine rD Γ hm z_ ?_);(conv=>whnf);repeat((first|refine aF ?_|refine aT ?_);(first|refine rG Γ hm ?_|refine rD Γ hm z_ ?_);conv=>whnf))
  exact dN
 rw[if_pos rfl]
 ((first|refine rG Γ hm ?_|refine rD Γ hm z_ ?_);(conv=>whnf);repeat((first|refine aF ?_|refine aT ?_);(first|refine rG Γ hm ?_|refine rD Γ hm z_ ?_);conv=>whnf))
 refine Jo q F442 E E (by simp only[Bz,hc,Bool.and_true];rfl) E E ?_
 ((first|refine rG Γ hm ?_|refine rD Γ hm z_ ?_);(conv=>whnf);repeat((first|refine aF ?_|refine aT ?_);(first|refine rG Γ hm ?_|refine rD Γ hm z_ ?_);conv=>whnf))
 exact dN
theorem Vg (s:ByteArray) (d:Device):Sy.Spec Tryz.prog 405 [At d,.ref 1 (Ai s) 0] [] (Ab (d.name == s)) []:=cT F405 Tryz.ntmps405 fun F hF=>by
 refine T ?_
 exact D
theorem Zd (dev:Int) (s:ByteArray) (p:Port):Sy.Spec Tryz.prog 407 [Ay p,.ref 1 (Aa dev) 0,.ref 1 (Ai s) 0] [] (Ab (p.dev == dev && p.name == s)) []:=cT F407 Tryz.ntmps407 fun F hF=>by
 cases h:(p.dev == dev)
 ·refine T ?_
  exact D
 ·refine T ?_
  exact D
theorem Abs (dev:Int) (s:ByteArray) (p:Vrf):Sy.Spec Tryz.prog 415 [Bn p,.ref 1 (Aa dev) 0,.ref 1 (Ai s) 0] [] (Ab (p.dev == dev && p.name == s)) []:=cT F415 Tryz.ntmps415 fun F hF=>by
 cases h:(p.dev == dev)
 ·refine T ?_
  exact D
 ·refine T ?_
  exact D
theorem Ej (n:Net) (hn:n.Fin) (hr:Ae n=true) (s:ByteArray):Sy.Spec Tryz.prog 340 [Ap n,Ai s] [] (Aa (Bm n s)) []:=cT F340 Tryz.ntmps340 fun F hF=>by
 have q:=Vv n hn n.devices (fun d=>d.name == s) 405 [] [.ref 1 (Ai s) 0] rfl (fun d _=>⟨⟨_,_,F405⟩,Vg s d⟩) hn.devices
 rw[if_pos hr]at q
 ((conv=>whnf);repeat((first|refine aF ?_|refine aT ?_);(first|refine rG Γ hm ?_|refine rD Γ hm z_ ?_);conv=>whnf))
 refine Bk 3 1 (Ai s) E E E ?_
 refine c0 q F404 ?_
 ((first|refine rG Γ hm ?_|refine rD Γ hm z_ ?_);(conv=>whnf);repeat((first|refine aF ?_|refine aT ?_);(first|refine rG Γ hm ?_|refine rD Γ hm z_ ?_);conv=>whnf))
 exact dN
theorem Lk (n:Net) (hn:n.Fin) (hr:Ae n=true) (dev:Int) (s:ByteArray):Sy.Spec Tryz.prog 341 [Ap n,Aa dev,Ai s] [] (Aa (Lj n dev s)) []:=cT F341 Tryz.ntmps341 fun F hF=>by
 have q:=Zu n hn n.ports (fun p=>p.dev == dev && p.name == s) 407 [] [.ref 1 (Aa dev) 0,.ref 1 (Ai s) 0] rfl (fun d _=>⟨⟨_,_,F407⟩,Zd dev s d⟩) hn.ports
 rw[if_pos hr]at q
 ((conv=>whnf);repeat((first|refine aF ?_|refine aT ?_);(first|refine rG Γ hm ?_|refine rD Γ hm z_ ?_);conv=>whnf))
 refine Bk 4 1 (Aa dev) E E E ?_
 refine Bk 5 1 (Ai s) E E E ?_
 refine c0 q F406 ?_
 ((first|refine rG Γ hm ?_|refine rD Γ hm z_ ?_);(conv=>whnf);repeat((first|refine aF ?_|refine aT ?_);(first|refine rG Γ hm ?_|refine rD Γ hm z_ ?_);conv=>whnf))
 exact dN
theorem Uf (n:Net) (hn:n.Fin) (hr:Ae n=true) (dev:Int) (s:ByteArray):Sy.Spec Tryz.prog 348 [Ap n,Aa dev,Ai s] [] (Aa (U1 n dev s)) []:=cT F348 Tryz.ntmps348 fun F hF=>by
 have q:=Acd n hn n.vrfs (fun p=>p.dev == dev && p.name == s) 415 [] [.ref 1 (Aa dev) 0,.ref 1 (Ai s) 0] rfl (fun d _=>⟨⟨_,_,F415⟩,Abs dev s d⟩) hn.vrfs
 rw[if_pos hr]at q
 ((conv=>whnf);repeat((first|refine aF ?_|refine aT ?_);(first|refine rG Γ hm ?_|refine rD Γ hm z_ ?_);conv=>whnf))
 refine Bk 4 1 (Aa dev) E E E ?_
 refine Bk 5 1 (Ai s) E E E ?_
 refine c0 q F414 ?_
 ((first|refine rG Γ hm ?_|refine rD Γ hm z_ ?_);(conv=>whnf);repeat((first|refine aF ?_|refine aT ?_);(first|refine rG Γ hm ?_|refine rD Γ hm z_ ?_);conv=>whnf))
 exact dN
theorem E1 (n:Net) (hn:n.Fin) (hr:Ae n=true) (dev vlan:Int):Sy.Spec Tryz.prog 168 [Ap n,Aa dev,Aa vlan] [] (Aa (Ca n dev vlan)) []:=by
 have q:=L5 n hn dev vlan
 rwa [Qo,if_pos hr]at q
end Go.Sy.YtjenpnjajjplkaaGreatDoor
namespace Go.Sy.YtjenpnjajjplkaaGreatDoor
open Go.Proofs
attribute [local irreducible] Go.Sy.G Go.Sy.DR
set_option maxRecDepth 100000
set_option maxHeartbeats 4000000
theorem Ey {α:Type} {p:α→Bool} {l:List α} (h:¬ Bv p l<0):∃ i:Nat,Bv p l=i∧i<l.length:=by
 have:=Vn p l
 exact⟨(Bv p l).toNat,by omega,by omega⟩
theorem Ij (n:Net) (hn:n.Fin) (l:LineM) (hl:LineW l) (k:Int):Sy.Spec Tryz.prog 346 [Ap n,Aj l,Aa k] [] (.tup [Aa (begT n l k).1,Aa (begT n l k).2]) []:=cT F346 Tryz.ntmps346 fun F hF=>by
 have q1:=Ew l hl
 have q2:=Bl n hn
 have hres:=begT.eq_1 n l k
 have hf:=fitsB.eq_1 n l k
 generalize begT n l k=res at *
 generalize fitsB n l k=f at *
 cases h1:(l.kind == k) with
 | false =>
  have g1:(l.kind != k)=true:=by rw[bne,h1];rfl
  rw[h1,Bool.false_and]at hf
  rw[hf,if_pos rfl]at hres
  subst hres
  refine T ?_
  exact D
 | true =>
  have g1:(l.kind != k)=false:=by rw[bne,h1];rfl
  rw[h1,Bool.true_and]at hf
  cases h2:Bp l with
  | false =>
   rw[h2]at q1 hf
   rw[hf,Bool.false_and,if_pos rfl]at hres
   subst hres
   refine T ?_
   refine C q1 F343 ?_
   exact D
  | true =>
   rw[h2]at q1 hf
   cases h3:Ae n with
   | false =>
    rw[h3]at q2 hf
    rw[hf,Bool.and_false,if_pos rfl]at hres
    subst hres
    refine T ?_
    refine C q1 F343 ?_
    refine C q2 F25 ?_
    exact D
   | true =>
    have q3:=Ej n hn h3 l.dev
    rw[h3]at q2 hf
    rw[hf,if_neg y_]at hres
    generalize Bm n l.dev=d at *
    by_cases h4:d<0
    ·have g4:decide (d<0)=true:=decide_eq_true h4
     rw[if_pos h4]at hres
     subst hres
     refine T ?_
     refine C q1 F343 ?_
     refine C q2 F25 ?_
     refine C q3 F340 ?_
     exact D
    ·have g4:decide (d<0)=false:=decide_eq_false h4
     rw[if_neg h4]at hres
     subst hres
     refine T ?_
     refine C q1 F343 ?_
     refine C q2 F25 ?_
     refine C q3 F340 ?_
     exact D
theorem Qt (n:Net) (hn:n.Fin) (l:LineM) (hl:LineW l) (k:Int):Sy.Spec Tryz.prog 347 [Ap n,Aj l,Aa k] [] (.tup [Aa (begT n l k).1,Aa (begT n l k).2]) []:=cT F347 Tryz.ntmps347 fun F hF=>by
 have q1:=Ew l hl
 have q2:=Bl n hn
 have hres:=begT.eq_1 n l k
 have hf:=fitsB.eq_1 n l k
 generalize begT n l k=res at *
 generalize fitsB n l k=f at *
 cases h1:(l.kind == k) with
 | false =>
  have g1:(l.kind != k)=true:=by rw[bne,h1];rfl
  rw[h1,Bool.false_and]at hf
  rw[hf,if_pos rfl]at hres
  subst hres
  refine T ?_
  exact D
 | true =>
  have g1:(l.kind != k)=false:=by rw[bne,h1];rfl
  rw[h1,Bool.true_and]at hf
  cases h2:Bp l with
  | false =>
   rw[h2]at q1 hf
   rw[hf,Bool.false_and,if_pos rfl]at hres
   subst hres
   refine T ?_
   refine C q1 F343 ?_
   exact D
  | true =>
   rw[h2]at q1 hf
   cases h3:Ae n with
   | false =>
    rw[h3]at q2 hf
    rw[hf,Bool.and_false,if_pos rfl]at hres
    subst hres
    refine T ?_
    refine C q1 F343 ?_
    refine C q2 F25 ?_
    exact D
   | true =>
    have q3:=Ej n hn h3 l.dev
    rw[h3]at q2 hf
    rw[hf,if_neg y_]at hres
    generalize Bm n l.dev=d at *
    by_cases h4:d<0
    ·have g4:decide (d<0)=true:=decide_eq_true h4
     rw[if_pos h4]at hres
     subst hres
     refine T ?_
     refine C q1 F343 ?_
     refine C q2 F25 ?_
     refine C q3 F340 ?_
     exact D
    ·have g4:decide (d<0)=false:=decide_eq_false h4
     rw[if_neg h4]at hres
     subst hres
     refine T ?_
     refine C q1 F343 ?_
     refine C q2 F25 ?_
     refine C q3 F340 ?_
     exact D
theorem beg_ok {n:Net} {l:LineM} {k:Int} (h:(begT n l k).2=0):fitsB n l k=true∧Ae n=true∧∃ i:Nat,(begT n l k).1=i∧i<n.devices.length:=by
 unfold begT at h ⊢
 cases hf:fitsB n l k with
 | false=>rw[hf,if_pos rfl]at h;exact absurd h j_
 | true =>
  rw[hf,if_neg y_]at h
  rw[if_neg y_]
  by_cases hd:Bm n l.dev<0
  ·rw[if_pos hd]at h;exact absurd h j_
  ·rw[if_neg hd]
   refine⟨E,?_,Ey hd⟩
   unfold fitsB at hf
   simp only[Bool.and_eq_true]at hf
   exact hf.2.2
theorem ownerC (a:Int) (d:Device):Sy.Spec Tryz.prog 166 [At d,.ref 1 (A6 a) 0] [] (Ab (d.vtep == a)) []:=cT F166 Tryz.ntmps166 fun F hF=>by
 refine T ?_
 exact D
theorem Zb (n:Net) (hn:n.Fin) (a:Int):Sy.Spec Tryz.prog 64 [Ap n,A6 a] [] (Aa (Cq n a)) []:=cT F64 Tryz.ntmps64 fun F hF=>by
 have q:=Em n.devices (fun d=>d.vtep == a) 166 [] [.ref 1 (A6 a) 0] rfl (fun d _=>⟨⟨_,_,F166⟩,ownerC a d⟩) hn.devices
 ((conv=>whnf);repeat((first|refine aF ?_|refine aT ?_);(first|refine rG Γ hm ?_|refine rD Γ hm z_ ?_);conv=>whnf))
 refine Bk 3 1 (A6 a) E E E ?_
 refine c0 q F165 ?_
 ((first|refine rG Γ hm ?_|refine rD Γ hm z_ ?_);(conv=>whnf);repeat((first|refine aF ?_|refine aT ?_);(first|refine rG Γ hm ?_|refine rD Γ hm z_ ?_);conv=>whnf))
 exact dN
theorem Afh (dev vni:Int) (d:Domain):Sy.Spec Tryz.prog 164 [Ad d,.ref 1 (Aa dev) 0,.ref 1 (Aa vni) 0] [] (Ab (d.dev == dev && (d.vni == vni && vni != 0))) []:=cT F164 Tryz.ntmps164 fun F hF=>by
 cases h:(d.dev == dev)
 ·refine T ?_
  exact D
 ·cases h2:(d.vni == vni)
  ·refine T ?_
   exact D
  ·refine T ?_
   exact D
theorem L3 (n:Net) (hn:n.Fin) (dev vni:Int):Sy.Spec Tryz.prog 63 [Ap n,Aa dev,Aa vni] [] (Aa (Io n dev vni)) []:=cT F63 Tryz.ntmps63 fun F hF=>by
 have q:=Di n.domains (fun d=>d.dev == dev && (d.vni == vni && vni != 0)) 164 [] [.ref 1 (Aa dev) 0,.ref 1 (Aa vni) 0] rfl (fun d _=>⟨⟨_,_,F164⟩,Afh dev vni d⟩) hn.domains
 ((conv=>whnf);repeat((first|refine aF ?_|refine aT ?_);(first|refine rG Γ hm ?_|refine rD Γ hm z_ ?_);conv=>whnf))
 refine Bk 4 1 (Aa dev) E E E ?_
 refine Bk 5 1 (Aa vni) E E E ?_
 refine c0 q F163 ?_
 ((first|refine rG Γ hm ?_|refine rD Γ hm z_ ?_);(conv=>whnf);repeat((first|refine aF ?_|refine aT ?_);(first|refine rG Γ hm ?_|refine rD Γ hm z_ ?_);conv=>whnf))
 exact dN
theorem Afg (dev vni:Int) (f:Flood):Sy.Spec Tryz.prog 162 [Aw f,.ref 1 (Aa dev) 0,.ref 1 (Aa vni) 0] [] (Ab (f.dev == dev && f.vni == vni)) []:=cT F162 Tryz.ntmps162 fun F hF=>by
 cases h:(f.dev == dev)
 ·refine T ?_
  exact D
 ·refine T ?_
  exact D
theorem Va (n:Net) (hn:n.Fin) (dev vni:Int):Sy.Spec Tryz.prog 62 [Ap n,Aa dev,Aa vni] [] (Aa (Dv n dev vni)) []:=cT F62 Tryz.ntmps62 fun F hF=>by
 have q:=M5 n.floods (fun f=>f.dev == dev && f.vni == vni) 162 [] [.ref 1 (Aa dev) 0,.ref 1 (Aa vni) 0] rfl (fun f _=>⟨⟨_,_,F162⟩,Afg dev vni f⟩) hn.floods
 ((conv=>whnf);repeat((first|refine aF ?_|refine aT ?_);(first|refine rG Γ hm ?_|refine rD Γ hm z_ ?_);conv=>whnf))
 refine Bk 4 1 (Aa dev) E E E ?_
 refine Bk 5 1 (Aa vni) E E E ?_
 refine c0 q F161 ?_
 ((first|refine rG Γ hm ?_|refine rD Γ hm z_ ?_);(conv=>whnf);repeat((first|refine aF ?_|refine aT ?_);(first|refine rG Γ hm ?_|refine rD Γ hm z_ ?_);conv=>whnf))
 exact dN
theorem Aff (n:Net) (hn:n.Fin) (l:LineM) (hl:LineW l):Sy.Spec Tryz.prog 284 [Ap n,Aj l] [] (.tup [Ap (putVtep n l).1,Aa (putVtep n l).2]) []:=cT F284 Tryz.ntmps284 fun F hF=>by
 have q1:=Ij n hn l hl 5
 have hok:=@beg_ok n l 5
 have hres:=putVtep.eq_1 n l
 have q2:=Zb n hn l.addr
 have q3:=Jj n hn
 generalize putVtep n l=res at *
 generalize begT n l 5=b at *
 obtain ⟨d,e⟩:=b
 dsimp only at hres hok q1
 by_cases h1:e≠0
 ·have g1:(e != 0)=true:=by rw[bne_iff_ne];exact h1
  rw[if_pos h1]at hres
  subst hres
  refine T ?_
  refine C q1 F346 ?_
  refine Ag 4 (B5 emptyN) E (.cons .nil (.cons .nil (.cons .nil (.cons .nil (.cons .nil (.cons .nil (.cons .nil (.cons .nil .nil)))))))) ?_
  refine T ?_
  exact D
 have g1:(e != 0)=false:=by rw[bne_eq_false_iff_eq];omega
 rw[if_neg h1]at hres
 obtain ⟨_,_,i,hi,hlt⟩:=hok q_
 subst hi
 clear hok
 have hlt0:((i:Nat):Int).toNat<n.devices.length:=hlt
 have hnth:nth n.devices (i:Int)=n.devices[((i:Nat):Int).toNat]'hlt0:=Ba hlt0
 rw[hnth]at hres
 by_cases h2:(n.devices[((i:Nat):Int).toNat]'hlt0).vtep≠0
 ·have g2:((n.devices[((i:Nat):Int).toNat]'hlt0).vtep != 0)=true:=by rw[bne_iff_ne];exact h2
  rw[if_pos (.inl h2)]at hres
  subst hres
  refine T ?_
  refine C q1 F346 ?_
  refine Ag 4 (B5 emptyN) E (.cons .nil (.cons .nil (.cons .nil (.cons .nil (.cons .nil (.cons .nil (.cons .nil (.cons .nil .nil)))))))) ?_
  refine T ?_
  exact D
 have g2:((n.devices[((i:Nat):Int).toNat]'hlt0).vtep != 0)=false:=by rw[bne_eq_false_iff_eq];omega
 by_cases h3:0≤Cq n l.addr
 ·have g3:decide (Cq n l.addr≥0)=true:=decide_eq_true h3
  rw[if_pos (.inr h3)]at hres
  subst hres
  refine T ?_
  refine C q1 F346 ?_
  refine C q2 F64 ?_
  refine Ag 4 (B5 emptyN) E (.cons .nil (.cons .nil (.cons .nil (.cons .nil (.cons .nil (.cons .nil (.cons .nil (.cons .nil .nil)))))))) ?_
  refine T ?_
  exact D
 have g3:decide (Cq n l.addr≥0)=false:=decide_eq_false h3
 rw[if_neg (fun h=>h.elim h2 h3)]at hres
 have hset:Qy n.devices (i:Int) l.addr=n.devices.set ((i:Nat):Int).toNat { (n.devices[((i:Nat):Int).toNat]'hlt0) with vtep:=l.addr }:=by rw[Qy,hnth]
 rw[hset]at hres
 subst hres
 have hne:n.devices≠[]:=fun e=>by rw[e]at hlt;cases hlt
 refine T ?_
 refine C q1 F346 ?_
 refine C q2 F64 ?_
 refine X (Ac [(0,901),(1,902),(2,903),(3,904),(4,905),(5,906),(6,907),(7,908)] E F61 q3 E W E V) ?_
 refine⟨hne,?_⟩
 refine T ?_
 refine⟨{ (n.devices[((i:Nat):Int).toNat]'hlt0) with vtep:=l.addr },rfl,rfl,?_⟩
 refine T ?_
 refine Ah 901 E ?_
 refine Ah 902 E ?_
 refine Ah 903 E ?_
 refine Ah 904 E ?_
 refine Ah 905 E ?_
 refine Ah 906 E ?_
 refine Ah 907 E ?_
 refine Ah 908 E ?_
 exact D
end Go.Sy.YtjenpnjajjplkaaGreatDoor
namespace Go.Sy.YtjenpnjajjplkaaGreatDoor
open Go.Proofs
attribute [local irreducible] Go.Sy.G Go.Sy.DR
set_option maxRecDepth 20000
set_option maxHeartbeats 4000000
structure Hop where
 (kind port domain addr:Int)
instance:Inhabited Hop:=⟨⟨0,0,0,0⟩⟩
def domOK (n:Net) (d:Int):Prop:=(0≤d∧d<n.domains.length)∧Ae n=true
instance (n:Net) (d:Int):Decidable (domOK n d):=inferInstanceAs (Decidable (_∧_))
structure Lead where
 (to domain addr:Int)
instance:Inhabited Lead:=⟨⟨0,0,0⟩⟩
structure Fnd where
 (domain kind:Int) (hop:Hop) (ahead:Int)
instance:Inhabited Fnd:=⟨⟨0,0,default,0⟩⟩
theorem S2 {n:Net} (h:Ae n=true) {i:Nat} (hi:i<n.ports.length) {v:Int} (hv:Cw n.ports[i] v=true):0≤Ca n n.ports[i].dev v∧(Ca n n.ports[i].dev v).toNat<n.domains.length:=by
 have hp:=Aen h hi
 simp only[Ir,Bool.and_eq_true,Bool.not_eq_true']at hp
 simp only[Cw,Bool.and_eq_true,bne_iff_ne,Bool.or_eq_true,beq_iff_eq]at hv
 have h0:0≤Ca n n.ports[i].dev v:=by
  rcases hv.2 with h1 | h1
  ·have h2:=hp.1.2
   have h3:=hp.1.1.1.1.1.1.1.2
   rw[h1]at hv ⊢
   have h4:decide (0<n.ports[i].native)=true:=by
    simp only[decide_eq_true_eq]at h3 ⊢
    omega
   rw[h4]at h2
   simpa [C0] using h2
  ·have h2:=hp.1.1.2
   obtain ⟨x,hx,e⟩:=List.any_eq_true.1 h1
   obtain ⟨j,hj,rfl⟩:=List.mem_iff_getElem.1 hx
   have h3:=allB_iff.1 h2 j hj
   simp only[beq_iff_eq]at e
   rw[e]at h3
   simpa [C0] using h3
 refine⟨h0,?_⟩
 have:=Vn (fun d:Domain=>d.dev == n.ports[i].dev && d.vlan == v) n.domains
 have e:Ca n n.ports[i].dev v=Bv (fun d:Domain=>d.dev == n.ports[i].dev && d.vlan == v) n.domains:=rfl
 omega
theorem Or {n:Net} {i v:Int} (h:(linkDomT n i v).2=true):0≤(linkDomT n i v).1∧(linkDomT n i v).1.toNat<n.domains.length:=by
 unfold linkDomT at h ⊢
 split at h
 ·rename_i hc
  rw[if_pos hc]
  have hth:=Mj hc
  unfold crossT at hc hth ⊢
  split at hc
  ·rename_i h1
   rw[if_pos h1]at hth ⊢
   have hb:=(I8 h1.1).2.1
   have h2:=h1.2.2
   rw[Qq]at h2 ⊢
   rw[Qo,if_pos hb]
   dsimp only at hth ⊢
   rw[Ba hth.2]at h2 ⊢
   refine S2 hb hth.2 ?_
   simp only[Cw,Bool.and_eq_true,bne_iff_ne,Bool.or_eq_true,beq_iff_eq]
   refine⟨h2,?_⟩
   split
   ·exact .inl E
   ·rename_i h3
    rw[if_neg h3]at h2
    split
    ·rename_i h4
     exact .inr h4
    ·rename_i h4
     rw[if_neg h4]at h2
     exact absurd E h2
  ·cases hc
 ·cases h
theorem e_peer {n:Net} (h:Ae n=true) {i:Nat} (hi:i<n.domains.length) {p:Int} (hp:p∈n.domains[i].peers):0≤p∧p.toNat<n.domains.length:=by
 simp only[Ae,Bool.and_eq_true]at h
 have h1:=allB_iff.1 h.1.1.1.1.1.1.2 i hi
 obtain ⟨j,hj,rfl⟩:=List.mem_iff_getElem.1 hp
 have h2:=allB_iff.1 h1 j hj
 simp only[K6,Al,Bool.and_eq_true,decide_eq_true_eq]at h2
 omega
end Go.Sy.YtjenpnjajjplkaaGreatDoor
namespace Go.Sy
theorem Aeh {P:Program} {o:Oper} {s:SS} {x y:Operand} {at_:Array TypeId} {k k':IntKind} {m n:Int} (h:o.op=.call ⟨.builtin .max,#[x,y],at_⟩)
  (hx:ev s x=.val (.int k m)) (hy:ev s y=.val (.int k' n)):Good P o s ⟨.val (.int k (if n>m then n else m)),[],[]⟩ :=
 Good.pure fun κ a w _ hr ho=>by
  have h1:=hr x (by simp[h,Op.operands,Call.operands])
  have h2:=hr y (by simp[h,Op.operands,Call.operands])
  rw[hx]at h1
  rw[hy]at h2
  refine⟨.int k (if n>m then n else m),?_,by simp[Rd]⟩
  simp[execOp,h,resolve,invoke,builtin,Builtin.max_,Builtin.max2,h1.val,h2.val]
end Go.Sy
namespace Go.Sy.YtjenpnjajjplkaaGreatDoor
open Go.Proofs
attribute [local irreducible] Go.Sy.G Go.Sy.DR
set_option maxRecDepth 100000
set_option maxHeartbeats 4000000
theorem Dq {f:List Int} (hf:B6 f) {i:Int} (h0:0≤i) (hi:i.toNat<f.length):0≤nth f i∧nth f i≤i:=by
 rw[Ba hi]
 have:=hf i.toNat hi
 omega
theorem Hz {f:List Int} (hf:B6 f) {i:Nat} (_hi:i<f.length) {x:Int} (h0:0≤x) (hx:x≤i):B6 (f.set i x):=by
 intro k hk
 rw[List.length_set]at hk
 rw[List.getElem_set]
 split
 ·rename_i e;subst e;exact⟨h0,hx⟩
 ·exact hf k hk
theorem T5:∀ (m k k':Nat) (f:List Int) (i:Int),B6 f→0≤i→i.toNat<f.length→i.toNat≤m→i.toNat+1≤k→i.toNat+1≤k'→Wf k f i=Wf k' f i
 | m,0,_,_,_,_,_,_,_,h,_=>by omega
 | m,_+1,0,_,_,_,_,_,_,_,h=>by omega
 | m,k+1,k'+1,f,i,hf,h0,hi,hm,h1,h2=>by
  rw[Wf,Wf]
  by_cases e:nth f i=i
  ·rw[if_pos e,if_pos e]
  ·rw[if_neg e,if_neg e]
   obtain ⟨a1,a2⟩:=Dq hf h0 hi
   obtain ⟨b1,b2⟩:=Dq hf a1 (by omega:(nth f i).toNat<f.length)
   match m with
   | 0=>omega
   | m+1 =>
    exact T5 m k k' _ _ (Hz hf hi b1 q_) b1 (by rw[List.length_set];omega) q_ q_ q_
theorem Aag {f:List Int} {i:Int} (h:nth f i=i):He f i=(f,i):=by rw[He,Wf,if_pos h]
theorem We {f:List Int} {i:Int} (hf:B6 f) (h0:0≤i) (hi:i.toNat<f.length) (h:nth f i≠i):He f i=He (f.set i.toNat (nth f (nth f i))) (nth f (nth f i)):=by
 obtain ⟨a1,a2⟩:=Dq hf h0 hi
 obtain ⟨b1,b2⟩:=Dq hf a1 (by omega:(nth f i).toNat<f.length)
 rw[He,Wf,if_neg h,He]
 exact T5 i.toNat _ _ _ _ (Hz hf hi b1 q_) b1 (by rw[List.length_set];omega) q_ q_ q_
theorem Ip:∀ (m:Nat) (f:List Int) (i:Int),B6 f→0≤i→i.toNat<f.length→i.toNat≤m→B6 (He f i).1∧(He f i).1.length=f.length∧0≤(He f i).2∧(He f i).2≤i
 | m,f,i,hf,h0,hi,hm=>by
  by_cases e:nth f i=i
  ·rw[Aag e];exact⟨hf,rfl,h0,Int.le_refl _⟩
  ·obtain ⟨a1,a2⟩:=Dq hf h0 hi
   obtain ⟨b1,b2⟩:=Dq hf a1 (by omega:(nth f i).toNat<f.length)
   rw[We hf h0 hi e]
   match m with
   | 0=>omega
   | m+1 =>
    obtain ⟨c1,c2,c3,c4⟩:=Ip m _ _ (Hz hf hi b1 q_) b1 (by rw[List.length_set];omega:(nth f (nth f i)).toNat<(f.set i.toNat (nth f (nth f i))).length) q_
    exact⟨c1,by rw[c2,List.length_set],c3,by omega⟩
theorem Sj {f:List Int} {a b:Int} (hf:B6 f) (ha:0≤a∧a.toNat<f.length) (hb:0≤b∧b.toNat<f.length):B6 (Lb f a b).1∧(Lb f a b).1.length=f.length:=by
 obtain ⟨a1,a2,a3,a4⟩:=Ip a.toNat f a hf ha.1 ha.2 (Nat.le_refl _)
 obtain ⟨b1,b2,b3,b4⟩:=Ip b.toNat (He f a).1 b a1 hb.1 q_ (Nat.le_refl _)
 unfold Lb
 dsimp only
 generalize He (He f a).1 b=y at *
 generalize He f a=x at *
 refine⟨Hz b1 q_ q_ q_,by rw[List.length_set];omega⟩
theorem V6 (k:Nat):B6 (H3 k)∧(H3 k).length=k:=by
 refine⟨fun i hi=>?_,by simp[H3]⟩
 simp[H3]
def alJ (k j:Nat):List Int:=(List.range j).map (fun i:Nat=>(i:Int))++List.replicate (k-j) 0
theorem Ae0 (k:Nat):alJ k 0=List.replicate k 0:=by simp[alJ]
theorem Af2 (k j:Nat) (h:j≤k):(alJ k j).length=k:=by simp[alJ];omega
theorem Ae1 (k j:Nat) (h:j<k):(alJ k j).set ((j:Nat):Int).toNat (j:Int)=alJ k (j+1):=by
 have hl:((List.range j).map (fun i:Nat=>(i:Int))).length=j:=by simp
 rw[Int.toNat_natCast,alJ,alJ,List.set_append_right _ _ q_,hl,Nat.sub_self,show k-j=(k-(j+1))+1 by omega,List.replicate_succ,List.set_cons_zero,List.range_succ,List.map_append,List.append_assoc]
 rfl
theorem aloneS (k:Nat) (hk:k≤100000):Sy.Spec Tryz.prog 65 [Aa k] [] (.osl 900) [(900,.row 1 Aa (H3 k))]:=cT F65 Tryz.ntmps65 fun F hF=>by
 have hfull:alJ k k=H3 k:=by simp[alJ,H3]
 refine T ?_
 refine X (Sr Γ.toTy (d:=6) (n:=k) Aa 0 E E E E E E E E q_ q_ E E E) ?_
 refine T ?_
 refine Bd (fun j:Nat=>j≤k) (fun j=>[(3,.osl 1000),(8,Aa k),(9,Aa j)]) (fun j=>[(1000,.row 1 Aa (alJ k j))]) (fun j=>k-j) 0 [(1000,6)] q_ ⟨⟨E,E,congrArg Aa (by rw[List.length_replicate]),E,E,E,Y⟩,⟨.inl (congrArg (Ob.row 1 Aa) (Ae0 k)),E,Y⟩,E,E⟩ ?_
 intro j hj
 have hl:=Af2 k j hj
 refine T ?_
 refine⟨fun h=>?_,fun h=>?_⟩
 ·have hlt:j<k:=qA h
  clear h
  have hne:alJ k j≠[]:=fun e=>by rw[e]at hl;simp at hl;omega
  have hnx:=Ae1 k j hlt
  refine T ?_
  refine⟨(j:Int),E,E,?_⟩
  refine T ?_
  exact Ak (j+1) [] hlt q_ ⟨⟨E,E,E,E,E,E,Y⟩,⟨.inl (congrArg (Ob.row 1 Aa) hnx.symm),E,Y⟩,E,E⟩
 ·have hje:j=k:=qB h
  clear h
  subst hje
  rw[hfull]
  refine T ?_
  exact done E (.cons .tmp .nil) [(900,1000)] [(900,.row 1 Aa (H3 j))] (fun _ h=>h) E E U
theorem Abf (l:List Int) (h0:0<l.length) (hl:l.length<2147483648):Sy.Spec Tryz.prog 67 [.sl 1 Aa l] [] (Aa (W4 l)) []:=cT F67 Tryz.ntmps67 fun F hF=>by
 have f0:decide ((l.length:Int)<1)=false:=decide_eq_false q_
 have hz:(0:Int).toNat<l.length:=h0
 have hst:W4 l=Tn (l[(0:Int).toNat]'hz) (l.drop 1):=by rw[W4,Ba hz]
 refine T ?_
 refine Bd (fun x:Nat × Int=>1≤x.1∧x.1≤l.length∧W4 l=Tn x.2 (l.drop x.1)) (fun x=>[(0,.sl 1 Aa l),(3,Aa x.2),(4,Aa x.1)]) (fun _=>[]) (fun x=>l.length-x.1) (1,l[(0:Int).toNat]'hz) [] ⟨by omega,by omega,hst⟩ U ?_
 rintro ⟨i,m⟩ ⟨h1,h2,hI⟩
 dsimp only at h1 h2 hI ⊢
 refine T ?_
 refine⟨fun h=>?_,fun h=>?_⟩
 ·have hlt:i<l.length:=qA h
  have hlt0:((i:Nat):Int).toNat<l.length:=hlt
  clear h
  rw[List.drop_eq_getElem_cons hlt,Tn]at hI
  refine T ?_
  refine X (Sq E E E) ?_
  exact Ak (i+1,min m l[i]) [] ⟨by dsimp only;omega,hlt,hI⟩ (by dsimp only;omega) ⟨⟨E,E,congrArg Aa (by dsimp only;show min m l[i]=if l[i]<m then l[i] else m;omega),E,E,E,Y⟩,Y,E,E⟩
 ·have hie:i=l.length:=qB h
  clear h
  rw[hie,List.drop_length,Tn]at hI
  rw[hI]
  refine T ?_
  exact D
theorem topS (f:List Int) (i:Int) (hf:B6 f) (h0:0≤i) (hi:i.toNat<f.length) (hl:f.length≤100000):Sy.Spec Tryz.prog 169 [.osl 900,Aa i] [(900,.row 1 Aa f)] (Aa (He f i).2) [(900,.row 1 Aa (He f i).1)]:=cT F169 Tryz.ntmps169 fun F hF=>by
 refine T ?_
 refine Bd (fun x:List Int × Int=>B6 x.1∧x.1.length=f.length∧0≤x.2∧x.2.toNat<f.length∧He f i=He x.1 x.2) (fun x=>[(0,.osl 900),(1,Aa x.2)]) (fun x=>[(900,.row 1 Aa x.1)]) (fun x=>x.2.toNat) (f,i) [] ⟨hf,E,h0,hi,E⟩ U ?_
 rintro ⟨g,k⟩ ⟨h1,h2,h3,h4,hI⟩
 dsimp only at h1 h2 h3 h4 hI ⊢
 have hk0:k.toNat<g.length:=by omega
 have hn:=Ba hk0
 by_cases e:nth g k=k
 ·have hb:(g[k.toNat] == k)=true:=by rw[← hn];exact beq_iff_eq.mpr e
  have hb':(!(g[k.toNat] == k))=false:=by rw[hb];rfl
  rw[hI,Aag e]
  refine T ?_
  exact done E (.cons .tmp .nil) [(900,900)] [(900,.row 1 Aa g)] (fun _ h=>h) E E U
 ·obtain ⟨a1,a2⟩:=Dq h1 h3 hk0
  obtain ⟨b1,b2⟩:=Dq h1 a1 (by omega:(nth g k).toNat<g.length)
  have hk1:(g[k.toNat]'hk0).toNat<g.length:=by omega
  have hn1:nth g (nth g k)=g[(g[k.toNat]'hk0).toNat]'hk1:=by rw[hn];exact Ba hk1
  have hs:=We h1 h3 hk0 e
  have hb:(g[k.toNat] == k)=false:=by rw[← hn];exact beq_eq_false_iff_ne.mpr e
  have hb':(!(g[k.toNat] == k))=true:=by rw[hb];rfl
  refine T ?_
  refine⟨nth g (nth g k),congrArg (fun x=>cellsOf (Aa x)) hn1,E,?_⟩
  have hk2:k.toNat<(g.set k.toNat (nth g (nth g k))).length:=by rw[List.length_set];exact hk0
  have hn2:(g.set k.toNat (nth g (nth g k)))[k.toNat]'hk2=nth g (nth g k):=List.getElem_set_self _
  refine T ?_
  refine Ak (g.set k.toNat (nth g (nth g k)),nth g (nth g k)) [] ⟨Hz h1 hk0 b1 q_,by dsimp only;rw[List.length_set];exact h2,b1,by dsimp only;omega,by dsimp only;rw[hI,hs]⟩ (by dsimp only;omega) ⟨⟨E,E,congrArg Aa hn2.symm,E,Y⟩,⟨.inl E,E,Y⟩,E,E⟩
theorem Agf (f:List Int) (a b:Int) (hf:B6 f) (ha:0≤a∧a.toNat<f.length) (hb:0≤b∧b.toNat<f.length) (hl:f.length≤100000):Sy.Spec Tryz.prog 68 [.osl 900,Aa a,Aa b] [(900,.row 1 Aa f)] (Ab (Lb f a b).2) [(900,.row 1 Aa (Lb f a b).1)]:=cT F68 Tryz.ntmps68 fun F hF=>by
 obtain ⟨a1,a2,a3,a4⟩:=Ip a.toNat f a hf ha.1 ha.2 (Nat.le_refl _)
 obtain ⟨b1,b2,b3,b4⟩:=Ip b.toNat (He f a).1 b a1 hb.1 q_ (Nat.le_refl _)
 have F1:=topS f a hf ha.1 ha.2 hl
 have F2:=topS (He f a).1 b a1 hb.1 q_ q_
 rw[Lb]
 dsimp only
 generalize hy:He (He f a).1 b=y at *
 generalize hx:He f a=x at *
 have hm:(if y.2>x.2 then y.2 else x.2).toNat<y.1.length:=by split<;>omega
 have hm0:0≤(if y.2>x.2 then y.2 else x.2):=by split<;>omega
 have e1:(max x.2 y.2).toNat=(if y.2>x.2 then y.2 else x.2).toNat:=by rw[Int.max_def];split<;>split<;>omega
 have e2:(min x.2 y.2)=(if y.2<x.2 then y.2 else x.2):=by rw[Int.min_def];split<;>split<;>omega
 rw[e1,e2]
 refine T ?_
 refine X (Ac [(900,900)] E F169 F1 E W E V) ?_
 refine T ?_
 refine X (Ac [(900,900)] E F169 F2 E W E V) ?_
 refine T ?_
 refine X (Aeh E E E) ?_
 refine T ?_
 refine X (Sq E E E) ?_
 refine T ?_
 refine⟨_,E,E,?_⟩
 refine T ?_
 exact done E (.cons .tmp .nil) [(900,900)] [(900,.row 1 Aa (y.1.set (if y.2>x.2 then y.2 else x.2).toNat (if y.2<x.2 then y.2 else x.2)))] (fun _ h=>h) E E U
theorem L7 {n:Net} {i:Nat} {v:Int} (h:(linkDomT n i v).2=true) (hi:i<n.ports.length):Cw n.ports[i] v=true:=by
 have e:nth n.ports ((i:Nat):Int)=n.ports[i]:=Ba (l:=n.ports) (i:=((i:Nat):Int)) hi
 unfold linkDomT at h
 split at h
 ·rename_i h3
  unfold crossT at h3
  split at h3
  ·rename_i h4
   rw[e]at h4
   exact h4.2.1
  ·cases h3
 ·cases h
theorem K9 {n:Net} (hr:Ae n=true) {f:List Int} {i:Nat} (hi:i<n.ports.length) {v:Int} (hf:B6 f) (hl:n.domains.length≤f.length):B6 (Cc n f i v)∧(Cc n f i v).length=f.length:=by
 unfold Cc
 split
 ·rename_i h
  have h2:=Or h
  have hm:Cw n.ports[i] v=true:=L7 h hi
  have h3:=S2 hr hi hm
  have e:nth n.ports ((i:Nat):Int)=n.ports[i]:=Ba (l:=n.ports) (i:=((i:Nat):Int)) hi
  rw[e]
  exact Sj hf ⟨h3.1,by omega⟩ ⟨h2.1,by omega⟩
 ·exact⟨hf,E⟩
theorem Ha {α:Type} {g:List Int→α→List Int} {k:Nat}:∀ {l:List α} {f:List Int},(∀ a∈l,∀ f,B6 f→k≤f.length→B6 (g f a)∧(g f a).length=f.length)→B6 f→k≤f.length→B6 (l.foldl g f)∧(l.foldl g f).length=f.length
 | [],_,_,h,_=>⟨h,rfl⟩
 | a::l,f,hg,h,hk=>by
  obtain ⟨h1,h2⟩:=hg a y_ f h hk
  obtain ⟨h3,h4⟩:=Ha (l:=l) (fun b hb=>hg b (by simp[hb])) h1 (by omega:k≤(g f a).length)
  exact⟨h3,by rw[List.foldl_cons,h4,h2]⟩
theorem J8 {n:Net} (hr:Ae n=true) {f:List Int} {i:Nat} (hi:i<n.ports.length) (hf:B6 f) (hl:n.domains.length≤f.length):B6 (D4 n f i)∧(D4 n f i).length=f.length :=
 Ha (fun _ _ _ h1 h2=>K9 hr hi h1 h2) hf hl
theorem Vk {n:Net} (hr:Ae n=true) {f:List Int} (hf:B6 f) (hl:n.domains.length≤f.length):B6 (Ko n f)∧(Ko n f).length=f.length :=
 Ha (fun i hi _ h1 h2=>J8 hr (by simpa using hi) h1 h2) hf hl
theorem V3 (l:List Int) (hl:l.length<2147483648):Sy.Spec Tryz.prog 159 [.sl 1 Aa l] [] (.osl 0) [(0,.row 1 Aa l)]:=cT F159 Tryz.ntmps159 fun F hF=>by
 ((conv=>whnf);repeat((first|refine aF ?_|refine aT ?_);(first|refine rG Γ hm ?_|refine rD Γ hm z_ ?_);conv=>whnf))
 refine Eg E (.inl E) E E E .sl E E ?_
 intro b hb
 cases b
 ·((first|refine rG Γ hm ?_|refine rD Γ hm z_ ?_);(conv=>whnf);repeat((first|refine aF ?_|refine aT ?_);(first|refine rG Γ hm ?_|refine rD Γ hm z_ ?_);conv=>whnf))
  refine Cm (An Γ.toTy 7 E E E E E (.lit (e:=Aa) (l:=[]) E E) .sl y_ (by simp;omega) (by simp;omega)) E E ?_
  ((first|refine rG Γ hm ?_|refine rD Γ hm z_ ?_);(conv=>whnf);repeat((first|refine aF ?_|refine aT ?_);(first|refine rG Γ hm ?_|refine rD Γ hm z_ ?_);conv=>whnf))
  exact done E (.cons .tmp .nil) [(0,7)] [(0,.row 1 Aa l)] (fun _ h=>h) E E ⟨Y,⟨.inl E,E,Y⟩,E,E⟩
 ·have h0:l=[]:=List.eq_nil_of_length_eq_zero (hb rfl)
  subst h0
  ((first|refine rG Γ hm ?_|refine rD Γ hm z_ ?_);(conv=>whnf);repeat((first|refine aF ?_|refine aT ?_);(first|refine rG Γ hm ?_|refine rD Γ hm z_ ?_);conv=>whnf))
  refine C8 2 1000 1 Aa E E ?_
  exact done E (.cons .tmp .nil) [(0,1000)] [(0,.row 1 Aa [])] (fun _ h=>h) E E ⟨Y,⟨.inl E,E,Y⟩,E,E⟩
theorem Afn (n:Net) (f:List Int) (hn:n.Fin) (hr:Ae n=true) (hf:B6 f) (hl:n.domains.length≤f.length) (hl2:f.length≤100000):Sy.Spec Tryz.prog 66 [Ap n,.osl 900] [(900,.row 1 Aa f)] (.tup []) [(900,.row 1 Aa (Ko n f))]:=cT F66 Tryz.ntmps66 fun F hF=>by
 have hp:n.ports.length<2147483648:=hn.ports
 refine T ?_
 refine Bk 2 8 (Ap n) E E E ?_
 refine T ?_
 refine E3 n.ports.length (fun j=>[(1,.osl 900),(2,.ref 8 (Ap n) 0),(11,.sl 7 Ay n.ports),(12,Aa n.ports.length),(13,Aa j)]) (fun j=>[(900,.row 1 Aa ((List.range j).foldl (D4 n) f))]) [] U ?_
 intro j hj
 refine T ?_
 refine⟨fun h=>?_,fun h=>?_⟩
 ·have hlt:j<n.ports.length:=qA h
  have hj0:((j:Nat):Int).toNat<n.ports.length:=hlt
  clear h
  have htag:n.ports[((j:Nat):Int).toNat].tagged.length<2147483648:=hn.tagged _ (List.getElem_mem hj0)
  have htag2:n.ports[j].tagged.length<2147483648:=htag
  have hnp:nth n.ports ((j:Nat):Int)=n.ports[((j:Nat):Int).toNat]:=Ba hj0
  obtain ⟨g1,g2⟩:B6 ((List.range j).foldl (D4 n) f)∧((List.range j).foldl (D4 n) f).length=f.length:=Ha (fun i hi _ h1 h2=>J8 hr (by have:=List.mem_range.1 hi;omega) h1 h2) hf hl
  refine T ?_
  refine Xd (Ac [(0,60)] E F159 (V3 n.ports[((j:Nat):Int).toNat].tagged htag) E Y E ⟨.inr E,Y⟩) ?_
  refine T ?_
  refine Xd (An Γ.toTy 61 rfl rfl rfl rfl rfl (.row rfl) (.lit (e:=Aa) (l:=[n.ports[((j:Nat):Int).toNat].native]) rfl rfl) (by intro k hk;cases hk;decide) (by simp;omega) (by simp;omega)) ?_
  refine T ?_
  refine Bk 5 7 (Ay n.ports[((j:Nat):Int).toNat]) E E E ?_
  have hlen:(n.ports[((j:Nat):Int).toNat].tagged++[n.ports[((j:Nat):Int).toNat].native]).length=n.ports[((j:Nat):Int).toNat].tagged.length+1:=by simp
  refine T ?_
  obtain ⟨vl,hvl⟩:∃ vl,n.ports[((j:Nat):Int).toNat].tagged++[n.ports[((j:Nat):Int).toNat].native]=vl:=⟨_,rfl⟩
  have hvlen:vl.length<2147483649:=by rw[← hvl,hlen];omega
  obtain ⟨fj,hfj⟩:∃ fj,(List.range j).foldl (D4 n) f=fj:=⟨_,rfl⟩
  rw[hfj]at g1 g2
  refine E3 vl.length (fun i=>[(1,.osl 900),(2,.ref 8 (Ap n) 0),(4,Aa j),(5,.ref 7 (Ay n.ports[((j:Nat):Int).toNat]) 0),(11,.sl 7 Ay n.ports),(12,Aa n.ports.length),(13,Aa j),(24,.osl 1000),(25,Aa vl.length),(26,Aa i)])
   (fun i=>[(900,.row 1 Aa ((vl.take i).foldl (fun f v=>Cc n f j v) fj)),(1000,.row 1 Aa vl)]) [(1000,61)] ⟨⟨rfl,rfl,rfl,rfl,rfl,rfl,rfl,rfl,rfl,rfl,rfl,rfl,rfl,rfl,rfl,rfl,congrArg (fun l:List Int=>Aa l.length) hvl.symm,rfl,rfl,rfl,trivial⟩,⟨.inl (congrArg (Ob.row 1 Aa) hfj.symm),rfl,.inl (congrArg (Ob.row 1 Aa) hvl.symm),rfl,trivial⟩,rfl,rfl⟩ ?_
  intro i hi
  refine T ?_
  refine⟨fun h=>?_,fun h=>?_⟩
  ·have hit:i<vl.length:=qA h
   have hi0:((i:Nat):Int).toNat<vl.length:=hit
   clear h
   obtain ⟨e1,e2⟩:B6 ((vl.take i).foldl (fun f v=>Cc n f j v) fj)∧((vl.take i).foldl (fun f v=>Cc n f j v) fj).length=fj.length:=Ha (fun _ _ _ h1 h2=>K9 hr hlt h1 h2) g1 q_
   have hnx:(vl.take (i+1)).foldl (fun f v=>Cc n f j v) fj=Cc n ((vl.take i).foldl (fun f v=>Cc n f j v) fj) j (vl[((i:Nat):Int).toNat]'hi0):=by
    rw[List.take_succ_eq_append_getElem hit,List.foldl_append];rfl
   have q:=Vj n hn j (vl[((i:Nat):Int).toNat]'hi0)
   refine T ?_
   refine C q F167 ?_
   cases hb:(linkDomT n j (vl[((i:Nat):Int).toNat]'hi0)).2
   ·have hz:Cc n ((vl.take i).foldl (fun f v=>Cc n f j v) fj) j (vl[((i:Nat):Int).toNat]'hi0)=(vl.take i).foldl (fun f v=>Cc n f j v) fj:=by rw[Cc,if_neg (by rw[hb];decide)]
    rw[hz]at hnx
    refine T ?_
    exact H4 [] q_ ⟨⟨E,E,E,E,E,E,E,E,E,E,E,E,E,E,E,E,E,E,E,E,Y⟩,⟨.inl (congrArg (Ob.row 1 Aa) hnx),E,.inl E,E,Y⟩,E,E⟩
   ·have hin:=Or hb
    have hm:Cw (n.ports[((j:Nat):Int).toNat]'hj0) (vl[((i:Nat):Int).toNat]'hi0)=true:=L7 hb hlt
    have hdm:=S2 hr hlt hm
    have q2:=E1 n hn hr (n.ports[((j:Nat):Int).toNat]'hj0).dev (vl[((i:Nat):Int).toNat]'hi0)
    have hz:Cc n ((vl.take i).foldl (fun f v=>Cc n f j v) fj) j (vl[((i:Nat):Int).toNat]'hi0)=(Lb ((vl.take i).foldl (fun f v=>Cc n f j v) fj) (Ca n (n.ports[((j:Nat):Int).toNat]'hj0).dev (vl[((i:Nat):Int).toNat]'hi0)) (linkDomT n j (vl[((i:Nat):Int).toNat]'hi0)).1).1:=by rw[Cc,if_pos hb,hnp]
    rw[hz]at hnx
    have q3:=Agf ((vl.take i).foldl (fun f v=>Cc n f j v) fj) (Ca n (n.ports[((j:Nat):Int).toNat]'hj0).dev (vl[((i:Nat):Int).toNat]'hi0)) (linkDomT n j (vl[((i:Nat):Int).toNat]'hi0)).1 e1 ⟨hdm.1,Nat.lt_of_lt_of_le hdm.2 q_⟩ ⟨hin.1,by omega⟩ q_
    refine T ?_
    refine C q2 F168 ?_
    refine T ?_
    refine X (Ac [(900,900)] E F68 q3 E W E V) ?_
    refine T ?_
    exact H4 [] q_ ⟨⟨E,E,E,E,E,E,E,E,E,E,E,E,E,E,E,E,E,E,E,E,Y⟩,⟨.inl (congrArg (Ob.row 1 Aa) hnx),E,.inl E,E,Y⟩,E,E⟩
  ·have hie:i=vl.length:=qB h
   clear h
   subst hie
   have hnx:(List.range (j+1)).foldl (D4 n) f=(vl.take vl.length).foldl (fun f v=>Cc n f j v) fj:=by
    rw[List.range_succ,List.foldl_append,hfj,List.take_length,← hvl]
    show D4 n fj j=_
    rw[D4,hnp]
   refine T ?_
   exact H4 [] q_ ⟨⟨E,E,E,E,E,E,E,E,E,E,Y⟩,⟨.inl (congrArg (Ob.row 1 Aa) hnx),E,Y⟩,E,E⟩
 ·have hje:j=n.ports.length:=qB h
  clear h
  subst hje
  refine T ?_
  exact Cf E .nil [(900,900)] [(900,.row 1 Aa (Ko n f))] (fun _ h=>h) E E U
end Go.Sy.YtjenpnjajjplkaaGreatDoor
namespace Go.Sy.YtjenpnjajjplkaaGreatDoor
open Go.Proofs
attribute [local irreducible] Go.Sy.G Go.Sy.DR
set_option maxRecDepth 100000
set_option maxHeartbeats 4000000
theorem Aao:∀ (l:List Int) (m:Int),Tn m l=m∨Tn m l∈l
 | [],_=>.inl rfl
 | x::l,m=>by
  rw[Tn]
  rcases Aao l (min m x) with h | h
  ·rw[h,Int.min_def]
   split
   ·exact .inl E
   ·exact .inr y_
  ·exact .inr (by simp[h])
theorem Afl {l:List Int} (h:l≠[]):W4 l∈l:=by
 match l,h with
 | x::l,_ =>
  show Tn (nth (x::l) 0) l∈x::l
  rw[show nth (x::l) 0=x from rfl]
  rcases Aao l x with h | h
  ·rw[h];simp
  ·simp[h]
theorem Age (n:Net) (hn:n.Fin):Sy.Spec Tryz.prog 24 [Ap n] [] (.tup [Aa (loopT n).1,Ab (loopT n).2]) []:=cT F24 Tryz.ntmps24 fun F hF=>by
 have qn:=Bl n hn
 have hT:=loopT.eq_1 n
 generalize loopT n=res at *
 cases hr:Ae n with
 | false =>
  rw[hr]at qn
  rw[hr,if_pos rfl]at hT
  subst hT
  refine T ?_
  refine C qn F25 ?_
  refine T ?_
  exact D
 | true =>
 rw[hr]at qn
 rw[hr,if_neg y_]at hT
 obtain ⟨_,_,_,hmany,_⟩:=Aeo hr
 obtain ⟨fa1,fa2⟩:=V6 (2 * n.domains.length)
 have fl:=Vk hr fa1 q_
 have q1:=aloneS (2 * n.domains.length) q_
 rw[show ((2 * n.domains.length:Nat):Int)=2 * (n.domains.length:Int) from by omega]at q1
 have q2:=Afn n (H3 (2 * n.domains.length)) hn hr fa1 q_ q_
 refine T ?_
 refine C qn F25 ?_
 refine Bk 1 8 (Ap n) E E E ?_
 refine T ?_
 refine X (Ac [(900,700)] E F65 q1 E W E V) ?_
 refine T ?_
 refine X (Ac [(900,700)] E F66 q2 E W E V) ?_
 refine T ?_
 refine Bd (fun x:Nat × List Int=>x.1≤n.domains.length∧B6 x.2∧x.2.length=2 * n.domains.length∧res=Ja n x.2 x.1 (n.domains.drop x.1)) (fun x=>[(1,.ref 8 (Ap n) 0),(4,Aa n.domains.length),(5,.osl 1000),(22,.sl 6 Ad n.domains),(23,Aa n.domains.length),(24,Aa x.1)])
  (fun x=>[(1000,.row 1 Aa x.2)]) (fun x=>n.domains.length-x.1) (0,Ko n (H3 (2 * n.domains.length))) [(1000,700)] ⟨by omega,fl.1,by dsimp only;rw[fl.2,fa2],hT⟩ U ?_
 rintro ⟨i,f⟩ ⟨h1,h2,h3,hI⟩
 dsimp only at h1 h2 h3 hI ⊢
 refine T ?_
 refine⟨fun h=>?_,fun h=>?_⟩
 ·have hlt:i<n.domains.length:=qA h
  have hi0:((i:Nat):Int).toNat<n.domains.length:=hlt
  clear h
  rw[List.drop_eq_getElem_cons hlt,Ja]at hI
  have hpl:n.domains[((i:Nat):Int).toNat].peers.length<2147483648:=hn.peers _ (List.getElem_mem hi0)
  refine T ?_
  refine⟨fun h=>?_,fun h=>?_⟩
  ·have hpe:n.domains[i].peers=[]:=List.eq_nil_of_length_eq_zero (by have:=eq_of_beq h;have e:(n.domains[((i:Nat):Int).toNat]'hi0).peers.length=n.domains[i].peers.length:=rfl;omega)
   clear h
   rw[if_pos hpe]at hI
   refine T ?_
   exact Ak (i+1,f) [] ⟨hlt,h2,h3,hI⟩ (by dsimp only;omega) ⟨⟨E,E,E,E,E,E,E,E,E,E,E,E,Y⟩,⟨.inl E,E,Y⟩,E,E⟩
  have hpe:n.domains[i].peers≠[]:=fun e=>by
   have e2:(n.domains[((i:Nat):Int).toNat]'hi0).peers=[]:=e
   rw[e2]at h
   cases h
  clear h
  rw[if_neg hpe]at hI
  dsimp only at hI
  have hpm:=e_peer hr hlt (Afl hpe)
  have qm:=Abf (n.domains[((i:Nat):Int).toNat]'hi0).peers (by have:=List.length_pos_iff.2 hpe;exact this) hpl
  obtain ⟨m,hm⟩:∃ m,W4 (n.domains[((i:Nat):Int).toNat]'hi0).peers=m:=⟨_,rfl⟩
  have hm':W4 n.domains[i].peers=m:=hm
  have emin:min (i:Int) m=if m<(i:Int) then m else (i:Int):=by rw[Int.min_def];split<;>split<;>omega
  rw[hm]at qm
  rw[hm']at hI hpm
  rw[emin]at hI
  have hmb:0≤(if m<(i:Int) then m else (i:Int))∧(if m<(i:Int) then m else (i:Int))<n.domains.length:=by split<;>omega
  have q3:=Agf f i ((n.domains.length:Int)+(if m<(i:Int) then m else (i:Int))) h2 ⟨by omega,by omega⟩ ⟨by omega,by omega⟩ q_
  have q3f:=Sj h2 (⟨by omega,by omega⟩:0≤(i:Int)∧(i:Int).toNat<f.length) (⟨by omega,by omega⟩:0≤(n.domains.length:Int)+(if m<(i:Int) then m else (i:Int))∧((n.domains.length:Int)+(if m<(i:Int) then m else (i:Int))).toNat<f.length)
  have hb48:(n.domains.length:Int)+(if m<(i:Int) then m else (i:Int))<100:=by omega
  generalize (Lb f i ((n.domains.length:Int)+(if m<(i:Int) then m else (i:Int))))=r at *
  obtain ⟨g,ok⟩:=r
  dsimp only at hI q3f
  refine T ?_
  refine C qm F67 ?_
  refine T ?_
  refine X (Sq E E E) ?_
  refine T ?_
  refine X (Ac [(900,1000)] E F68 q3 E W E V) ?_
  cases ok with
  | false =>
   rw[if_pos rfl]at hI
   rw[hI]
   refine T ?_
   exact D
  | true =>
   rw[if_neg j_]at hI
   refine T ?_
   exact Ak (i+1,g) [] ⟨hlt,q3f.1,by dsimp only;omega,hI⟩ (by dsimp only;omega) ⟨⟨E,E,E,E,E,E,E,E,E,E,E,E,Y⟩,⟨.inl E,E,Y⟩,E,E⟩
 ·have hie:i=n.domains.length:=qB h
  clear h
  rw[hie,List.drop_length,Ja]at hI
  rw[hI]
  refine T ?_
  exact D
theorem Uk (l:List Int) (x:Int) (hl:Ar l):Sy.Spec Tryz.prog 249 [.sl 1 A6 l,A6 x] [] (Aa (Bv (· == x) l)) []:=cT F249 Tryz.ntmps249 fun F hF=>by
 unfold Ar at hl
 ((conv=>whnf);repeat((first|refine aF ?_|refine aT ?_);(first|refine rG Γ hm ?_|refine rD Γ hm z_ ?_);conv=>whnf))
 refine A9 l.length (fun j=>∀ i (h:i<l.length),i<j→(l[i] == x)=false) (fun j=>[(0,.sl 1 A6 l),(1,A6 x),(7,Aa l.length),(8,Aa j)]) (fun _=>[]) [] (fun i h hj=>absurd hj q_) ⟨⟨E,E,E,E,E,E,E,E,Y⟩,Y,E,E⟩ ?_
 intro j hj hI
 ((first|refine rG Γ hm ?_|refine rD Γ hm z_ ?_);(conv=>whnf);repeat((first|refine aF ?_|refine aT ?_);(first|refine rG Γ hm ?_|refine rD Γ hm z_ ?_);conv=>whnf))
 (repeat' (first | (refine⟨fun h=>?_,fun h=>?_⟩<;>(repeat (first | simp only[Al]at h | simp only[decide_eq_true_eq]at h | simp only[decide_eq_false_iff_not]at h | simp only[beq_iff_eq]at h | simp only[beq_eq_false_iff_ne]at h | simp only[bne_iff_ne]at h | simp only[bne_eq_false_iff_eq]at h | simp only[Bool.and_eq_true]at h | simp only[Bool.or_eq_true]at h | simp only[Bool.and_eq_false_iff]at h | simp only[Bool.or_eq_false_iff]at h | simp only[Bool.not_eq_true']at h | simp only[Bool.not_eq_false']at h | simp only[Bool.not_eq_eq_eq_not]at h | simp only[Bool.not_true]at h | simp only[Bool.not_false]at h))<;>((first|refine rg ?_|refine rd z_ ?_);(conv=>whnf);repeat((first|refine aF ?_|refine aT ?_);(first|refine rg ?_|refine rd z_ ?_);(conv=>whnf)))) | (refine Au rfl (.cons .tmp .nil) ?_ rfl) | (refine⟨z_,?_⟩;((conv=>whnf);repeat((first|refine aF ?_|refine aT ?_);(first|refine rg ?_|refine rd z_ ?_);(conv=>whnf)))) | (refine⟨by (first | (unfold I64;omega) | omega | (simp only[Int.toNat_natCast];omega) | done),by (first | (unfold I64;omega) | omega | (simp only[Int.toNat_natCast];omega) | done),?_⟩;((conv=>whnf);repeat((first|refine aF ?_|refine aT ?_);(first|refine rg ?_|refine rd z_ ?_);(conv=>whnf)))) | (refine⟨by (first | (unfold I64;omega) | omega | (simp only[Int.toNat_natCast];omega) | done),?_⟩;((conv=>whnf);repeat((first|refine aF ?_|refine aT ?_);(first|refine rg ?_|refine rd z_ ?_);(conv=>whnf)))) | refine Be [] hI q_ ?_ ⟨⟨rfl,rfl,rfl,rfl,rfl,rfl,rfl,rfl,trivial⟩,trivial,rfl,rfl⟩))
 all_goals try (refine congrArg Aa ?_)
 ·exact Cs q_ hI (by simpa using h.symm)
 ·intro i hi hij
  rcases Nat.lt_or_ge i j with h1 | h1
  ·exact hI i hi h1
  ·have:i=j:=by omega
   subst this
   simpa using Ne.symm h
 ·exact Ds (fun i hi=>hI i hi q_)
theorem Jk (l:List Int) (x:Int) (hl:Ar l):Sy.Spec Tryz.prog 150 [.sl 1 A6 l,A6 x] [] (Ab (inB l x)) []:=cT F150 Tryz.ntmps150 fun F hF=>by
 ((conv=>whnf);repeat((first|refine aF ?_|refine aT ?_);(first|refine rG Γ hm ?_|refine rD Γ hm z_ ?_);conv=>whnf))
 (repeat' (first | (refine⟨fun h=>?_,fun h=>?_⟩<;>(repeat (first | simp only[Al]at h | simp only[decide_eq_true_eq]at h | simp only[decide_eq_false_iff_not]at h | simp only[beq_iff_eq]at h | simp only[beq_eq_false_iff_ne]at h | simp only[bne_iff_ne]at h | simp only[bne_eq_false_iff_eq]at h | simp only[Bool.and_eq_true]at h | simp only[Bool.or_eq_true]at h | simp only[Bool.and_eq_false_iff]at h | simp only[Bool.or_eq_false_iff]at h | simp only[Bool.not_eq_true']at h | simp only[Bool.not_eq_false']at h | simp only[Bool.not_eq_eq_eq_not]at h | simp only[Bool.not_true]at h | simp only[Bool.not_false]at h))<;>((first|refine rg ?_|refine rd z_ ?_);(conv=>whnf);repeat((first|refine aF ?_|refine aT ?_);(first|refine rg ?_|refine rd z_ ?_);(conv=>whnf)))) | (refine Au rfl (.cons .tmp .nil) ?_ rfl) | (refine⟨z_,?_⟩;((conv=>whnf);repeat((first|refine aF ?_|refine aT ?_);(first|refine rg ?_|refine rd z_ ?_);(conv=>whnf)))) | (refine⟨by (first | (unfold I64;omega) | omega | (simp only[Int.toNat_natCast];omega) | done),by (first | (unfold I64;omega) | omega | (simp only[Int.toNat_natCast];omega) | done),?_⟩;((conv=>whnf);repeat((first|refine aF ?_|refine aT ?_);(first|refine rg ?_|refine rd z_ ?_);(conv=>whnf)))) | (refine⟨by (first | (unfold I64;omega) | omega | (simp only[Int.toNat_natCast];omega) | done),?_⟩;((conv=>whnf);repeat((first|refine aF ?_|refine aT ?_);(first|refine rg ?_|refine rd z_ ?_);(conv=>whnf)))) | (refine c0 (Uk _ _ hl) F249 ?_;((first|refine rg ?_|refine rd z_ ?_);(conv=>whnf);repeat((first|refine aF ?_|refine aT ?_);(first|refine rg ?_|refine rd z_ ?_);(conv=>whnf)))) | (refine cD (Uk _ _ hl) F249 ?_;((first|refine rg ?_|refine rd z_ ?_);(conv=>whnf);repeat((first|refine aF ?_|refine aT ?_);(first|refine rg ?_|refine rd z_ ?_);(conv=>whnf))))))
 exact congrArg Ab (Iv _ _).symm
theorem ovVniS (n:Net) (hn:n.Fin) (l:LineM) (hl:LineW l):Sy.Spec Tryz.prog 285 [Ap n,Aj l] [] (.tup [Ap (putVni n l).1,Aa (putVni n l).2]) []:=cT F285 Tryz.ntmps285 fun F hF=>by
 have hok:=@beg_ok n l 6
 have hres:=putVni.eq_1 n l
 have q1:=Ij n hn l hl 6
 have qcopy:=Jj n hn
 generalize putVni n l=res at *
 generalize begT n l 6=b at *
 obtain ⟨d,e⟩:=b
 dsimp only at hres hok q1
 by_cases h1:e≠0
 ·have g1:(e != 0)=true:=by rw[bne_iff_ne];exact h1
  rw[if_pos h1]at hres
  subst hres
  refine T ?_
  refine C q1 F346 ?_
  refine Ag 4 (B5 emptyN) E (.cons .nil (.cons .nil (.cons .nil (.cons .nil (.cons .nil (.cons .nil (.cons .nil (.cons .nil .nil)))))))) ?_
  refine T ?_
  exact D
 have g1:(e != 0)=false:=by rw[bne_eq_false_iff_eq];omega
 rw[if_neg h1]at hres
 obtain ⟨_,hr,i,hi,hlt⟩:=hok q_
 subst hi
 clear hok
 have hlt0:((i:Nat):Int).toNat<n.devices.length:=hlt
 have hnth:nth n.devices (i:Int)=n.devices[((i:Nat):Int).toNat]'hlt0:=Ba hlt0
 rw[hnth]at hres
 have q2:=E1 n hn hr (i:Int) l.vlan
 have q3:=L3 n hn (i:Int) l.num
 have hdr:Ca n (i:Int) l.vlan<0∨∃ k:Nat,Ca n (i:Int) l.vlan=k∧k<n.domains.length:=by
  by_cases h:Ca n (i:Int) l.vlan<0
  ·exact .inl h
  ·exact .inr (Ey h)
 generalize Ca n (i:Int) l.vlan=dm at *
 by_cases h2:(n.devices[((i:Nat):Int).toNat]'hlt0).vtep=0
 ·have g2:((n.devices[((i:Nat):Int).toNat]'hlt0).vtep == 0)=true:=by rw[beq_iff_eq];exact h2
  rw[if_pos h2]at hres
  subst hres
  refine T ?_
  refine C q1 F346 ?_
  refine C q2 F168 ?_
  refine Ag 4 (B5 emptyN) E (.cons .nil (.cons .nil (.cons .nil (.cons .nil (.cons .nil (.cons .nil (.cons .nil (.cons .nil .nil)))))))) ?_
  refine T ?_
  exact D
 have g2:((n.devices[((i:Nat):Int).toNat]'hlt0).vtep == 0)=false:=by rw[beq_eq_false_iff_ne];exact h2
 rw[if_neg h2]at hres
 by_cases h3:dm<0
 ·have g3:decide (dm<0)=true:=decide_eq_true h3
  rw[if_pos h3]at hres
  subst hres
  refine T ?_
  refine C q1 F346 ?_
  refine C q2 F168 ?_
  refine Ag 4 (B5 emptyN) E (.cons .nil (.cons .nil (.cons .nil (.cons .nil (.cons .nil (.cons .nil (.cons .nil (.cons .nil .nil)))))))) ?_
  refine T ?_
  exact D
 have g3:decide (dm<0)=false:=decide_eq_false h3
 rw[if_neg h3]at hres
 obtain ⟨k,hk,hkl⟩:=hdr.resolve_left h3
 subst hk
 clear hdr
 have hkl0:((k:Nat):Int).toNat<n.domains.length:=hkl
 have hnd:nth n.domains (k:Int)=n.domains[((k:Nat):Int).toNat]'hkl0:=Ba hkl0
 rw[hnd]at hres
 by_cases h4:(n.domains[((k:Nat):Int).toNat]'hkl0).vni≠0
 ·have g4:((n.domains[((k:Nat):Int).toNat]'hkl0).vni != 0)=true:=by rw[bne_iff_ne];exact h4
  rw[if_pos (.inl h4)]at hres
  subst hres
  refine T ?_
  refine C q1 F346 ?_
  refine C q2 F168 ?_
  refine Ag 4 (B5 emptyN) E (.cons .nil (.cons .nil (.cons .nil (.cons .nil (.cons .nil (.cons .nil (.cons .nil (.cons .nil .nil)))))))) ?_
  refine T ?_
  exact D
 have g4:((n.domains[((k:Nat):Int).toNat]'hkl0).vni != 0)=false:=by rw[bne_eq_false_iff_eq];omega
 by_cases h5:0≤Io n (i:Int) l.num
 ·have g5:decide (Io n (i:Int) l.num≥0)=true:=decide_eq_true h5
  rw[if_pos (.inr h5)]at hres
  subst hres
  refine T ?_
  refine C q1 F346 ?_
  refine C q2 F168 ?_
  refine C q3 F63 ?_
  refine Ag 4 (B5 emptyN) E (.cons .nil (.cons .nil (.cons .nil (.cons .nil (.cons .nil (.cons .nil (.cons .nil (.cons .nil .nil)))))))) ?_
  refine T ?_
  exact D
 have g5:decide (Io n (i:Int) l.num≥0)=false:=decide_eq_false h5
 rw[if_neg (fun h=>h.elim h4 h5)]at hres
 have hne:n.domains≠[]:=fun e=>by rw[e]at hkl;cases hkl
 have hne2:∀ x,n.domains.set ((k:Nat):Int).toNat x≠[]:=fun x e=>by
  have:=congrArg List.length e
  rw[List.length_set]at this
  simp at this;exact hne this
 have hk2:∀ x,((k:Nat):Int).toNat<(n.domains.set ((k:Nat):Int).toNat x).length:=fun x=>by rw[List.length_set];exact hkl0
 have hset:∀ x y,(n.domains.set ((k:Nat):Int).toNat x).set ((k:Nat):Int).toNat y=n.domains.set ((k:Nat):Int).toNat y:=fun x y=>List.set_set ..
 have hget:∀ x,(n.domains.set ((k:Nat):Int).toNat x)[((k:Nat):Int).toNat]'(hk2 x)=x:=fun x=>List.getElem_set_self ..
 rw[← hset (⟨(n.domains[((k:Nat):Int).toNat]'hkl0).dev,(n.domains[((k:Nat):Int).toNat]'hkl0).vlan,l.num,(n.domains[((k:Nat):Int).toNat]'hkl0).irb,(n.domains[((k:Nat):Int).toNat]'hkl0).row,(n.domains[((k:Nat):Int).toNat]'hkl0).peers⟩:Domain) (⟨(n.domains[((k:Nat):Int).toNat]'hkl0).dev,(n.domains[((k:Nat):Int).toNat]'hkl0).vlan,l.num,(n.domains[((k:Nat):Int).toNat]'hkl0).irb,l.row,(n.domains[((k:Nat):Int).toNat]'hkl0).peers⟩:Domain)]at hres
 subst hres
 refine T ?_
 refine C q1 F346 ?_
 refine C q2 F168 ?_
 refine C q3 F63 ?_
 refine X (Ac [(0,901),(1,902),(2,903),(3,904),(4,905),(5,906),(6,907),(7,908)] E F61 qcopy E W E V) ?_
 refine⟨hne,?_⟩
 refine T ?_
 refine⟨(⟨(n.domains[((k:Nat):Int).toNat]'hkl0).dev,(n.domains[((k:Nat):Int).toNat]'hkl0).vlan,l.num,(n.domains[((k:Nat):Int).toNat]'hkl0).irb,(n.domains[((k:Nat):Int).toNat]'hkl0).row,(n.domains[((k:Nat):Int).toNat]'hkl0).peers⟩:Domain),E,E,?_⟩
 refine T ?_
 refine⟨hk2 _,?_⟩
 refine T ?_
 refine⟨hne2 _,?_⟩
 refine T ?_
 refine⟨hk2 _,(⟨(n.domains[((k:Nat):Int).toNat]'hkl0).dev,(n.domains[((k:Nat):Int).toNat]'hkl0).vlan,l.num,(n.domains[((k:Nat):Int).toNat]'hkl0).irb,l.row,(n.domains[((k:Nat):Int).toNat]'hkl0).peers⟩:Domain),by rw[hget];rfl,by rw[hget];rfl,?_⟩
 refine T ?_
 refine Ah 901 E ?_
 refine Ah 902 E ?_
 refine Ah 903 E ?_
 refine Ah 904 E ?_
 refine Ah 905 E ?_
 refine Ah 906 E ?_
 refine Ah 907 E ?_
 refine Ah 908 E ?_
 exact D
theorem Adj (n:Net) (hn:n.Fin) (l:LineM) (hl:LineW l):Sy.Spec Tryz.prog 286 [Ap n,Aj l] [] (.tup [Ap (putFlood n l).1,Aa (putFlood n l).2]) []:=cT F286 Tryz.ntmps286 fun F hF=>by
 have hok:=@beg_ok n l 7
 have hres:=putFlood.eq_1 n l
 have q1:=Ij n hn l hl 7
 have qcopy:=Jj n hn
 generalize putFlood n l=res at *
 generalize begT n l 7=b at *
 obtain ⟨d,e⟩:=b
 dsimp only at hres hok q1
 by_cases h1:e≠0
 ·have g1:(e != 0)=true:=by rw[bne_iff_ne];exact h1
  rw[if_pos h1]at hres
  subst hres
  refine T ?_
  refine C q1 F346 ?_
  refine Ag 4 (B5 emptyN) E (.cons .nil (.cons .nil (.cons .nil (.cons .nil (.cons .nil (.cons .nil (.cons .nil (.cons .nil .nil)))))))) ?_
  refine T ?_
  exact D
 have g1:(e != 0)=false:=by rw[bne_eq_false_iff_eq];omega
 rw[if_neg h1]at hres
 obtain ⟨_,hr,i,hi,hlt⟩:=hok q_
 subst hi
 clear hok
 have hlt0:((i:Nat):Int).toNat<n.devices.length:=hlt
 have hnth:nth n.devices (i:Int)=n.devices[((i:Nat):Int).toNat]'hlt0:=Ba hlt0
 rw[hnth]at hres
 have hla:=hl.fin.a
 have q2:=L3 n hn (i:Int) l.num
 have q3:=Va n hn (i:Int) l.num
 have q4:=Jk l.addrs (n.devices[((i:Nat):Int).toNat]'hlt0).vtep (by unfold Ar;omega)
 have q5:=Uu l.addrs q_
 generalize Io n (i:Int) l.num=v2 at *
 generalize Dv n (i:Int) l.num=v3 at *
 generalize inB l.addrs (n.devices[((i:Nat):Int).toNat]'hlt0).vtep=v4 at *
 by_cases h2:v2<0
 ·have g2:decide (v2<0)=true:=decide_eq_true h2
  rw[if_pos h2]at hres
  subst hres
  refine T ?_
  refine C q1 F346 ?_
  refine C q2 F63 ?_
  refine Ag 4 (B5 emptyN) E (.cons .nil (.cons .nil (.cons .nil (.cons .nil (.cons .nil (.cons .nil (.cons .nil (.cons .nil .nil)))))))) ?_
  refine T ?_
  exact D
 have g2:decide (v2<0)=false:=decide_eq_false h2
 rw[if_neg h2]at hres
 by_cases h3:0≤v3
 ·have g3:decide (v3≥0)=true:=decide_eq_true h3
  rw[if_pos h3]at hres
  subst hres
  refine T ?_
  refine C q1 F346 ?_
  refine C q2 F63 ?_
  refine C q3 F62 ?_
  refine Ag 4 (B5 emptyN) E (.cons .nil (.cons .nil (.cons .nil (.cons .nil (.cons .nil (.cons .nil (.cons .nil (.cons .nil .nil)))))))) ?_
  refine T ?_
  exact D
 have g3:decide (v3≥0)=false:=decide_eq_false h3
 rw[if_neg h3]at hres
 cases v4 with
 | true =>
  rw[if_pos rfl]at hres
  subst hres
  refine T ?_
  refine C q1 F346 ?_
  refine C q2 F63 ?_
  refine C q3 F62 ?_
  refine C q4 F150 ?_
  refine Ag 4 (B5 emptyN) E (.cons .nil (.cons .nil (.cons .nil (.cons .nil (.cons .nil (.cons .nil (.cons .nil (.cons .nil .nil)))))))) ?_
  refine T ?_
  exact D
 | false =>
  rw[if_neg y_]at hres
  by_cases h5:n.floods.length=48
  ·have g5:((n.floods.length:Int) == 48)=true:=by rw[beq_iff_eq];omega
   rw[if_pos h5]at hres
   subst hres
   refine T ?_
   refine C q1 F346 ?_
   refine C q2 F63 ?_
   refine C q3 F62 ?_
   refine C q4 F150 ?_
   refine Ag 4 (B5 emptyN) E (.cons .nil (.cons .nil (.cons .nil (.cons .nil (.cons .nil (.cons .nil (.cons .nil (.cons .nil .nil)))))))) ?_
   refine T ?_
   exact D
  have g5:((n.floods.length:Int) == 48)=false:=by rw[beq_eq_false_iff_ne];omega
  rw[if_neg h5]at hres
  subst hres
  have hfl:n.floods.length<2147483648:=hn.floods
  refine T ?_
  refine C q1 F346 ?_
  refine C q2 F63 ?_
  refine C q3 F62 ?_
  refine C q4 F150 ?_
  refine X (Ac [(0,901),(1,902),(2,903),(3,904),(4,905),(5,906),(6,907),(7,908)] E F61 qcopy E W E V) ?_
  refine C q5 F160 ?_
  refine Xd (An Γ.toTy 66 E E E E E (.row E) (.lit (e:=Aw) (l:=[(⟨l.row,(i:Int),l.num,l.addrs⟩:Flood)]) E E) j_ (by simp only[List.length_singleton];omega) (by simp only[List.length_singleton];omega)) ?_
  refine T ?_
  refine Ah 901 E ?_
  refine Ah 902 E ?_
  refine Ah 903 E ?_
  refine Ah 904 E ?_
  refine Ah 905 E ?_
  refine Ah 66 E ?_
  refine Ah 907 E ?_
  refine Ah 908 E ?_
  exact D
theorem Ae8 (n:Net) (hn:n.Fin) (l:LineM) (hl:LineW l):Sy.Spec Tryz.prog 287 [Ap n,Aj l] [] (.tup [Ap (putVrf n l).1,Aa (putVrf n l).2]) []:=cT F287 Tryz.ntmps287 fun F hF=>by
 have hok:=@beg_ok n l 8
 have hres:=putVrf.eq_1 n l
 have q1:=Qt n hn l hl 8
 have qcopy:=Jj n hn
 generalize putVrf n l=res at *
 generalize begT n l 8=b at *
 obtain ⟨d,e⟩:=b
 dsimp only at hres hok q1
 by_cases h1:e≠0
 ·have g1:(e != 0)=true:=by rw[bne_iff_ne];exact h1
  rw[if_pos h1]at hres
  subst hres
  refine T ?_
  refine C q1 F347 ?_
  refine Ag 4 (B5 emptyN) E (.cons .nil (.cons .nil (.cons .nil (.cons .nil (.cons .nil (.cons .nil (.cons .nil (.cons .nil .nil)))))))) ?_
  refine T ?_
  exact D
 have g1:(e != 0)=false:=by rw[bne_eq_false_iff_eq];omega
 rw[if_neg h1]at hres
 obtain ⟨_,hr,i,hi,hlt⟩:=hok q_
 subst hi
 clear hok
 have hlt0:((i:Nat):Int).toNat<n.devices.length:=hlt
 have hnth:nth n.devices (i:Int)=n.devices[((i:Nat):Int).toNat]'hlt0:=Ba hlt0
 clear hnth
 have hli:=hl.fin.i
 have hle:=hl.fin.e
 have q2:=Uf n hn hr (i:Int) l.name
 have q5:=Ez l.imports q_
 have q6:=Ez l.exports q_
 have hfl:n.vrfs.length<2147483648:=hn.vrfs
 generalize U1 n (i:Int) l.name=v2 at *
 by_cases h2:0≤v2
 ·have g2:decide (v2≥0)=true:=decide_eq_true h2
  rw[if_pos h2]at hres
  subst hres
  refine T ?_
  refine C q1 F347 ?_
  refine C q2 F348 ?_
  refine Ag 4 (B5 emptyN) E (.cons .nil (.cons .nil (.cons .nil (.cons .nil (.cons .nil (.cons .nil (.cons .nil (.cons .nil .nil)))))))) ?_
  refine T ?_
  exact D
 have g2:decide (v2≥0)=false:=decide_eq_false h2
 rw[if_neg h2]at hres
 by_cases h5:n.vrfs.length=16
 ·have g5:((n.vrfs.length:Int) == 16)=true:=by rw[beq_iff_eq];omega
  rw[if_pos h5]at hres
  subst hres
  refine T ?_
  refine C q1 F347 ?_
  refine C q2 F348 ?_
  refine Ag 4 (B5 emptyN) E (.cons .nil (.cons .nil (.cons .nil (.cons .nil (.cons .nil (.cons .nil (.cons .nil (.cons .nil .nil)))))))) ?_
  refine T ?_
  exact D
 have g5:((n.vrfs.length:Int) == 16)=false:=by rw[beq_eq_false_iff_ne];omega
 rw[if_neg h5]at hres
 subst hres
 refine T ?_
 refine C q1 F347 ?_
 refine C q2 F348 ?_
 refine X (Ac [(0,901),(1,902),(2,903),(3,904),(4,905),(5,906),(6,907),(7,908)] E F61 qcopy E W E V) ?_
 refine C q5 F159 ?_
 refine C q6 F159 ?_
 refine Xd (An Γ.toTy 51 E E E E E (.row E) (.lit (e:=Bn) (l:=[(⟨l.row,(i:Int),l.name,l.imports,l.exports⟩:Vrf)]) E E) j_ (by simp only[List.length_singleton];omega) (by simp only[List.length_singleton];omega)) ?_
 refine T ?_
 refine Ah 901 E ?_
 refine Ah 902 E ?_
 refine Ah 903 E ?_
 refine Ah 904 E ?_
 refine Ah 905 E ?_
 refine Ah 906 E ?_
 refine Ah 51 E ?_
 refine Ah 908 E ?_
 exact D
theorem Ud {a b x:Int} (hb:0≤b∧b≤32) (ha:0≤a∧a<4294967296) (hx:0≤x∧x<4294967296):Afs a b x=My a b x:=by
 obtain ⟨y,rfl⟩:=Int.eq_ofNat_of_zero_le ha.1
 obtain ⟨z,rfl⟩:=Int.eq_ofNat_of_zero_le hx.1
 obtain ⟨k,hk,hk2⟩:∃ k:Nat,(32-b).toNat=k∧k≤32:=⟨_,rfl,by omega⟩
 have hq:0<2 ^ k:=Nat.two_pow_pos k
 rw[Afs,Abl b hb,hk,masked y z k q_ q_ hk2,My,decide_eq_true hb.1,decide_eq_true hb.2,Bool.true_and,Bool.true_and,Jh y k b hb hk,Jh z k b hb hk]
 generalize 2 ^ k=q at *
 have h1:=Nat.div_add_mod y q
 have h2:=Nat.div_add_mod z q
 have e1:y-y % q=q * (y / q):=by omega
 have e2:z-z % q=q * (z / q):=by omega
 rw[e1,e2,Bool.eq_iff_iff,decide_eq_true_eq,beq_iff_eq]
 constructor
 ·intro h;rw[h]
 ·intro h
  exact Nat.eq_of_mul_eq_mul_left hq (by exact_mod_cast h)
theorem clashS (n:Net) (x:Irb) (hv:0≤x.vrf∧x.vrf.toNat<n.vrfs.length) (hb:0≤x.bits∧x.bits≤32) (hx:0≤x.addr∧x.addr<4294967296) (dev a b:Int) (ha:0≤a∧a<4294967296) (hb2:0≤b∧b≤32) :
  Sy.Spec Tryz.prog 350 [Ap n,Bw x,Aa dev,Aal a b] [] (Ab (clashB n dev a b x)) []:=cT F350 Tryz.ntmps350 fun F hF=>by
 have q1:=X2 x.addr x.bits a hb
 have q2:=X2 a b x.addr hb2
 rw[Ud hb hx ha]at q1
 rw[Ud hb2 ha hx]at q2
 have hc:=clashB.eq_1 n dev a b x
 have hv0:=hv.2
 rw[Ba hv0]at hc
 generalize clashB n dev a b x=r at *
 generalize My x.addr x.bits a=p1 at *
 generalize My a b x.addr=p2 at *
 cases h1:(x.addr == a) with
 | true =>
  rw[h1,Bool.true_or]at hc
  subst hc
  refine T ?_
  exact D
 | false =>
  rw[h1,Bool.false_or]at hc
  cases h2:((n.vrfs[x.vrf.toNat]'hv0).dev != dev) with
  | false =>
   rw[h2,Bool.false_and]at hc
   subst hc
   refine T ?_
   exact D
  | true =>
   rw[h2,Bool.true_and]at hc
   cases p1 with
   | true =>
    rw[Bool.true_or]at hc
    subst hc
    refine T ?_
    refine C q1 F383 ?_
    exact D
   | false =>
    rw[Bool.false_or]at hc
    subst hc
    refine T ?_
    refine C q1 F383 ?_
    refine C q2 F383 ?_
    exact D
theorem irbC (n:Net) (x:Irb) (hv:0≤x.vrf∧x.vrf.toNat<n.vrfs.length) (hb:0≤x.bits∧x.bits≤32) (hx:0≤x.addr∧x.addr<4294967296) (dev:Int) (l:LineM) (ha:0≤l.addr∧l.addr<4294967296) (hb2:0≤l.bits∧l.bits≤32) :
  Sy.Spec Tryz.prog 349 [Bw x,.ref 8 (Ap n) 0,.ref 1 (Aa dev) 0,.ref 17 (Aj l) 0] [] (Ab (clashB n dev l.addr l.bits x)) []:=cT F349 Tryz.ntmps349 fun F hF=>by
 have q:=clashS n x hv hb hx dev l.addr l.bits ha hb2
 generalize clashB n dev l.addr l.bits x=r at *
 refine T ?_
 refine C q F350 ?_
 exact D
theorem Zs {n:Net} {l:LineM} {k:Int} (h:fitsB n l k=true):l.kind=k∧Bp l=true∧Ae n=true:=by
 unfold fitsB at h
 simp only[Bool.and_eq_true,beq_iff_eq]at h
 exact⟨h.1,h.2.1,h.2.2⟩
theorem Y1 {l:LineM} (h:Bp l=true) (hk:l.kind=9):0≤l.bits∧l.bits≤32:=by
 rw[Bp,Bool.and_eq_true]at h
 have:=h.1
 simp[Az,hk]at this
 have:=Jr this.2.2
 omega
theorem Afr (n:Net) (hn:n.Fin) (ha:Hk n) (l:LineM) (hl:LineW l):Sy.Spec Tryz.prog 288 [Ap n,Aj l] [] (.tup [Ap (putIrb n l).1,Aa (putIrb n l).2]) []:=cT F288 Tryz.ntmps288 fun F hF=>by
 have hok:=@beg_ok n l 9
 have hres:=putIrb.eq_1 n l
 have q1:=Qt n hn l hl 9
 have qcopy:=Jj n hn
 generalize putIrb n l=res at *
 generalize begT n l 9=b at *
 obtain ⟨d,e⟩:=b
 dsimp only at hres hok q1
 by_cases h1:e≠0
 ·have g1:(e != 0)=true:=by rw[bne_iff_ne];exact h1
  rw[if_pos h1]at hres
  subst hres
  refine T ?_
  refine C q1 F347 ?_
  refine Ag 4 (B5 emptyN) E (.cons .nil (.cons .nil (.cons .nil (.cons .nil (.cons .nil (.cons .nil (.cons .nil (.cons .nil .nil)))))))) ?_
  refine T ?_
  exact D
 have g1:(e != 0)=false:=by rw[bne_eq_false_iff_eq];omega
 rw[if_neg h1]at hres
 obtain ⟨hfit,hr,i,hi,hlt⟩:=hok q_
 subst hi
 clear hok
 have hlt0:((i:Nat):Int).toNat<n.devices.length:=hlt
 have hnth:nth n.devices (i:Int)=n.devices[((i:Nat):Int).toNat]'hlt0:=Ba hlt0
 clear hnth
 obtain ⟨hk9,hrl,_⟩:=Zs hfit
 have hbits:=Y1 hrl hk9
 have q2:=Uf n hn hr (i:Int) l.name
 have q3:=E1 n hn hr (i:Int) l.vlan
 have hirb:∀ x∈n.irbs,(0≤x.vrf∧x.vrf.toNat<n.vrfs.length)∧(0≤x.bits∧x.bits≤32):=fun x hx=>by
  obtain ⟨j,hj,rfl⟩:=List.getElem_of_mem hx
  have:=e_irb hr hj
  simp only[Vm,Al,Bool.and_eq_true,decide_eq_true_eq]at this
  omega
 have qc:=Mk n.irbs (clashB n (i:Int) l.addr l.bits) 349 [] [.ref 8 (Ap n) 0,.ref 1 (Aa (i:Int)) 0,.ref 17 (Aj l) 0] rfl (fun x hx=>⟨⟨_,_,F349⟩,irbC n x (hirb x hx).1 (hirb x hx).2 (ha x hx) (i:Int) l hl.ok.addr hbits⟩) hn.irbs
 rw[Iv]at qc
 have hdr:Ca n (i:Int) l.vlan<0∨∃ k:Nat,Ca n (i:Int) l.vlan=k∧k<n.domains.length:=by
  by_cases h:Ca n (i:Int) l.vlan<0
  ·exact .inl h
  ·exact .inr (Ey h)
 generalize U1 n (i:Int) l.name=v2 at *
 generalize Ca n (i:Int) l.vlan=dm at *
 generalize n.irbs.any (clashB n (i:Int) l.addr l.bits)=cl at *
 by_cases h2:v2<0
 ·have g2:decide (v2<0)=true:=decide_eq_true h2
  rw[if_pos h2]at hres
  subst hres
  refine T ?_
  refine C q1 F347 ?_
  refine C q2 F348 ?_
  refine C q3 F168 ?_
  refine Ag 4 (B5 emptyN) E (.cons .nil (.cons .nil (.cons .nil (.cons .nil (.cons .nil (.cons .nil (.cons .nil (.cons .nil .nil)))))))) ?_
  refine T ?_
  exact D
 have g2:decide (v2<0)=false:=decide_eq_false h2
 rw[if_neg h2]at hres
 by_cases h3:dm<0
 ·have g3:decide (dm<0)=true:=decide_eq_true h3
  rw[if_pos h3]at hres
  subst hres
  refine T ?_
  refine C q1 F347 ?_
  refine C q2 F348 ?_
  refine C q3 F168 ?_
  refine Ag 4 (B5 emptyN) E (.cons .nil (.cons .nil (.cons .nil (.cons .nil (.cons .nil (.cons .nil (.cons .nil (.cons .nil .nil)))))))) ?_
  refine T ?_
  exact D
 have g3:decide (dm<0)=false:=decide_eq_false h3
 rw[if_neg h3]at hres
 obtain ⟨k,hk,hkl⟩:=hdr.resolve_left h3
 subst hk
 clear hdr
 have hkl0:((k:Nat):Int).toNat<n.domains.length:=hkl
 have hnd:nth n.domains (k:Int)=n.domains[((k:Nat):Int).toNat]'hkl0:=Ba hkl0
 rw[hnd]at hres
 by_cases h4:0≤(n.domains[((k:Nat):Int).toNat]'hkl0).irb
 ·have g4:decide ((n.domains[((k:Nat):Int).toNat]'hkl0).irb≥0)=true:=decide_eq_true h4
  rw[if_pos (.inl h4)]at hres
  subst hres
  refine T ?_
  refine C q1 F347 ?_
  refine C q2 F348 ?_
  refine C q3 F168 ?_
  refine Ag 4 (B5 emptyN) E (.cons .nil (.cons .nil (.cons .nil (.cons .nil (.cons .nil (.cons .nil (.cons .nil (.cons .nil .nil)))))))) ?_
  refine T ?_
  exact D
 have g4:decide ((n.domains[((k:Nat):Int).toNat]'hkl0).irb≥0)=false:=decide_eq_false h4
 cases cl with
 | true =>
  rw[if_pos (.inr rfl)]at hres
  subst hres
  refine T ?_
  refine C q1 F347 ?_
  refine C q2 F348 ?_
  refine C q3 F168 ?_
  refine Bk 2 8 (Ap n) E E E ?_
  refine Bk 3 17 (Aj l) E E E ?_
  refine Bk 6 1 (Aa (i:Int)) E E E ?_
  refine C qc F263 ?_
  refine Ag 4 (B5 emptyN) E (.cons .nil (.cons .nil (.cons .nil (.cons .nil (.cons .nil (.cons .nil (.cons .nil (.cons .nil .nil)))))))) ?_
  refine T ?_
  exact D
 | false =>
  rw[if_neg (fun h=>h.elim h4 y_)]at hres
  subst hres
  have hne:n.domains≠[]:=fun e=>by rw[e]at hkl;cases hkl
  have hfl:n.irbs.length<2147483648:=hn.irbs
  refine T ?_
  refine C q1 F347 ?_
  refine C q2 F348 ?_
  refine C q3 F168 ?_
  refine Bk 2 8 (Ap n) E E E ?_
  refine Bk 3 17 (Aj l) E E E ?_
  refine Bk 6 1 (Aa (i:Int)) E E E ?_
  refine C qc F263 ?_
  refine X (Ac [(0,901),(1,902),(2,903),(3,904),(4,905),(5,906),(6,907),(7,908)] E F61 qcopy E W E V) ?_
  refine⟨hne,?_⟩
  refine T ?_
  refine⟨(⟨(n.domains[((k:Nat):Int).toNat]'hkl0).dev,(n.domains[((k:Nat):Int).toNat]'hkl0).vlan,(n.domains[((k:Nat):Int).toNat]'hkl0).vni,(n.irbs.length:Int),(n.domains[((k:Nat):Int).toNat]'hkl0).row,(n.domains[((k:Nat):Int).toNat]'hkl0).peers⟩:Domain),E,E,?_⟩
  refine T ?_
  refine X (An Γ.toTy 77 E E E E E (.row E) (.lit (e:=Bw) (l:=[(⟨l.row,(k:Int),v2,l.addr,l.bits⟩:Irb)]) E E) j_ (by simp only[List.length_singleton];omega) (by simp only[List.length_singleton];omega)) ?_
  refine Ah 901 E ?_
  refine Ah 902 E ?_
  refine Ah 903 E ?_
  refine Ah 904 E ?_
  refine Ah 905 E ?_
  refine Ah 906 E ?_
  refine Ah 907 E ?_
  refine Ah 77 E ?_
  exact D
theorem L8 (l:List Static) (p:Static→Bool) (f:FuncId) (first cap:List SV) (hc:(SV.clo (.func f) first cap).inn []=true) (hf:∀ x∈l,Et Tryz.prog f (first++[A0 x]++cap) (Ab (p x))) (hl:Ar l) :
  Sy.Spec Tryz.prog 412 [.sl 4 A0 l,.clo (.func f) first cap] [] (Aa (Bv p l)) []:=cT F412 Tryz.ntmps412 fun F hF=>by
 unfold Ar at hl
 have hin:∀ x:Static,Bz [] (first++[A0 x]++cap)=true:=fun x=>C5 hc rfl
 ((conv=>whnf);repeat((first|refine aF ?_|refine aT ?_);(first|refine rG Γ hm ?_|refine rD Γ hm z_ ?_);conv=>whnf))
 refine A9 l.length (fun j=>Ev (fun _ x=>!(p x)) l j) (fun j=>[(0,.sl 4 A0 l),(1,.clo (.func f) first cap),(7,Aa l.length),(8,Aa j)]) (fun _=>[]) [] (Bf _ _) ⟨⟨E,E,Bh _,hc,E,E,E,E,Y⟩,Y,E,E⟩ ?_
 intro j hj hI
 ((first|refine rG Γ hm ?_|refine rD Γ hm z_ ?_);(conv=>whnf);repeat((first|refine aF ?_|refine aT ?_);(first|refine rG Γ hm ?_|refine rD Γ hm z_ ?_);conv=>whnf))
 refine⟨fun h=>?_,fun h=>?_⟩
 ·have h:=of_decide_eq_true h
  have hj2:j<l.length:=by omega
  ((first|refine rG Γ hm ?_|refine rD Γ hm z_ ?_);(conv=>whnf);repeat((first|refine aF ?_|refine aT ?_);(first|refine rG Γ hm ?_|refine rD Γ hm z_ ?_);conv=>whnf))
  refine⟨E,by omega,by omega,?_⟩
  ((conv=>whnf);repeat((first|refine aF ?_|refine aT ?_);(first|refine rG Γ hm ?_|refine rD Γ hm z_ ?_);conv=>whnf))
  refine D5 (hf l[j] (List.getElem_mem hj2)) E E E (by simp only[hin];rfl) E E ?_
  ((first|refine rG Γ hm ?_|refine rD Γ hm z_ ?_);(conv=>whnf);repeat((first|refine aF ?_|refine aT ?_);(first|refine rG Γ hm ?_|refine rD Γ hm z_ ?_);conv=>whnf))
  refine⟨fun h2=>?_,fun h2=>?_⟩
  ·((first|refine rG Γ hm ?_|refine rD Γ hm z_ ?_);(conv=>whnf);repeat((first|refine aF ?_|refine aT ?_);(first|refine rG Γ hm ?_|refine rD Γ hm z_ ?_);conv=>whnf))
   refine Au E (.cons .tmp .nil) (congrArg Aa ?_) E
   exact Cs hj2 (fun i hi hij=>by simpa using hI i hi hij) h2
  ·((first|refine rG Γ hm ?_|refine rD Γ hm z_ ?_);(conv=>whnf);repeat((first|refine aF ?_|refine aT ?_);(first|refine rG Γ hm ?_|refine rD Γ hm z_ ?_);conv=>whnf))
   refine iL ?_
   ((conv=>whnf);repeat((first|refine aF ?_|refine aT ?_);(first|refine rG Γ hm ?_|refine rD Γ hm z_ ?_);conv=>whnf))
   exact Be [] hI hj2 (Bb hI hj2 (by simp[h2])) ⟨⟨E,E,Bh _,hc,E,E,E,E,Y⟩,Y,E,E⟩
 ·have h:=of_decide_eq_false h
  ((first|refine rG Γ hm ?_|refine rD Γ hm z_ ?_);(conv=>whnf);repeat((first|refine aF ?_|refine aT ?_);(first|refine rG Γ hm ?_|refine rD Γ hm z_ ?_);conv=>whnf))
  refine Au E (.cons .tmp .nil) (congrArg Aa ?_) E
  exact Ds (fun i hi=>by simpa using hI i hi q_)
theorem Ads (dom m:Int) (s:Static):Sy.Spec Tryz.prog 413 [A0 s,.ref 1 (Aa dom) 0,.ref 1 (D1 m) 0] [] (Ab (s.domain == dom && s.mac == m)) []:=cT F413 Tryz.ntmps413 fun F hF=>by
 cases h:(s.domain == dom)
 ·refine T ?_
  exact D
 ·refine T ?_
  exact D
theorem Adr (n:Net) (hn:n.Fin) (dom m:Int):Sy.Spec Tryz.prog 345 [Ap n,Aa dom,D1 m] [] (Aa (Vy n dom m)) []:=cT F345 Tryz.ntmps345 fun F hF=>by
 have q:=L8 n.statics (fun s:Static=>s.domain == dom && s.mac == m) 413 [] [.ref 1 (Aa dom) 0,.ref 1 (D1 m) 0] rfl (fun x _=>⟨⟨_,_,F413⟩,Ads dom m x⟩) hn.statics
 ((conv=>whnf);repeat((first|refine aF ?_|refine aT ?_);(first|refine rG Γ hm ?_|refine rD Γ hm z_ ?_);conv=>whnf))
 refine Bk 4 1 (Aa dom) E E E ?_
 refine Bk 5 1 (D1 m) E E E ?_
 refine c0 q F412 ?_
 ((first|refine rG Γ hm ?_|refine rD Γ hm z_ ?_);(conv=>whnf);repeat((first|refine aF ?_|refine aT ?_);(first|refine rG Γ hm ?_|refine rD Γ hm z_ ?_);conv=>whnf))
 exact dN
theorem Yw (n:Net) (hn:n.Fin) (l:LineM) (hl:LineW l):Sy.Spec Tryz.prog 283 [Ap n,Aj l] [] (.tup [Ap (putStatic n l).1,Aa (putStatic n l).2]) []:=cT F283 Tryz.ntmps283 fun F hF=>by
 have qr:=Ew l hl
 have qn:=Bl n hn
 have qcopy:=Jj n hn
 have hres:=putStatic.eq_1 n l
 dsimp only at hres
 have hf:=fitsB.eq_1 n l 4
 generalize putStatic n l=res at *
 generalize fitsB n l 4=f at *
 cases h1:(l.kind == 4) with
 | false =>
  have g1:(l.kind != 4)=true:=by rw[bne,h1];rfl
  rw[h1,Bool.false_and]at hf
  rw[hf,if_pos rfl]at hres
  subst hres
  refine T ?_
  refine Ag 4 (B5 emptyN) E (.cons .nil (.cons .nil (.cons .nil (.cons .nil (.cons .nil (.cons .nil (.cons .nil (.cons .nil .nil)))))))) ?_
  refine T ?_
  exact D
 | true =>
 have g1:(l.kind != 4)=false:=by rw[bne,h1];rfl
 rw[h1,Bool.true_and]at hf
 cases h2:Bp l with
 | false =>
  rw[h2]at qr hf
  rw[hf,Bool.false_and,if_pos rfl]at hres
  subst hres
  refine T ?_
  refine C qr F343 ?_
  refine Ag 4 (B5 emptyN) E (.cons .nil (.cons .nil (.cons .nil (.cons .nil (.cons .nil (.cons .nil (.cons .nil (.cons .nil .nil)))))))) ?_
  refine T ?_
  exact D
 | true =>
 rw[h2]at qr hf
 cases hr:Ae n with
 | false =>
  rw[hr]at qn hf
  rw[hf,Bool.and_false,if_pos rfl]at hres
  subst hres
  refine T ?_
  refine C qr F343 ?_
  refine C qn F25 ?_
  refine Ag 4 (B5 emptyN) E (.cons .nil (.cons .nil (.cons .nil (.cons .nil (.cons .nil (.cons .nil (.cons .nil (.cons .nil .nil)))))))) ?_
  refine T ?_
  exact D
 | true =>
 rw[hr]at qn hf
 rw[hf,if_neg y_]at hres
 have q1:=Ej n hn hr l.dev
 have q2:=Lk n hn hr (Bm n l.dev) l.port
 have q3:=E1 n hn hr (Bm n l.dev) l.vlan
 have q5:=Adr n hn (Ca n (Bm n l.dev) l.vlan) l.mac
 have hpr:Lj n (Bm n l.dev) l.port<0∨∃ k:Nat,Lj n (Bm n l.dev) l.port=k∧k<n.ports.length:=by
  by_cases h:Lj n (Bm n l.dev) l.port<0
  ·exact .inl h
  ·exact .inr (Ey h)
 have hfl:n.statics.length<2147483648:=hn.statics
 generalize Lj n (Bm n l.dev) l.port=pt at *
 generalize Ca n (Bm n l.dev) l.vlan=dm at *
 generalize Bm n l.dev=dv at *
 generalize Vy n dm l.mac=en at *
 by_cases h3:dv<0
 ·have g3:decide (dv<0)=true:=decide_eq_true h3
  rw[if_pos (.inl h3)]at hres
  subst hres
  refine T ?_
  refine C qr F343 ?_
  refine C qn F25 ?_
  refine C q1 F340 ?_
  refine C q2 F341 ?_
  refine C q3 F168 ?_
  refine Ag 4 (B5 emptyN) E (.cons .nil (.cons .nil (.cons .nil (.cons .nil (.cons .nil (.cons .nil (.cons .nil (.cons .nil .nil)))))))) ?_
  refine T ?_
  exact D
 have g3:decide (dv<0)=false:=decide_eq_false h3
 by_cases h4:pt<0
 ·have g4:decide (pt<0)=true:=decide_eq_true h4
  rw[if_pos (.inr h4)]at hres
  subst hres
  refine T ?_
  refine C qr F343 ?_
  refine C qn F25 ?_
  refine C q1 F340 ?_
  refine C q2 F341 ?_
  refine C q3 F168 ?_
  refine Ag 4 (B5 emptyN) E (.cons .nil (.cons .nil (.cons .nil (.cons .nil (.cons .nil (.cons .nil (.cons .nil (.cons .nil .nil)))))))) ?_
  refine T ?_
  exact D
 have g4:decide (pt<0)=false:=decide_eq_false h4
 rw[if_neg (fun h=>h.elim h3 h4)]at hres
 obtain ⟨p,hp,hpl⟩:=hpr.resolve_left h4
 subst hp
 clear hpr
 have hp0:((p:Nat):Int).toNat<n.ports.length:=hpl
 have hnp:nth n.ports (p:Int)=n.ports[((p:Nat):Int).toNat]'hp0:=Ba hp0
 rw[hnp]at hres
 by_cases h5:dm<0
 ·have g5:decide (dm<0)=true:=decide_eq_true h5
  rw[if_pos (.inl h5)]at hres
  subst hres
  refine T ?_
  refine C qr F343 ?_
  refine C qn F25 ?_
  refine C q1 F340 ?_
  refine C q2 F341 ?_
  refine C q3 F168 ?_
  refine Ag 4 (B5 emptyN) E (.cons .nil (.cons .nil (.cons .nil (.cons .nil (.cons .nil (.cons .nil (.cons .nil (.cons .nil .nil)))))))) ?_
  refine T ?_
  exact D
 have g5:decide (dm<0)=false:=decide_eq_false h5
 have q4:=Vh (n.ports[((p:Nat):Int).toNat]'hp0) l.vlan (hn.tagged _ (List.getElem_mem hp0))
 cases hb:Cw (n.ports[((p:Nat):Int).toNat]'hp0) l.vlan with
 | false =>
  rw[hb]at q4
  rw[if_pos (.inr hb)]at hres
  subst hres
  refine T ?_
  refine C qr F343 ?_
  refine C qn F25 ?_
  refine C q1 F340 ?_
  refine C q2 F341 ?_
  refine C q3 F168 ?_
  refine C q4 F179 ?_
  refine Ag 4 (B5 emptyN) E (.cons .nil (.cons .nil (.cons .nil (.cons .nil (.cons .nil (.cons .nil (.cons .nil (.cons .nil .nil)))))))) ?_
  refine T ?_
  exact D
 | true =>
 rw[hb]at q4
 rw[if_neg (fun h=>h.elim h5 (by rw[hb];simp))]at hres
 by_cases h6:0≤en
 ·have g6:decide (en≥0)=true:=decide_eq_true h6
  rw[if_pos h6]at hres
  subst hres
  refine T ?_
  refine C qr F343 ?_
  refine C qn F25 ?_
  refine C q1 F340 ?_
  refine C q2 F341 ?_
  refine C q3 F168 ?_
  refine C q4 F179 ?_
  refine C q5 F345 ?_
  refine Ag 4 (B5 emptyN) E (.cons .nil (.cons .nil (.cons .nil (.cons .nil (.cons .nil (.cons .nil (.cons .nil (.cons .nil .nil)))))))) ?_
  refine T ?_
  exact D
 have g6:decide (en≥0)=false:=decide_eq_false h6
 rw[if_neg h6]at hres
 by_cases h7:n.statics.length=64
 ·have g7:((n.statics.length:Int) == 64)=true:=by rw[beq_iff_eq];omega
  rw[if_pos h7]at hres
  subst hres
  refine T ?_
  refine C qr F343 ?_
  refine C qn F25 ?_
  refine C q1 F340 ?_
  refine C q2 F341 ?_
  refine C q3 F168 ?_
  refine C q4 F179 ?_
  refine C q5 F345 ?_
  refine Ag 4 (B5 emptyN) E (.cons .nil (.cons .nil (.cons .nil (.cons .nil (.cons .nil (.cons .nil (.cons .nil (.cons .nil .nil)))))))) ?_
  refine T ?_
  exact D
 have g7:((n.statics.length:Int) == 64)=false:=by rw[beq_eq_false_iff_ne];omega
 rw[if_neg h7]at hres
 subst hres
 refine T ?_
 refine C qr F343 ?_
 refine C qn F25 ?_
 refine C q1 F340 ?_
 refine C q2 F341 ?_
 refine C q3 F168 ?_
 refine C q4 F179 ?_
 refine C q5 F345 ?_
 refine X (Ac [(0,901),(1,902),(2,903),(3,904),(4,905),(5,906),(6,907),(7,908)] E F61 qcopy E W E V) ?_
 refine X (An Γ.toTy 87 E E E E E (.row E) (.lit (e:=A0) (l:=[(⟨l.row,dm,(p:Int),l.mac⟩:Static)]) E E) j_ (by simp only[List.length_singleton];omega) (by simp only[List.length_singleton];omega)) ?_
 refine Ah 901 E ?_
 refine Ah 902 E ?_
 refine Ah 903 E ?_
 refine Ah 904 E ?_
 refine Ah 87 E ?_
 refine Ah 906 E ?_
 refine Ah 907 E ?_
 refine Ah 908 E ?_
 exact D
end Go.Sy.YtjenpnjajjplkaaGreatDoor
