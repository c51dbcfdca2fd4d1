/-
  I38 I40 I42 I43 I44 I45 Sy23 O1 O6 I46 I20 I21 NB0 NB1 NB2 E20 E22 E23 E24 NB14 NB15 NB3 NB4 I26 NB5: parts of a proof, joined by program.
-/
import Derived.Test.YtdkfcckkkfghgaaGreatDoorXQ5
import Derived.Test.YtdkfcckkkfghgaaGreatDoorXQ4
import Derived.Test.YtdkfcckkkfghgaaGreatDoorXQ6
import Derived.Test.YtdkfcckkkfghgaaGreatDoorXQ3
set_option linter.all false
set_option linter.unusedVariables false
set_option linter.unusedSimpArgs false
set_option linter.deprecated false
namespace Go.Sy.YtdkfcckkkfghgaaGreatDoor
open Go.Proofs
attribute [local irreducible] Go.Sy.G Go.Sy.DR
set_option maxRecDepth 100000
set_option maxHeartbeats 4000000
def Q0 (x:LineM):List Int:=[(x.dev.size:Int),(x.port.size:Int),(x.peer.size:Int),(x.far.size:Int),(x.name.size:Int),(x.tagged.length:Int),(x.imports.length:Int),(x.exports.length:Int),(x.addrs.length:Int)]
def L6:List Int→Int→Bool × Int
 | [],t=>(false,t)
 | x::r,t=>if 300<x then (true,0) else L6 r (t+x)
def L5:List LineM→Int→Bool
 | [],t=>decide (10000<t)
 | x::r,t=>if (L6 (Q0 x) t).1=true then true else L5 r (L6 (Q0 x) t).2
def linesGreat (l:List LineM):Bool:=if 400<l.length then true else L5 l 0
theorem Yk:∀ (l:List Int) (t:Int),(L6 l t).1=false→∀ x∈l,x≤300
 | [],_,_,_,hx=>by cases hx
 | y::r,t,h,x,hx=>by
  rw[L6]at h
  split at h
  ·cases h
  ·rcases List.mem_cons.1 hx with rfl | hx
   ·omega
   ·exact Yk r _ h x hx
theorem Og:∀ (l:List LineM) (t:Int),L5 l t=false→∀ x∈l,∀ y∈Q0 x,y≤300
 | [],_,_,_,hx=>by cases hx
 | z::r,t,h,x,hx=>by
  rw[L5]at h
  split at h
  ·cases h
  ·rename_i h0
   rcases List.mem_cons.1 hx with rfl | hx
   ·exact Yk _ _ (by simpa using h0)
   ·exact Og r _ h x hx
theorem Al8 {l:List LineM} (h:linesGreat l=false):∀ x∈l,LineFin x:=by
 rw[linesGreat]at h
 split at h
 ·cases h
 ·intro x hx
  have:=Og l 0 h x hx
  simp only[Q0,List.forall_mem_cons]at this
  exact⟨by omega,by omega,by omega,by omega⟩
theorem Al1 (x:LineM):∀ y∈Q0 x,0≤y:=by
 simp only[Q0,List.forall_mem_cons]
 refine⟨by omega,by omega,by omega,by omega,by omega,by omega,by omega,by omega,by omega,fun y hy=>by cases hy⟩
theorem Aff (M:List LineM) (hl:M.length<1000000):Sy.Spec Tryz.prog 5 [.sl 17 Ad M] [] (Ab (linesGreat M)) []:=cT F5 Tryz.ntmps5 fun F hF=>by
 have hres:=linesGreat.eq_1 M
 generalize linesGreat M=res at *
 by_cases c0:400<M.length
 ·rw[if_pos c0]at hres
  have f0:decide ((M.length:Int)>400)=true:=decide_eq_true j_
  subst hres
  refine T ?_
  exact D
 rw[if_neg c0]at hres
 have f0:decide ((M.length:Int)>400)=false:=decide_eq_false j_
 refine T ?_
 refine Bk (fun x:Nat × Int=>res=L5 (M.drop x.1) x.2∧x.1≤M.length∧0≤x.2∧x.2≤2700 * x.1) (fun x=>[(0,.sl 17 Ad M),(3,Aa x.2),(4,Aa x.1)]) (fun _=>[]) (fun x=>M.length-x.1) (0,0) [] ⟨hres,by simp,by simp,by simp⟩ U ?_
 rintro ⟨j,t⟩ ⟨hI,hj,ht0,ht⟩
 dsimp only at hI hj ht0 ht ⊢
 refine T ?_
 refine⟨fun h2=>?_,fun h2=>?_⟩
 ·have hlt:j<M.length:=by have:=of_decide_eq_true h2;omega
  have hlt0:((j:Nat):Int).toNat<M.length:=hlt
  clear h2
  have hdr:M.drop j=M[((j:Nat):Int).toNat]'hlt0::M.drop (j+1):=List.drop_eq_getElem_cons hlt
  rw[hdr,L5]at hI
  refine T ?_
  refine Lh 70 Aa (Q0 (M[((j:Nat):Int).toNat]'hlt0)) q_ q_ ?_
  refine Ai 70 q_ ?_
  have hps:=Al1 (M[((j:Nat):Int).toNat]'hlt0)
  have hls:(Q0 (M[((j:Nat):Int).toNat]'hlt0)).length=9:=rfl
  generalize Q0 (M[((j:Nat):Int).toNat]'hlt0)=ls at *
  refine T ?_
  refine Bk (fun x:Nat × Int=>L6 ls t=L6 (ls.drop x.1) x.2∧x.1≤9∧0≤x.2∧x.2≤2700 * j+300 * x.1) (fun x=>[(0,.sl 17 Ad M),(3,Aa x.2),(4,Aa j),(70,.sl 1 Aa ls),(71,Aa 9),(72,Aa x.1)]) (fun _=>[]) (fun x=>9-x.1) (0,t) [] ⟨q_,by simp,ht0,by dsimp only;omega⟩ U ?_
  rintro ⟨k,u⟩ ⟨hK,hk,hu0,hu⟩
  dsimp only at hK hk hu0 hu ⊢
  refine T ?_
  refine⟨fun h2=>?_,fun h2=>?_⟩
  ·have hkt:k<9:=by have:=of_decide_eq_true h2;omega
   have hkt0:((k:Nat):Int).toNat<ls.length:=by omega
   clear h2
   have hdk:ls.drop k=ls[((k:Nat):Int).toNat]'hkt0::ls.drop (k+1):=List.drop_eq_getElem_cons hkt0
   rw[hdk,L6]at hK
   have hp:=hps (ls[((k:Nat):Int).toNat]'hkt0) (List.getElem_mem _)
   by_cases c1:300<ls[((k:Nat):Int).toNat]'hkt0
   ·rw[if_pos c1]at hK
    rw[hK,if_pos rfl]at hI
    have f1:decide (ls[((k:Nat):Int).toNat]'hkt0>300)=true:=decide_eq_true j_
    subst hI
    refine T ?_
    exact D
   ·rw[if_neg c1]at hK
    have f1:decide (ls[((k:Nat):Int).toNat]'hkt0>300)=false:=decide_eq_false j_
    refine T ?_
    exact Ar (k+1,u+ls[((k:Nat):Int).toNat]'hkt0) [] ⟨hK,hkt,by dsimp only;omega,by dsimp only;omega⟩ (by dsimp only;omega) U
  ·have hk9:k=9:=by have:=of_decide_eq_false h2;omega
   subst hk9
   clear h2
   rw[List.drop_eq_nil_of_le j_,L6]at hK
   rw[hK,if_neg qe]at hI
   refine T ?_
   exact Ar (j+1,u) [] ⟨hI,hlt,hu0,by dsimp only;omega⟩ (by dsimp only;omega) U
 ·have hje:j=M.length:=by have:=of_decide_eq_false h2;omega
  subst hje
  clear h2
  rw[List.drop_length,L5]at hI
  subst hI
  refine T ?_
  exact D
theorem Ab9:∀ x∈(textT exA).1,LineX x:=by
 rw[V3]
 intro x hx
 simp only[List.mem_cons,List.not_mem_nil,or_false]at hx
 rcases hx with rfl | rfl
 all_goals exact⟨⟨⟨by decide,by decide,by decide,by decide⟩,⟨by decide,by decide,fun x hx=>(by cases hx)⟩,by decide,by decide,by decide,by decide,by decide⟩,(by unfold Ei;decide),(by unfold Ei;decide),(by unfold Ei;decide),fun x hx=>(by cases hx),fun x hx=>(by cases hx),fun x hx=>(by cases hx)⟩
theorem Aar:LineFin lineZ:=⟨by decide,by decide,by decide,by decide⟩
theorem Aeo:Sy.Spec Tryz.prog 9 [.val (.slice none 0 0)] [] (Ab true) []:=cT F9 Tryz.ntmps9 fun F hF=>by
 have q:=Al4 [] (fun x hx=>by cases hx) qd
 rw[show Jj []=true from rfl]at q
 refine T ?_
 refine Db 3 17 Ad q_ ?_
 refine C q F18 ?_
 exact D
theorem Amt:Sy.Spec Tryz.prog 4 [] [] (Ab true) []:=cT F4 Tryz.ntmps4 fun F hF=>by
 have q1:=Ah7 exA qd Ab9 (by rw[V3];decide)
 rw[Anv]at q1
 dsimp only at q1
 have q2:=Aeo
 have q3:=Ah8 lineZ lineZ Aar Aar
 rw[lineB_ordy.ne lineZ]at q3
 have hb:((⟨exB.toArray⟩:ByteArray) == ⟨#[100,101,118,105,99,101,32,97,32,49,32,48,48,58,48,48,58,48,48,58,48,48,58,48,48,58,48,49,10,112,111,114,116,32,97,32,112,32,49,32,97,99,99,101,115,115,32,49,48,10]⟩)=true:=beq_iff_eq.2 rfl
 refine T ?_
 refine X (Ua Γ.toTy q_ q_ q_ q_ q_ q_ q_) ?_
 refine Lh 5 A3 exA q_ q_ ?_
 refine Ai 5 q_ ?_
 refine C q1 F8 ?_
 refine X (Ee Γ.toTy (bs:=exB) q_ q_ q_ q_ q_ q_ q_ .sl) ?_
 refine C q2 F9 ?_
 refine G_vw 26 (Ad lineZ) (.agg (.cons (.refl _) (.cons (.refl _) (.cons (.refl _) (.cons (.refl _) (.cons (.refl _) (.cons (.refl _) (.cons (.refl _) (.cons (.refl _) (.cons (.refl _) (.cons (.refl _) (.cons (.refl _) (.cons (.refl _) (.cons (.refl _) (.cons .nil (.cons .nil (.cons .nil (.cons .nil .nil)))))))))))))))))) ?_
 refine G_vw 27 (Ad lineZ) (.agg (.cons (.refl _) (.cons (.refl _) (.cons (.refl _) (.cons (.refl _) (.cons (.refl _) (.cons (.refl _) (.cons (.refl _) (.cons (.refl _) (.cons (.refl _) (.cons (.refl _) (.cons (.refl _) (.cons (.refl _) (.cons (.refl _) (.cons .nil (.cons .nil (.cons .nil (.cons .nil .nil)))))))))))))))))) ?_
 refine C q3 F10 ?_
 exact D
end Go.Sy.YtdkfcckkkfghgaaGreatDoor
namespace Go.Sy
open Go.ChangeShapes Go.WideShapes Go.ChangeAt Go.RowKit
section
variable {H:Type} (enc:TypeId × Value→H) (P:Program) (W:World)
def Op1 (t:TypeId) {α:Type} (e:α→SV) (p:α→Prop):Prop :=
 ∀ n c y,DataW.trod enc P W 0 (fun _=>true) true n t [c]=some y→∃ x,p x∧Rd κ0 W (e x) c∧c.oneCell'=true
def OpN (t:TypeId) {α:Type} (e:α→SV) (p:α→Prop) (sz:Nat):Prop :=
 ∀ n cs y,DataW.trod enc P W 0 (fun _=>true) true n t cs=some y→∃ x,p x∧cs.length=sz∧Ones cs∧RdL κ0 W (cellsOf (e x)) cs
variable {enc P W}
theorem M9 {t:TypeId} {k:IntKind} (ht:P.underlying t=some (.int k)):Op1 enc P W t (fun z=>.val (.int k z)) (fun z=>(Lit.int k z).wf=true):=fun n c y h=>by
 obtain ⟨z,e,_,hw⟩:=DataW.trod_int ht h
 have e:c=.int k z:=by simpa using e
 subst e
 exact⟨z,hw,by simp[Rd],q_⟩
theorem X6 {t:TypeId} (ht:P.underlying t=some .string):Op1 enc P W t Ae (fun s=>s.size≤maxLen):=fun n c y h=>by
 obtain ⟨z,e,_,hw⟩:=DataW.trod_string ht h
 have e:c=.string z:=by simpa using e
 subst e
 exact⟨z,hw,by simp[Ae,Rd],q_⟩
theorem Aj1 {t:TypeId} {k:IntKind} (ht:P.underlying t=some (.int k)):OpN enc P W t (fun z=>.val (.int k z)) (fun z=>(Lit.int k z).wf=true) 1:=fun n cs y h=>by
 obtain ⟨z,rfl,_,hw⟩:=DataW.trod_int ht h
 refine⟨z,hw,q_,fun c hc=>by simp at hc;subst hc;rfl,?_⟩
 simp[cellsOf,RdL,Rd]
theorem Aba {base:Nat} {a:Addr} {n:Nat} {cs:List Value} (h:W.cells? base a n=some cs):cs.length=n∧∀ j (_:j<n),W.cell? (a.add j)=cs[j]?:=by
 unfold World.cells? at h
 split at h
 ·refine⟨by simpa using mapM_some_length h,fun j hj=>?_⟩
  exact mapM_some_get h j j (by simp[hj])
 ·cases h
theorem X7 {t et:TypeId} {α:Type} {e:α→SV} {p:α→Prop} {sz:Nat} (ht:P.underlying t=some (.slice et)) (hsz:P.cellsOf et=sz) (h0:0<sz) (hb:∀ x,(e x).boxed=true) (hd:∀ x,(e x).data=true) (hO:OpN enc P W et e p sz) :
  Op1 enc P W t (fun l:List α=>.sl sz e l) (fun l=>(∀ x∈l,p x)∧l.length≤maxLen):=fun n c y h=>by
 rcases DataW.trod_slice ht h with ⟨hcs,_⟩ | ⟨a,len,cap,elems,rest,m,rfl,hcs,_,_,hlc,hcm,hel,hget,_⟩
 ·have hc:c=.slice none 0 0:=by simpa using hcs
  subst hc
  refine⟨[],⟨by simp,Nat.zero_le _⟩,?_,q_⟩
  simp only[Rd,RdD]
  exact .inl ⟨z_,none,0,q_⟩
 ·have hc:c=.slice (some a) len cap:=by simpa using hcs
  subst hc
  rw[hsz]at hget
  have hall:∀ i:Fin len,∃ x,p x∧∃ cs,W.cells? 0 (a.add (i * sz)) sz=some cs∧cs.length=sz∧Ones cs∧RdL κ0 W (cellsOf (e x)) cs:=fun i=>by
   have h1:=hget i.1 i.2
   rw[List.getElem?_eq_getElem j_]at h1
   obtain ⟨cs,h2,h3⟩:=Option.bind_eq_some_iff.1 h1
   obtain ⟨x,h4,h5,h6,h7⟩:=hO _ _ _ h3
   exact⟨x,h4,cs,h2,h5,h6,h7⟩
  let xs:Fin len→α:=fun i=>Classical.choose (hall i)
  have hxs:∀ i,p (xs i)∧∃ cs,W.cells? 0 (a.add (i.1 * sz)) sz=some cs∧cs.length=sz∧Ones cs∧RdL κ0 W (cellsOf (e (xs i))) cs:=fun i=>Classical.choose_spec (hall i)
  refine⟨List.ofFn xs,⟨fun x hx=>?_,by simp;omega⟩,?_,q_⟩
  ·obtain ⟨i,rfl⟩:=List.mem_ofFn.1 hx
   exact(hxs i).1
  ·simp only[Rd,RdD]
   by_cases hl:len=0
   ·subst hl
    exact .inl ⟨by simp,_,_,q_⟩
   ·have hcell:∀ i:Fin len,∀ j,j<sz→∃ v,W.cell? ((a.add (i.1 * sz)).add j)=some v:=fun i j hj=>by
     obtain ⟨_,cs,h1,h2,_⟩:=hxs i
     have:=(Aba h1).2 j hj
     rw[List.getElem?_eq_getElem j_]at this
     exact⟨_,this⟩
    obtain ⟨b,off,spot⟩:=a
    have hspot:spot=none:=by
     obtain ⟨v,hv⟩:=hcell ⟨0,by omega⟩ 0 h0
     simpa [Addr.add] using World.cell?_spot hv
    subst hspot
    have hadd:∀ i j,((⟨b,off,none⟩:Addr).add i).add j=⟨b,off+i+j,none⟩:=fun i j=>by rw[Addr.add_lit,Addr.add_lit]
    refine .inr ⟨b,off,cap,by simp,by simpa using hlc,?_,?_,fun i hi=>?_⟩
    ·rintro (⟨k,hk⟩ | hk)
     ·cases hk
     ·exact hk
    ·obtain ⟨v,hv⟩:=hcell ⟨0,by omega⟩ 0 h0
     rw[hadd]at hv
     rcases Nat.lt_or_ge b W.heap.size with h | h
     ·exact h
     ·simp[World.cell?,Array.getElem?_eq_none h]at hv
    ·simp only[List.length_ofFn]at hi
     obtain ⟨_,cs,h1,h2,h3,h4⟩:=hxs ⟨i,hi⟩
     obtain ⟨u,g1,g2⟩:=Rd.of_cells (hb _) h3 h4
     refine⟨u,?_,?_,by rw[g2];exact h3,fun j hj=>?_⟩
     ·rw[List.getElem_ofFn]
      exact Rd.data _ _ (hd _) g1
     ·have:u.cells.toList.length=sz:=by rw[g2,h2]
      simpa using this
     ·have:=(Aba h1).2 j hj
      rw[hadd]at this
      rw[this,← g2]
      simp
end
end Go.Sy
namespace Go.Sy.YtdkfcckkkfghgaaGreatDoor
open Go.Proofs Go.ChangeShapes Go.WideShapes Go.ChangeAt Go.RowKit
set_option maxRecDepth 100000
section
variable {H:Type} {enc:TypeId × Value→H} {W:World}
def wI (k:IntKind) (z:Int):Prop:=(Lit.int k z).wf=true
theorem Acb:Op1 enc Tryz.prog W 45 (fun l:List Int=>.sl 1 (fun z=>.val (.int .i64 z)) l) (fun l=>(∀ z∈l,wI .i64 z)∧l.length≤maxLen) :=
 X7 Tryz.underlying45 (by kernel_rfl:Tryz.prog.cellsOf 3=1) qd (fun _=>rfl) (fun _=>rfl) (Aj1 Tryz.underlying3)
theorem Aqj:Op1 enc Tryz.prog W 46 (fun l:List Int=>.sl 1 (fun z=>.val (.int .u32 z)) l) (fun l=>(∀ z∈l,wI .u32 z)∧l.length≤maxLen) :=
 X7 Tryz.underlying46 (by kernel_rfl:Tryz.prog.cellsOf 44=1) qd (fun _=>rfl) (fun _=>rfl) (Aj1 Tryz.underlying44)
def Device.In (x:Device):Prop:=wI .i64 x.row∧wI .i64 x.prio∧x.name.size≤maxLen∧wI .u64 x.mac∧wI .u32 x.vtep
def Port.In (x:Port):Prop:=wI .i64 x.row∧wI .i64 x.dev∧wI .i64 x.native∧wI .i64 x.cost∧wI .i64 x.link∧x.name.size≤maxLen∧((∀ z∈x.tagged,wI .i64 z)∧x.tagged.length≤maxLen)
def Link.In (x:Link):Prop:=wI .i64 x.row∧wI .i64 x.a∧wI .i64 x.b
def Domain.In (x:Domain):Prop:=wI .i64 x.dev∧wI .i64 x.vlan∧wI .i64 x.vni∧wI .i64 x.irb∧wI .i64 x.row∧((∀ z∈x.peers,wI .i64 z)∧x.peers.length≤maxLen)
def Static.In (x:Static):Prop:=wI .i64 x.row∧wI .i64 x.domain∧wI .i64 x.port∧wI .u64 x.mac
def Flood.In (x:Flood):Prop:=wI .i64 x.row∧wI .i64 x.dev∧wI .i64 x.vni∧((∀ z∈x.addrs,wI .u32 z)∧x.addrs.length≤maxLen)
def Vrf.In (x:Vrf):Prop:=wI .i64 x.row∧wI .i64 x.dev∧x.name.size≤maxLen∧((∀ z∈x.imports,wI .i64 z)∧x.imports.length≤maxLen)∧((∀ z∈x.exports,wI .i64 z)∧x.exports.length≤maxLen)
def Irb.In (x:Irb):Prop:=wI .i64 x.row∧wI .i64 x.domain∧wI .i64 x.vrf∧wI .u32 x.addr∧wI .i64 x.bits
structure Net.In (n:Net):Prop where
 devices:(∀ x∈n.devices,Device.In x)∧n.devices.length≤maxLen
 ports:(∀ x∈n.ports,Port.In x)∧n.ports.length≤maxLen
 links:(∀ x∈n.links,Link.In x)∧n.links.length≤maxLen
 domains:(∀ x∈n.domains,Domain.In x)∧n.domains.length≤maxLen
 statics:(∀ x∈n.statics,Static.In x)∧n.statics.length≤maxLen
 floods:(∀ x∈n.floods,Flood.In x)∧n.floods.length≤maxLen
 vrfs:(∀ x∈n.vrfs,Vrf.In x)∧n.vrfs.length≤maxLen
 irbs:(∀ x∈n.irbs,Irb.In x)∧n.irbs.length≤maxLen
theorem Anj {t et:TypeId} {α:Type} {e:α→SV} {p:List α→Prop} {sz base:Nat} {v:Value} {d:DataW H} {ps:List MemPlace} (ht:Tryz.prog.underlying t=some (.slice et)) (hO:Op1 enc Tryz.prog W t (fun l:List α=>.sl sz e l) p)
  (hval:Value.okWide Tryz.prog W .any base t v) (h1:DataW.Trod enc Tryz.prog W 0 (fun _=>true) true t v d ps):∃ l,p l∧Rd κ0 W (.sl sz e l) v:=by
 obtain ⟨a,len,cap,rfl⟩:=okWide_slice ht hval
 obtain ⟨fuel,hf⟩:=h1
 obtain ⟨x,h1,h2,_⟩:=hO _ _ _ hf
 exact⟨x,h1,h2⟩
end
end Go.Sy.YtdkfcckkkfghgaaGreatDoor
namespace Go.Sy.YtdkfcckkkfghgaaGreatDoor
open Go.Proofs Go.ChangeShapes Go.WideShapes Go.ChangeAt Go.RowKit
set_option maxRecDepth 100000
section
variable {H:Type} {enc:TypeId × Value→H} {W:World}
def LineM.In (x:LineM):Prop:=wI .i64 x.row∧wI .i64 x.kind∧x.dev.size≤maxLen∧x.port.size≤maxLen∧x.peer.size≤maxLen∧x.far.size≤maxLen∧x.name.size≤maxLen∧wI .u64 x.mac∧wI .u32 x.addr∧wI .i64 x.bits∧wI .i64 x.vlan∧wI .i64 x.num∧wI .i64 x.cost∧((∀ z∈x.tagged,wI .i64 z)∧x.tagged.length≤maxLen)∧((∀ z∈x.imports,wI .i64 z)∧x.imports.length≤maxLen)∧((∀ z∈x.exports,wI .i64 z)∧x.exports.length≤maxLen)∧((∀ z∈x.addrs,wI .u32 z)∧x.addrs.length≤maxLen)
theorem Alf:OpN enc Tryz.prog W 48 Ad LineM.In 17:=fun n cs y h=>by
 obtain ⟨xs,m,_,_,hlen,hx,hg⟩:=DataW.trod_struct Tryz.underlying48 h
 have hlen:cs.length=17:=hlen.trans (by kernel_rfl:Tryz.prog.cellsOf 48=17)
 have hx:xs.length=17:=hx
 match cs,hlen with
 | [c0,c1,c2,c3,c4,c5,c6,c7,c8,c9,c10,c11,c12,c13,c14,c15,c16],_ =>
  have g0:DataW.trod enc Tryz.prog W 0 (fun _=>true) true m 3 (([c0,c1,c2,c3,c4,c5,c6,c7,c8,c9,c10,c11,c12,c13,c14,c15,c16].drop 0).take (Tryz.prog.cellsOf 3))=xs[0]?:=hg 0 _ rfl
  rw[(by kernel_rfl:Tryz.prog.cellsOf 3=1),List.getElem?_eq_getElem j_]at g0
  obtain ⟨z0,p0,r0,o0⟩:=M9 Tryz.underlying3 _ _ _ g0
  have g1:DataW.trod enc Tryz.prog W 0 (fun _=>true) true m 3 (([c0,c1,c2,c3,c4,c5,c6,c7,c8,c9,c10,c11,c12,c13,c14,c15,c16].drop 1).take (Tryz.prog.cellsOf 3))=xs[1]?:=hg 1 _ rfl
  rw[(by kernel_rfl:Tryz.prog.cellsOf 3=1),List.getElem?_eq_getElem j_]at g1
  obtain ⟨z1,p1,r1,o1⟩:=M9 Tryz.underlying3 _ _ _ g1
  have g2:DataW.trod enc Tryz.prog W 0 (fun _=>true) true m 9 (([c0,c1,c2,c3,c4,c5,c6,c7,c8,c9,c10,c11,c12,c13,c14,c15,c16].drop 2).take (Tryz.prog.cellsOf 9))=xs[2]?:=hg 2 _ rfl
  rw[(by kernel_rfl:Tryz.prog.cellsOf 9=1),List.getElem?_eq_getElem j_]at g2
  obtain ⟨z2,p2,r2,o2⟩:=X6 Tryz.underlying9 _ _ _ g2
  have g3:DataW.trod enc Tryz.prog W 0 (fun _=>true) true m 9 (([c0,c1,c2,c3,c4,c5,c6,c7,c8,c9,c10,c11,c12,c13,c14,c15,c16].drop 3).take (Tryz.prog.cellsOf 9))=xs[3]?:=hg 3 _ rfl
  rw[(by kernel_rfl:Tryz.prog.cellsOf 9=1),List.getElem?_eq_getElem j_]at g3
  obtain ⟨z3,p3,r3,o3⟩:=X6 Tryz.underlying9 _ _ _ g3
  have g4:DataW.trod enc Tryz.prog W 0 (fun _=>true) true m 9 (([c0,c1,c2,c3,c4,c5,c6,c7,c8,c9,c10,c11,c12,c13,c14,c15,c16].drop 4).take (Tryz.prog.cellsOf 9))=xs[4]?:=hg 4 _ rfl
  rw[(by kernel_rfl:Tryz.prog.cellsOf 9=1),List.getElem?_eq_getElem j_]at g4
  obtain ⟨z4,p4,r4,o4⟩:=X6 Tryz.underlying9 _ _ _ g4
  have g5:DataW.trod enc Tryz.prog W 0 (fun _=>true) true m 9 (([c0,c1,c2,c3,c4,c5,c6,c7,c8,c9,c10,c11,c12,c13,c14,c15,c16].drop 5).take (Tryz.prog.cellsOf 9))=xs[5]?:=hg 5 _ rfl
  rw[(by kernel_rfl:Tryz.prog.cellsOf 9=1),List.getElem?_eq_getElem j_]at g5
  obtain ⟨z5,p5,r5,o5⟩:=X6 Tryz.underlying9 _ _ _ g5
  have g6:DataW.trod enc Tryz.prog W 0 (fun _=>true) true m 9 (([c0,c1,c2,c3,c4,c5,c6,c7,c8,c9,c10,c11,c12,c13,c14,c15,c16].drop 6).take (Tryz.prog.cellsOf 9))=xs[6]?:=hg 6 _ rfl
  rw[(by kernel_rfl:Tryz.prog.cellsOf 9=1),List.getElem?_eq_getElem j_]at g6
  obtain ⟨z6,p6,r6,o6⟩:=X6 Tryz.underlying9 _ _ _ g6
  have g7:DataW.trod enc Tryz.prog W 0 (fun _=>true) true m 43 (([c0,c1,c2,c3,c4,c5,c6,c7,c8,c9,c10,c11,c12,c13,c14,c15,c16].drop 7).take (Tryz.prog.cellsOf 43))=xs[7]?:=hg 7 _ rfl
  rw[(by kernel_rfl:Tryz.prog.cellsOf 43=1),List.getElem?_eq_getElem j_]at g7
  obtain ⟨z7,p7,r7,o7⟩:=M9 Tryz.underlying43 _ _ _ g7
  have g8:DataW.trod enc Tryz.prog W 0 (fun _=>true) true m 44 (([c0,c1,c2,c3,c4,c5,c6,c7,c8,c9,c10,c11,c12,c13,c14,c15,c16].drop 8).take (Tryz.prog.cellsOf 44))=xs[8]?:=hg 8 _ rfl
  rw[(by kernel_rfl:Tryz.prog.cellsOf 44=1),List.getElem?_eq_getElem j_]at g8
  obtain ⟨z8,p8,r8,o8⟩:=M9 Tryz.underlying44 _ _ _ g8
  have g9:DataW.trod enc Tryz.prog W 0 (fun _=>true) true m 3 (([c0,c1,c2,c3,c4,c5,c6,c7,c8,c9,c10,c11,c12,c13,c14,c15,c16].drop 9).take (Tryz.prog.cellsOf 3))=xs[9]?:=hg 9 _ rfl
  rw[(by kernel_rfl:Tryz.prog.cellsOf 3=1),List.getElem?_eq_getElem j_]at g9
  obtain ⟨z9,p9,r9,o9⟩:=M9 Tryz.underlying3 _ _ _ g9
  have g10:DataW.trod enc Tryz.prog W 0 (fun _=>true) true m 3 (([c0,c1,c2,c3,c4,c5,c6,c7,c8,c9,c10,c11,c12,c13,c14,c15,c16].drop 10).take (Tryz.prog.cellsOf 3))=xs[10]?:=hg 10 _ rfl
  rw[(by kernel_rfl:Tryz.prog.cellsOf 3=1),List.getElem?_eq_getElem j_]at g10
  obtain ⟨z10,p10,r10,o10⟩:=M9 Tryz.underlying3 _ _ _ g10
  have g11:DataW.trod enc Tryz.prog W 0 (fun _=>true) true m 3 (([c0,c1,c2,c3,c4,c5,c6,c7,c8,c9,c10,c11,c12,c13,c14,c15,c16].drop 11).take (Tryz.prog.cellsOf 3))=xs[11]?:=hg 11 _ rfl
  rw[(by kernel_rfl:Tryz.prog.cellsOf 3=1),List.getElem?_eq_getElem j_]at g11
  obtain ⟨z11,p11,r11,o11⟩:=M9 Tryz.underlying3 _ _ _ g11
  have g12:DataW.trod enc Tryz.prog W 0 (fun _=>true) true m 3 (([c0,c1,c2,c3,c4,c5,c6,c7,c8,c9,c10,c11,c12,c13,c14,c15,c16].drop 12).take (Tryz.prog.cellsOf 3))=xs[12]?:=hg 12 _ rfl
  rw[(by kernel_rfl:Tryz.prog.cellsOf 3=1),List.getElem?_eq_getElem j_]at g12
  obtain ⟨z12,p12,r12,o12⟩:=M9 Tryz.underlying3 _ _ _ g12
  have g13:DataW.trod enc Tryz.prog W 0 (fun _=>true) true m 45 (([c0,c1,c2,c3,c4,c5,c6,c7,c8,c9,c10,c11,c12,c13,c14,c15,c16].drop 13).take (Tryz.prog.cellsOf 45))=xs[13]?:=hg 13 _ rfl
  rw[(by kernel_rfl:Tryz.prog.cellsOf 45=1),List.getElem?_eq_getElem j_]at g13
  obtain ⟨z13,p13,r13,o13⟩:=Acb _ _ _ g13
  have g14:DataW.trod enc Tryz.prog W 0 (fun _=>true) true m 45 (([c0,c1,c2,c3,c4,c5,c6,c7,c8,c9,c10,c11,c12,c13,c14,c15,c16].drop 14).take (Tryz.prog.cellsOf 45))=xs[14]?:=hg 14 _ rfl
  rw[(by kernel_rfl:Tryz.prog.cellsOf 45=1),List.getElem?_eq_getElem j_]at g14
  obtain ⟨z14,p14,r14,o14⟩:=Acb _ _ _ g14
  have g15:DataW.trod enc Tryz.prog W 0 (fun _=>true) true m 45 (([c0,c1,c2,c3,c4,c5,c6,c7,c8,c9,c10,c11,c12,c13,c14,c15,c16].drop 15).take (Tryz.prog.cellsOf 45))=xs[15]?:=hg 15 _ rfl
  rw[(by kernel_rfl:Tryz.prog.cellsOf 45=1),List.getElem?_eq_getElem j_]at g15
  obtain ⟨z15,p15,r15,o15⟩:=Acb _ _ _ g15
  have g16:DataW.trod enc Tryz.prog W 0 (fun _=>true) true m 46 (([c0,c1,c2,c3,c4,c5,c6,c7,c8,c9,c10,c11,c12,c13,c14,c15,c16].drop 16).take (Tryz.prog.cellsOf 46))=xs[16]?:=hg 16 _ rfl
  rw[(by kernel_rfl:Tryz.prog.cellsOf 46=1),List.getElem?_eq_getElem j_]at g16
  obtain ⟨z16,p16,r16,o16⟩:=Aqj _ _ _ g16
  refine⟨⟨z0,z1,z2,z3,z4,z5,z6,z7,z8,z9,z10,z11,z12,z13,z14,z15,z16⟩,⟨p0,p1,p2,p3,p4,p5,p6,p7,p8,p9,p10,p11,p12,p13,p14,p15,p16⟩,q_,fun c hc=>?_,?_⟩
  ·simp only[List.mem_cons,List.not_mem_nil,or_false]at hc
   rcases hc with rfl | rfl | rfl | rfl | rfl | rfl | rfl | rfl | rfl | rfl | rfl | rfl | rfl | rfl | rfl | rfl | rfl<;>assumption
  ·simp only[Ad,cellsOf,RdL]
   exact⟨_,_,q_,r0,_,_,q_,r1,_,_,q_,r2,_,_,q_,r3,_,_,q_,r4,_,_,q_,r5,_,_,q_,r6,_,_,q_,r7,_,_,q_,r8,_,_,q_,r9,_,_,q_,r10,_,_,q_,r11,_,_,q_,r12,_,_,q_,r13,_,_,q_,r14,_,_,q_,r15,_,_,q_,r16,q_⟩
theorem Anw:Op1 enc Tryz.prog W 22 (fun l:List LineM=>.sl 17 Ad l) (fun l=>(∀ x∈l,LineM.In x)∧l.length≤maxLen) :=
 X7 Tryz.underlying22 (by kernel_rfl:Tryz.prog.cellsOf 48=17) qd (fun _=>rfl) (fun _=>rfl) Alf
end
end Go.Sy.YtdkfcckkkfghgaaGreatDoor
namespace Go.Sy.YtdkfcckkkfghgaaGreatDoor
open Go.Proofs
theorem Aqo {l:LineM} (h:LineM.In l):LineOK l:=by
 obtain ⟨_,_,_,_,_,_,_,h8,h9,_,_,_,_,_,_,_,h17⟩:=h
 refine⟨?_,?_,fun x hx=>?_⟩
 ·simp only[wI,Lit.wf,decide_eq_true_eq,Bool.and_eq_true]at h8
  exact⟨h8.1,Int.lt_of_le_of_lt h8.2 qd⟩
 ·simp only[wI,Lit.wf,decide_eq_true_eq,Bool.and_eq_true]at h9
  exact⟨h9.1,Int.lt_of_le_of_lt h9.2 qd⟩
 ·have h1:=h17.1 x hx
  simp only[wI,Lit.wf,decide_eq_true_eq,Bool.and_eq_true]at h1
  exact⟨h1.1,Int.lt_of_le_of_lt h1.2 qd⟩
def emptyN:Net:=⟨[],[],[],[],[],[],[],[]⟩
def fitsB (n:Net) (l:LineM) (k:Int):Bool:=l.kind == k && (Ao l && Ah n)
def Ap (n:Net) (s:ByteArray):Int:=B4 (fun d:Device=>d.name == s) n.devices
def E9 (n:Net) (dev:Int) (s:ByteArray):Int:=B4 (fun p:Port=>p.dev == dev && p.name == s) n.ports
def Sa (n:Net) (dev:Int) (s:ByteArray):Int:=B4 (fun v:Vrf=>v.dev == dev && v.name == s) n.vrfs
def putDevice (n:Net) (l:LineM):Net × Int :=
 if fitsB n l 1=false then (emptyN,2) else if n.devices.any (fun d=>d.name == l.dev || d.mac == l.mac)=true then (emptyN,30) else if n.devices.length=8 then (emptyN,3)
 else ({ n with devices:=n.devices++[⟨l.row,l.num,l.dev,l.mac,0⟩] },0)
def Bh (dev:Int) (ds:List Domain) (v:Int):List Domain:=if 0<v∧ds.any (fun d=>d.dev == dev && d.vlan == v)=false then ds++[⟨dev,v,0,-1,0,[]⟩] else ds
def At (dev:Int) (ds:List Domain) (l:List Int):List Domain:=l.foldl (Bh dev) ds
def putPort (n:Net) (l:LineM):Net × Int :=
 if fitsB n l 2=false then (emptyN,2) else if Ap n l.dev<0 then (emptyN,31) else if 0≤E9 n (Ap n l.dev) l.port then (emptyN,30) else if n.ports.length=40 then (emptyN,3)
 else if 48<(At (Ap n l.dev) n.domains (l.vlan::l.tagged)).length then (emptyN,3)
 else ({ n with ports:=n.ports++[⟨l.row,Ap n l.dev,l.vlan,l.cost,-1,l.port,l.tagged⟩],domains:=At (Ap n l.dev) n.domains (l.vlan::l.tagged) },0)
def endI (n:Net) (dev port:ByteArray):Int:=if Ap n dev<0 then -1 else E9 n (Ap n dev) port
def Cv (l:List Port) (i k:Int):List Port:=l.set i.toNat { nth l i with link:=k }
def putLink (n:Net) (l:LineM):Net × Int :=
 if fitsB n l 3=false then (emptyN,2) else
 let a:=endI n l.dev l.port
 let b:=endI n l.peer l.far
 if a<0∨b<0 then (emptyN,31) else if (nth n.ports a).dev=(nth n.ports b).dev∨0≤(nth n.ports a).link∨0≤(nth n.ports b).link then (emptyN,33) else if n.links.length=20 then (emptyN,3)
 else ({ n with ports:=Cv (Cv n.ports a n.links.length) b n.links.length,links:=n.links++[⟨l.row,a,b⟩] },0)
def Uf (n:Net) (d mac:Int):Int:=B4 (fun s:Static=>s.domain == d && s.mac == mac) n.statics
def putStatic (n:Net) (l:LineM):Net × Int :=
 if fitsB n l 4=false then (emptyN,2) else
 let dev:=Ap n l.dev
 let port:=E9 n dev l.port
 let dom:=Bj n dev l.vlan
 if dev<0∨port<0 then (emptyN,31) else if dom<0∨Ck (nth n.ports port) l.vlan=false then (emptyN,32) else if 0≤Uf n dom l.mac then (emptyN,30) else if n.statics.length=64 then (emptyN,3)
 else ({ n with statics:=n.statics++[⟨l.row,dom,port,l.mac⟩] },0)
def Bp (n:Net) (a:Int):Int:=B4 (fun d:Device=>d.vtep == a) n.devices
def Et (n:Net) (dev vni:Int):Int:=B4 (fun d:Domain=>d.dev == dev && (d.vni == vni && vni != 0)) n.domains
def C4 (n:Net) (dev vni:Int):Int:=B4 (fun f:Flood=>f.dev == dev && f.vni == vni) n.floods
def begT (n:Net) (l:LineM) (k:Int):Int × Int:=if fitsB n l k=false then (0,2) else if Ap n l.dev<0 then (0,31) else (Ap n l.dev,0)
def U4 (l:List Device) (i a:Int):List Device:=l.set i.toNat { nth l i with vtep:=a }
def putVtep (n:Net) (l:LineM):Net × Int :=
 if (begT n l 5).2≠0 then (emptyN,(begT n l 5).2) else
 let dev:=(begT n l 5).1
 if (nth n.devices dev).vtep≠0∨0≤Bp n l.addr then (emptyN,30) else ({ n with devices:=U4 n.devices dev l.addr },0)
def putVni (n:Net) (l:LineM):Net × Int :=
 if (begT n l 6).2≠0 then (emptyN,(begT n l 6).2) else
 let dev:=(begT n l 6).1
 let at_:=Bj n dev l.vlan
 if (nth n.devices dev).vtep=0 then (emptyN,35) else if at_<0 then (emptyN,32) else if (nth n.domains at_).vni≠0∨0≤Et n dev l.num then (emptyN,30)
 else ({ n with domains:=n.domains.set at_.toNat { nth n.domains at_ with vni:=l.num,row:=l.row } },0)
def putFlood (n:Net) (l:LineM):Net × Int :=
 if (begT n l 7).2≠0 then (emptyN,(begT n l 7).2) else
 let dev:=(begT n l 7).1
 if Et n dev l.num<0 then (emptyN,31) else if 0≤C4 n dev l.num then (emptyN,30) else if inB l.addrs (nth n.devices dev).vtep=true then (emptyN,36) else if n.floods.length=48 then (emptyN,3)
 else ({ n with floods:=n.floods++[⟨l.row,dev,l.num,l.addrs⟩] },0)
def putVrf (n:Net) (l:LineM):Net × Int :=
 if (begT n l 8).2≠0 then (emptyN,(begT n l 8).2) else
 let dev:=(begT n l 8).1
 if 0≤Sa n dev l.name then (emptyN,30) else if n.vrfs.length=16 then (emptyN,3)
 else ({ n with vrfs:=n.vrfs++[⟨l.row,dev,l.name,l.imports,l.exports⟩] },0)
def J1 (a bits x:Int):Bool:=decide (0≤bits) && (decide (bits≤32) && Iw a bits == Iw x bits)
def clashB (n:Net) (dev a bits:Int) (x:Irb):Bool:=x.addr == a || ((nth n.vrfs x.vrf).dev != dev && (J1 x.addr x.bits a || J1 a bits x.addr))
def putIrb (n:Net) (l:LineM):Net × Int :=
 if (begT n l 9).2≠0 then (emptyN,(begT n l 9).2) else
 let dev:=(begT n l 9).1
 let vrf:=Sa n dev l.name
 let at_:=Bj n dev l.vlan
 if vrf<0 then (emptyN,31) else if at_<0 then (emptyN,32) else if 0≤(nth n.domains at_).irb∨n.irbs.any (clashB n dev l.addr l.bits)=true then (emptyN,37)
 else ({ n with domains:=n.domains.set at_.toNat { nth n.domains at_ with irb:=n.irbs.length },irbs:=n.irbs++[⟨l.row,at_,vrf,l.addr,l.bits⟩] },0)
def putT (n:Net) (l:LineM):Net × Int :=
 if l.kind=1 then putDevice n l else if l.kind=2 then putPort n l else if l.kind=3 then putLink n l else if l.kind=4 then putStatic n l else if l.kind=5 then putVtep n l
 else if l.kind=6 then putVni n l else if l.kind=7 then putFlood n l else if l.kind=8 then putVrf n l else if l.kind=9 then putIrb n l else (emptyN,2)
def agreeA (n:Net) (f:Flood) (a:Int):Bool :=
 let dev:=Bp n a
 decide (0≤dev) && (a != 0 && (decide (0≤Et n dev f.vni) && (decide (0≤C4 n dev f.vni) &&
  (inB (nth n.floods (C4 n dev f.vni)).addrs (nth n.devices f.dev).vtep && f.addrs.all fun b=>b == a || inB (nth n.floods (C4 n dev f.vni)).addrs b))))
def agreesB (n:Net) (f:Flood):Bool:=decide (0≤Et n f.dev f.vni) && f.addrs.all (agreeA n f)
def peersT (n:Net) (d:Domain):List Int:=if d.vni≠0∧0≤C4 n d.dev d.vni then (nth n.floods (C4 n d.dev d.vni)).addrs.map (fun a=>Et n (Bp n a) d.vni) else []
def Al (n:Net):Net:={ n with domains:=n.domains.map fun d=>{ d with peers:=peersT n d } }
def meshNT (n:Net):Net × Int × Int :=
 if Ah n=false then (emptyN,0,2) else match n.floods.find? (fun f=>!(agreesB n f)) with
 | some f=>(emptyN,f.row,36)
 | none=>if Ah (Al n)=false then (emptyN,0,36) else (Al n,0,0)
def Bs (f:List Int):Prop:=∀ i (h:i<f.length),0≤f[i]∧f[i]≤i
def Adu:Nat→List Int→Int→List Int × Int
 | 0,f,i=>(f,i)
 | k+1,f,i=>if nth f i=i then (f,i) else Adu k (f.set i.toNat (nth f (nth f i))) (nth f (nth f i))
def E1 (f:List Int) (i:Int):List Int × Int:=Adu (i.toNat+1) f i
def Jp (f:List Int) (a b:Int):List Int × Bool :=
 let x:=E1 f a
 let y:=E1 x.1 b
 (y.1.set (max x.2 y.2).toNat (min x.2 y.2),x.2 != y.2)
def H4 (k:Nat):List Int:=(List.range k).map fun i:Nat=>(i:Int)
def Cs (n:Net) (f:List Int) (i:Int) (v:Int):List Int:=if (linkDomT n i v).2=true then (Jp f (Bj n (nth n.ports i).dev v) (linkDomT n i v).1).1 else f
def E6 (n:Net) (f:List Int) (i:Nat):List Int:=((nth n.ports i).tagged++[(nth n.ports i).native]).foldl (fun f v=>Cs n f i v) f
def K6 (n:Net) (f:List Int):List Int:=(List.range n.ports.length).foldl (E6 n) f
def H2:Int→List Int→Int
 | m,[]=>m
 | m,x::l=>H2 (min m x) l
def Zv (l:List Int):Int:=H2 (nth l 0) (l.drop 1)
def Oe (n:Net):List Int→Nat→List Domain→Int × Bool
 | _,_,[]=>(0,false)
 | f,i,d::r=>if d.peers=[] then Oe n f (i+1) r else
  let x:=Jp f i ((n.domains.length:Int)+min (i:Int) (Zv d.peers))
  if x.2=false then (d.row,true) else Oe n x.1 (i+1) r
def loopT (n:Net):Int × Bool:=if Ah n=false then (0,false) else Oe n (K6 n (H4 (2 * n.domains.length))) 0 n.domains
def finishT (n:Net):Net × Int × Int:=if (meshNT n).2.2≠0 then meshNT n else if (loopT (meshNT n).1).2=true then (emptyN,(loopT (meshNT n).1).1,38) else ((meshNT n).1,0,0)
def Hx:Net→List LineM→Net × Int × Int
 | n,[]=>finishT n
 | n,l::r=>if (putT n l).2≠0 then (emptyN,l.row,(putT n l).2) else Hx (putT n l).1 r
def Ca (l:List LineM):Net × Int × Int:=Hx emptyN l
end Go.Sy.YtdkfcckkkfghgaaGreatDoor
namespace Go.Sy.YtdkfcckkkfghgaaGreatDoor
open Go.Proofs
attribute [local irreducible] Go.Sy.G Go.Sy.DR
set_option maxRecDepth 100000
set_option maxHeartbeats 4000000
theorem Z6 (l:List Device) (hl:l.length<2147483648):Sy.Spec Tryz.prog 157 [.sl 5 A2 l] [] (.osl 0) [(0,.row 5 A2 l)]:=cT F157 Tryz.ntmps157 fun F hF=>by
 ((conv=>whnf);repeat((first|refine aF ?_|refine aT ?_);(first|refine rG Γ hm ?_|refine rD Γ hm y_ ?_);conv=>whnf))
 refine Ig q_ (.inl q_) q_ q_ q_ .sl q_ q_ ?_
 intro b hb
 cases b
 ·((first|refine rG Γ hm ?_|refine rD Γ hm y_ ?_);(conv=>whnf);repeat((first|refine aF ?_|refine aT ?_);(first|refine rG Γ hm ?_|refine rD Γ hm y_ ?_);conv=>whnf))
  refine Cj (Aj Γ.toTy 7 q_ q_ q_ q_ q_ (.lit (e:=A2) (l:=[]) q_ q_) .sl qe (by simp;omega) (by simp;omega)) q_ q_ ?_
  ((first|refine rG Γ hm ?_|refine rD Γ hm y_ ?_);(conv=>whnf);repeat((first|refine aF ?_|refine aT ?_);(first|refine rG Γ hm ?_|refine rD Γ hm y_ ?_);conv=>whnf))
  exact done q_ (.cons .tmp .nil) [(0,7)] [(0,.row 5 A2 l)] (fun _ h=>h) q_ q_ ⟨z_,⟨.inl q_,q_,z_⟩,q_,q_⟩
 ·have h0:l=[]:=List.eq_nil_of_length_eq_zero (hb rfl)
  subst h0
  ((first|refine rG Γ hm ?_|refine rD Γ hm y_ ?_);(conv=>whnf);repeat((first|refine aF ?_|refine aT ?_);(first|refine rG Γ hm ?_|refine rD Γ hm y_ ?_);conv=>whnf))
  refine C0 2 1000 5 A2 q_ q_ ?_
  exact done q_ (.cons .tmp .nil) [(0,1000)] [(0,.row 5 A2 [])] (fun _ h=>h) q_ q_ ⟨z_,⟨.inl q_,q_,z_⟩,q_,q_⟩
theorem Af7 (l:List Link) (hl:l.length<2147483648):Sy.Spec Tryz.prog 159 [.sl 3 Cm l] [] (.osl 0) [(0,.row 3 Cm l)]:=cT F159 Tryz.ntmps159 fun F hF=>by
 ((conv=>whnf);repeat((first|refine aF ?_|refine aT ?_);(first|refine rG Γ hm ?_|refine rD Γ hm y_ ?_);conv=>whnf))
 refine Ig q_ (.inl q_) q_ q_ q_ .sl q_ q_ ?_
 intro b hb
 cases b
 ·((first|refine rG Γ hm ?_|refine rD Γ hm y_ ?_);(conv=>whnf);repeat((first|refine aF ?_|refine aT ?_);(first|refine rG Γ hm ?_|refine rD Γ hm y_ ?_);conv=>whnf))
  refine Cj (Aj Γ.toTy 7 q_ q_ q_ q_ q_ (.lit (e:=Cm) (l:=[]) q_ q_) .sl qe (by simp;omega) (by simp;omega)) q_ q_ ?_
  ((first|refine rG Γ hm ?_|refine rD Γ hm y_ ?_);(conv=>whnf);repeat((first|refine aF ?_|refine aT ?_);(first|refine rG Γ hm ?_|refine rD Γ hm y_ ?_);conv=>whnf))
  exact done q_ (.cons .tmp .nil) [(0,7)] [(0,.row 3 Cm l)] (fun _ h=>h) q_ q_ ⟨z_,⟨.inl q_,q_,z_⟩,q_,q_⟩
 ·have h0:l=[]:=List.eq_nil_of_length_eq_zero (hb rfl)
  subst h0
  ((first|refine rG Γ hm ?_|refine rD Γ hm y_ ?_);(conv=>whnf);repeat((first|refine aF ?_|refine aT ?_);(first|refine rG Γ hm ?_|refine rD Γ hm y_ ?_);conv=>whnf))
  refine C0 2 1000 3 Cm q_ q_ ?_
  exact done q_ (.cons .tmp .nil) [(0,1000)] [(0,.row 3 Cm [])] (fun _ h=>h) q_ q_ ⟨z_,⟨.inl q_,q_,z_⟩,q_,q_⟩
theorem Z5 (l:List Static) (hl:l.length<2147483648):Sy.Spec Tryz.prog 161 [.sl 4 Bb l] [] (.osl 0) [(0,.row 4 Bb l)]:=cT F161 Tryz.ntmps161 fun F hF=>by
 ((conv=>whnf);repeat((first|refine aF ?_|refine aT ?_);(first|refine rG Γ hm ?_|refine rD Γ hm y_ ?_);conv=>whnf))
 refine Ig q_ (.inl q_) q_ q_ q_ .sl q_ q_ ?_
 intro b hb
 cases b
 ·((first|refine rG Γ hm ?_|refine rD Γ hm y_ ?_);(conv=>whnf);repeat((first|refine aF ?_|refine aT ?_);(first|refine rG Γ hm ?_|refine rD Γ hm y_ ?_);conv=>whnf))
  refine Cj (Aj Γ.toTy 7 q_ q_ q_ q_ q_ (.lit (e:=Bb) (l:=[]) q_ q_) .sl qe (by simp;omega) (by simp;omega)) q_ q_ ?_
  ((first|refine rG Γ hm ?_|refine rD Γ hm y_ ?_);(conv=>whnf);repeat((first|refine aF ?_|refine aT ?_);(first|refine rG Γ hm ?_|refine rD Γ hm y_ ?_);conv=>whnf))
  exact done q_ (.cons .tmp .nil) [(0,7)] [(0,.row 4 Bb l)] (fun _ h=>h) q_ q_ ⟨z_,⟨.inl q_,q_,z_⟩,q_,q_⟩
 ·have h0:l=[]:=List.eq_nil_of_length_eq_zero (hb rfl)
  subst h0
  ((first|refine rG Γ hm ?_|refine rD Γ hm y_ ?_);(conv=>whnf);repeat((first|refine aF ?_|refine aT ?_);(first|refine rG Γ hm ?_|refine rD Γ hm y_ ?_);conv=>whnf))
  refine C0 2 1000 4 Bb q_ q_ ?_
  exact done q_ (.cons .tmp .nil) [(0,1000)] [(0,.row 4 Bb [])] (fun _ h=>h) q_ q_ ⟨z_,⟨.inl q_,q_,z_⟩,q_,q_⟩
theorem Ai4 (l:List Irb) (hl:l.length<2147483648):Sy.Spec Tryz.prog 164 [.sl 5 Cr l] [] (.osl 0) [(0,.row 5 Cr l)]:=cT F164 Tryz.ntmps164 fun F hF=>by
 ((conv=>whnf);repeat((first|refine aF ?_|refine aT ?_);(first|refine rG Γ hm ?_|refine rD Γ hm y_ ?_);conv=>whnf))
 refine Ig q_ (.inl q_) q_ q_ q_ .sl q_ q_ ?_
 intro b hb
 cases b
 ·((first|refine rG Γ hm ?_|refine rD Γ hm y_ ?_);(conv=>whnf);repeat((first|refine aF ?_|refine aT ?_);(first|refine rG Γ hm ?_|refine rD Γ hm y_ ?_);conv=>whnf))
  refine Cj (Aj Γ.toTy 7 q_ q_ q_ q_ q_ (.lit (e:=Cr) (l:=[]) q_ q_) .sl qe (by simp;omega) (by simp;omega)) q_ q_ ?_
  ((first|refine rG Γ hm ?_|refine rD Γ hm y_ ?_);(conv=>whnf);repeat((first|refine aF ?_|refine aT ?_);(first|refine rG Γ hm ?_|refine rD Γ hm y_ ?_);conv=>whnf))
  exact done q_ (.cons .tmp .nil) [(0,7)] [(0,.row 5 Cr l)] (fun _ h=>h) q_ q_ ⟨z_,⟨.inl q_,q_,z_⟩,q_,q_⟩
 ·have h0:l=[]:=List.eq_nil_of_length_eq_zero (hb rfl)
  subst h0
  ((first|refine rG Γ hm ?_|refine rD Γ hm y_ ?_);(conv=>whnf);repeat((first|refine aF ?_|refine aT ?_);(first|refine rG Γ hm ?_|refine rD Γ hm y_ ?_);conv=>whnf))
  refine C0 2 1000 5 Cr q_ q_ ?_
  exact done q_ (.cons .tmp .nil) [(0,1000)] [(0,.row 5 Cr [])] (fun _ h=>h) q_ q_ ⟨z_,⟨.inl q_,q_,z_⟩,q_,q_⟩
theorem Mg (n:Net) (hn:n.Fin) :
  Sy.Spec Tryz.prog 83 [Av n] [] (.agg [.osl 0,.osl 1,.osl 2,.osl 3,.osl 4,.osl 5,.osl 6,.osl 7]) [(0,.row 5 A2 n.devices),(1,.row 7 Bd n.ports),(2,.row 3 Cm n.links),(3,.row 6 An n.domains),(4,.row 4 Bb n.statics),(5,.row 4 Be n.floods),(6,.row 5 Ct n.vrfs),(7,.row 5 Cr n.irbs)]:=cT F83 Tryz.ntmps83 fun F hF=>by
 have h1:n.devices.length<2147483648∧n.ports.length<2147483648∧n.links.length<2147483648∧n.domains.length<2147483648∧n.statics.length<2147483648∧n.floods.length<2147483648∧n.vrfs.length<2147483648∧n.irbs.length<2147483648:=⟨hn.devices,hn.ports,hn.links,hn.domains,hn.statics,hn.floods,hn.vrfs,hn.irbs⟩
 have h2:(∀ p∈n.ports,p.tagged.length<2147483648)∧(∀ p∈n.domains,p.peers.length<2147483648)∧(∀ p∈n.floods,p.addrs.length<2147483648)∧(∀ p∈n.vrfs,p.imports.length<2147483648∧p.exports.length<2147483648):=⟨hn.tagged,hn.peers,hn.addrs,fun v hv=>⟨hn.imports v hv,hn.exports v hv⟩⟩
 ((conv=>whnf);repeat((first|refine aF ?_|refine aT ?_);(first|refine rG Γ hm ?_|refine rD Γ hm y_ ?_);conv=>whnf))
 refine J3 (Ac [(0,11)] q_ F157 (Z6 n.devices h1.1) q_ z_ q_ ⟨.inr q_,z_⟩) y_ q_ ?_
 ((first|refine rG Γ hm ?_|refine rD Γ hm y_ ?_);(conv=>whnf);repeat((first|refine aF ?_|refine aT ?_);(first|refine rG Γ hm ?_|refine rD Γ hm y_ ?_);conv=>whnf))
 refine J3 (Ac [(0,14)] q_ F158 (Ai3 n.ports h1.2.1) q_ z_ q_ ⟨.inr q_,z_⟩) y_ q_ ?_
 ((first|refine rG Γ hm ?_|refine rD Γ hm y_ ?_);(conv=>whnf);repeat((first|refine aF ?_|refine aT ?_);(first|refine rG Γ hm ?_|refine rD Γ hm y_ ?_);conv=>whnf))
 refine J3 (Ac [(0,17)] q_ F159 (Af7 n.links h1.2.2.1) q_ z_ q_ ⟨.inr q_,z_⟩) y_ q_ ?_
 ((first|refine rG Γ hm ?_|refine rD Γ hm y_ ?_);(conv=>whnf);repeat((first|refine aF ?_|refine aT ?_);(first|refine rG Γ hm ?_|refine rD Γ hm y_ ?_);conv=>whnf))
 refine J3 (Ac [(0,20)] q_ F160 (Adh n.domains h1.2.2.2.1) q_ z_ q_ ⟨.inr q_,z_⟩) y_ q_ ?_
 ((first|refine rG Γ hm ?_|refine rD Γ hm y_ ?_);(conv=>whnf);repeat((first|refine aF ?_|refine aT ?_);(first|refine rG Γ hm ?_|refine rD Γ hm y_ ?_);conv=>whnf))
 refine J3 (Ac [(0,23)] q_ F161 (Z5 n.statics h1.2.2.2.2.1) q_ z_ q_ ⟨.inr q_,z_⟩) y_ q_ ?_
 ((first|refine rG Γ hm ?_|refine rD Γ hm y_ ?_);(conv=>whnf);repeat((first|refine aF ?_|refine aT ?_);(first|refine rG Γ hm ?_|refine rD Γ hm y_ ?_);conv=>whnf))
 refine J3 (Ac [(0,26)] q_ F162 (Af8 n.floods h1.2.2.2.2.2.1) q_ z_ q_ ⟨.inr q_,z_⟩) y_ q_ ?_
 ((first|refine rG Γ hm ?_|refine rD Γ hm y_ ?_);(conv=>whnf);repeat((first|refine aF ?_|refine aT ?_);(first|refine rG Γ hm ?_|refine rD Γ hm y_ ?_);conv=>whnf))
 refine J3 (Ac [(0,29)] q_ F163 (Ami n.vrfs h1.2.2.2.2.2.2.1) q_ z_ q_ ⟨.inr q_,z_⟩) y_ q_ ?_
 ((first|refine rG Γ hm ?_|refine rD Γ hm y_ ?_);(conv=>whnf);repeat((first|refine aF ?_|refine aT ?_);(first|refine rG Γ hm ?_|refine rD Γ hm y_ ?_);conv=>whnf))
 refine J3 (Ac [(0,32)] q_ F164 (Ai4 n.irbs h1.2.2.2.2.2.2.2) q_ z_ q_ ⟨.inr q_,z_⟩) y_ q_ ?_
 ((first|refine rG Γ hm ?_|refine rD Γ hm y_ ?_);(conv=>whnf);repeat((first|refine aF ?_|refine aT ?_);(first|refine rG Γ hm ?_|refine rD Γ hm y_ ?_);conv=>whnf))
 refine⟨y_,?_⟩
 ((conv=>whnf);repeat((first|refine aF ?_|refine aT ?_);(first|refine rG Γ hm ?_|refine rD Γ hm y_ ?_);conv=>whnf))
 refine Dj n.ports.length (fun j=>[(2,.ptr 2 0),(3,.ptr 3 0),(36,Aa n.ports.length),(37,Aa j)]) (fun _=>[(2,.box [.val (.slice none 0 0),.val (.slice none 0 0),.val (.slice none 0 0),.val (.slice none 0 0),.val (.slice none 0 0),.val (.slice none 0 0),.val (.slice none 0 0),.val (.slice none 0 0)]),(3,.box [.osl 11,.osl 14,.osl 17,.osl 20,.osl 23,.osl 26,.osl 29,.osl 32]),(11,.row 5 A2 n.devices),(14,.row 7 Bd n.ports),(17,.row 3 Cm n.links),(20,.row 6 An n.domains),(23,.row 4 Bb n.statics),(26,.row 4 Be n.floods),(29,.row 5 Ct n.vrfs),(32,.row 5 Cr n.irbs)]) []
  ⟨⟨rfl,rfl,rfl,rfl,rfl,rfl,rfl,rfl,trivial⟩,⟨.inl rfl,rfl,.inl rfl,rfl,.inl rfl,rfl,.inl rfl,rfl,.inl rfl,rfl,.inl rfl,rfl,.inl rfl,rfl,.inl rfl,rfl,.inl rfl,rfl,.inl rfl,rfl,trivial⟩,rfl,rfl⟩ ?_
 intro j hj
 ((first|refine rG Γ hm ?_|refine rD Γ hm y_ ?_);(conv=>whnf);repeat((first|refine aF ?_|refine aT ?_);(first|refine rG Γ hm ?_|refine rD Γ hm y_ ?_);conv=>whnf))
 refine⟨fun h=>?_,fun h=>?_⟩
 ·have hlt:j<n.ports.length:=by simpa using h
  obtain ⟨p,hp⟩:∃ p,n.ports[(j:Int).toNat]'j_=p:=⟨_,rfl⟩
  have hne:n.ports≠[]:=fun e=>by rw[e]at hlt;cases hlt
  have hset:n.ports.set (j:Int).toNat p=n.ports:=by rw[← hp];exact List.set_getElem_self _
  have hpl:=h2.1 p (by rw[← hp];exact List.getElem_mem _)
  ((first|refine rG Γ hm ?_|refine rD Γ hm y_ ?_);(conv=>whnf);repeat((first|refine aF ?_|refine aT ?_);(first|refine rG Γ hm ?_|refine rD Γ hm y_ ?_);conv=>whnf))
  refine⟨by omega,by show _<n.ports.length;omega,?_⟩
  ((conv=>whnf);repeat((first|refine aF ?_|refine aT ?_);(first|refine rG Γ hm ?_|refine rD Γ hm y_ ?_);conv=>whnf))
  refine⟨hne,?_⟩
  ((conv=>whnf);repeat((first|refine aF ?_|refine aT ?_);(first|refine rG Γ hm ?_|refine rD Γ hm y_ ?_);conv=>whnf))
  refine⟨q_,by omega,?_⟩
  rw[hp]
  ((conv=>whnf);repeat((first|refine aF ?_|refine aT ?_);(first|refine rG Γ hm ?_|refine rD Γ hm y_ ?_);conv=>whnf))
  refine cD (Es p.tagged hpl) F21 ?_
  ((first|refine rG Γ hm ?_|refine rD Γ hm y_ ?_);(conv=>whnf);repeat((first|refine aF ?_|refine aT ?_);(first|refine rG Γ hm ?_|refine rD Γ hm y_ ?_);conv=>whnf))
  refine⟨by omega,by show _<n.ports.length;omega,?_⟩
  ((conv=>whnf);repeat((first|refine aF ?_|refine aT ?_);(first|refine rG Γ hm ?_|refine rD Γ hm y_ ?_);conv=>whnf))
  refine⟨hne,?_⟩
  ((conv=>whnf);repeat((first|refine aF ?_|refine aT ?_);(first|refine rG Γ hm ?_|refine rD Γ hm y_ ?_);conv=>whnf))
  refine⟨q_,by omega,p,(by rw[hp];rfl),(by rw[hp];rfl),?_⟩
  ((conv=>whnf);repeat((first|refine aF ?_|refine aT ?_);(first|refine rG Γ hm ?_|refine rD Γ hm y_ ?_);conv=>whnf))
  refine⟨y_,?_⟩
  ((conv=>whnf);repeat((first|refine aF ?_|refine aT ?_);(first|refine rG Γ hm ?_|refine rD Γ hm y_ ?_);conv=>whnf))
  refine iL ?_
  ((conv=>whnf);repeat((first|refine aF ?_|refine aT ?_);(first|refine rG Γ hm ?_|refine rD Γ hm y_ ?_);conv=>whnf))
  exact Dl [] hlt ⟨⟨q_,q_,q_,q_,q_,q_,q_,q_,z_⟩,⟨.inl q_,q_,.inl q_,q_,.inl q_,q_,.inl (congrArg (Ob.row 7 Bd) hset.symm),q_,.inl q_,q_,.inl q_,q_,.inl q_,q_,.inl q_,q_,.inl q_,q_,.inl q_,q_,z_⟩,q_,q_⟩
 ·((first|refine rG Γ hm ?_|refine rD Γ hm y_ ?_);(conv=>whnf);repeat((first|refine aF ?_|refine aT ?_);(first|refine rG Γ hm ?_|refine rD Γ hm y_ ?_);conv=>whnf))
  refine Dj n.domains.length (fun j=>[(2,.ptr 2 0),(3,.ptr 3 0),(55,Aa n.domains.length),(56,Aa j)]) (fun _=>[(2,.box [.val (.slice none 0 0),.val (.slice none 0 0),.val (.slice none 0 0),.val (.slice none 0 0),.val (.slice none 0 0),.val (.slice none 0 0),.val (.slice none 0 0),.val (.slice none 0 0)]),(3,.box [.osl 11,.osl 14,.osl 17,.osl 20,.osl 23,.osl 26,.osl 29,.osl 32]),(11,.row 5 A2 n.devices),(14,.row 7 Bd n.ports),(17,.row 3 Cm n.links),(20,.row 6 An n.domains),(23,.row 4 Bb n.statics),(26,.row 4 Be n.floods),(29,.row 5 Ct n.vrfs),(32,.row 5 Cr n.irbs)]) []
   ⟨⟨rfl,rfl,rfl,rfl,rfl,rfl,rfl,rfl,trivial⟩,⟨.inl rfl,rfl,.inl rfl,rfl,.inl rfl,rfl,.inl rfl,rfl,.inl rfl,rfl,.inl rfl,rfl,.inl rfl,rfl,.inl rfl,rfl,.inl rfl,rfl,.inl rfl,rfl,trivial⟩,rfl,rfl⟩ ?_
  intro j hj
  ((first|refine rG Γ hm ?_|refine rD Γ hm y_ ?_);(conv=>whnf);repeat((first|refine aF ?_|refine aT ?_);(first|refine rG Γ hm ?_|refine rD Γ hm y_ ?_);conv=>whnf))
  refine⟨fun h=>?_,fun h=>?_⟩
  ·have hlt:j<n.domains.length:=by simpa using h
   obtain ⟨p,hp⟩:∃ p,n.domains[(j:Int).toNat]'j_=p:=⟨_,rfl⟩
   have hne:n.domains≠[]:=fun e=>by rw[e]at hlt;cases hlt
   have hset:n.domains.set (j:Int).toNat p=n.domains:=by rw[← hp];exact List.set_getElem_self _
   have hpl:=h2.2.1 p (by rw[← hp];exact List.getElem_mem _)
   ((first|refine rG Γ hm ?_|refine rD Γ hm y_ ?_);(conv=>whnf);repeat((first|refine aF ?_|refine aT ?_);(first|refine rG Γ hm ?_|refine rD Γ hm y_ ?_);conv=>whnf))
   refine⟨by omega,by show _<n.domains.length;omega,?_⟩
   ((conv=>whnf);repeat((first|refine aF ?_|refine aT ?_);(first|refine rG Γ hm ?_|refine rD Γ hm y_ ?_);conv=>whnf))
   refine⟨hne,?_⟩
   ((conv=>whnf);repeat((first|refine aF ?_|refine aT ?_);(first|refine rG Γ hm ?_|refine rD Γ hm y_ ?_);conv=>whnf))
   refine⟨q_,by omega,?_⟩
   rw[hp]
   ((conv=>whnf);repeat((first|refine aF ?_|refine aT ?_);(first|refine rG Γ hm ?_|refine rD Γ hm y_ ?_);conv=>whnf))
   refine cD (Es p.peers hpl) F21 ?_
   ((first|refine rG Γ hm ?_|refine rD Γ hm y_ ?_);(conv=>whnf);repeat((first|refine aF ?_|refine aT ?_);(first|refine rG Γ hm ?_|refine rD Γ hm y_ ?_);conv=>whnf))
   refine⟨by omega,by show _<n.domains.length;omega,?_⟩
   ((conv=>whnf);repeat((first|refine aF ?_|refine aT ?_);(first|refine rG Γ hm ?_|refine rD Γ hm y_ ?_);conv=>whnf))
   refine⟨hne,?_⟩
   ((conv=>whnf);repeat((first|refine aF ?_|refine aT ?_);(first|refine rG Γ hm ?_|refine rD Γ hm y_ ?_);conv=>whnf))
   refine⟨q_,by omega,p,(by rw[hp];rfl),(by rw[hp];rfl),?_⟩
   ((conv=>whnf);repeat((first|refine aF ?_|refine aT ?_);(first|refine rG Γ hm ?_|refine rD Γ hm y_ ?_);conv=>whnf))
   refine⟨y_,?_⟩
   ((conv=>whnf);repeat((first|refine aF ?_|refine aT ?_);(first|refine rG Γ hm ?_|refine rD Γ hm y_ ?_);conv=>whnf))
   refine iL ?_
   ((conv=>whnf);repeat((first|refine aF ?_|refine aT ?_);(first|refine rG Γ hm ?_|refine rD Γ hm y_ ?_);conv=>whnf))
   exact Dl [] hlt ⟨⟨q_,q_,q_,q_,q_,q_,q_,q_,z_⟩,⟨.inl q_,q_,.inl q_,q_,.inl q_,q_,.inl q_,q_,.inl q_,q_,.inl (congrArg (Ob.row 6 An) hset.symm),q_,.inl q_,q_,.inl q_,q_,.inl q_,q_,.inl q_,q_,z_⟩,q_,q_⟩
  ·((first|refine rG Γ hm ?_|refine rD Γ hm y_ ?_);(conv=>whnf);repeat((first|refine aF ?_|refine aT ?_);(first|refine rG Γ hm ?_|refine rD Γ hm y_ ?_);conv=>whnf))
   refine Dj n.floods.length (fun j=>[(2,.ptr 2 0),(3,.ptr 3 0),(74,Aa n.floods.length),(75,Aa j)]) (fun _=>[(2,.box [.val (.slice none 0 0),.val (.slice none 0 0),.val (.slice none 0 0),.val (.slice none 0 0),.val (.slice none 0 0),.val (.slice none 0 0),.val (.slice none 0 0),.val (.slice none 0 0)]),(3,.box [.osl 11,.osl 14,.osl 17,.osl 20,.osl 23,.osl 26,.osl 29,.osl 32]),(11,.row 5 A2 n.devices),(14,.row 7 Bd n.ports),(17,.row 3 Cm n.links),(20,.row 6 An n.domains),(23,.row 4 Bb n.statics),(26,.row 4 Be n.floods),(29,.row 5 Ct n.vrfs),(32,.row 5 Cr n.irbs)]) []
    ⟨⟨rfl,rfl,rfl,rfl,rfl,rfl,rfl,rfl,trivial⟩,⟨.inl rfl,rfl,.inl rfl,rfl,.inl rfl,rfl,.inl rfl,rfl,.inl rfl,rfl,.inl rfl,rfl,.inl rfl,rfl,.inl rfl,rfl,.inl rfl,rfl,.inl rfl,rfl,trivial⟩,rfl,rfl⟩ ?_
   intro j hj
   ((first|refine rG Γ hm ?_|refine rD Γ hm y_ ?_);(conv=>whnf);repeat((first|refine aF ?_|refine aT ?_);(first|refine rG Γ hm ?_|refine rD Γ hm y_ ?_);conv=>whnf))
   refine⟨fun h=>?_,fun h=>?_⟩
   ·have hlt:j<n.floods.length:=by simpa using h
    obtain ⟨p,hp⟩:∃ p,n.floods[(j:Int).toNat]'j_=p:=⟨_,rfl⟩
    have hne:n.floods≠[]:=fun e=>by rw[e]at hlt;cases hlt
    have hset:n.floods.set (j:Int).toNat p=n.floods:=by rw[← hp];exact List.set_getElem_self _
    have hpl:=h2.2.2.1 p (by rw[← hp];exact List.getElem_mem _)
    ((first|refine rG Γ hm ?_|refine rD Γ hm y_ ?_);(conv=>whnf);repeat((first|refine aF ?_|refine aT ?_);(first|refine rG Γ hm ?_|refine rD Γ hm y_ ?_);conv=>whnf))
    refine⟨by omega,by show _<n.floods.length;omega,?_⟩
    ((conv=>whnf);repeat((first|refine aF ?_|refine aT ?_);(first|refine rG Γ hm ?_|refine rD Γ hm y_ ?_);conv=>whnf))
    refine⟨hne,?_⟩
    ((conv=>whnf);repeat((first|refine aF ?_|refine aT ?_);(first|refine rG Γ hm ?_|refine rD Γ hm y_ ?_);conv=>whnf))
    refine⟨q_,by omega,?_⟩
    rw[hp]
    ((conv=>whnf);repeat((first|refine aF ?_|refine aT ?_);(first|refine rG Γ hm ?_|refine rD Γ hm y_ ?_);conv=>whnf))
    refine cD (Vj p.addrs hpl) F22 ?_
    ((first|refine rG Γ hm ?_|refine rD Γ hm y_ ?_);(conv=>whnf);repeat((first|refine aF ?_|refine aT ?_);(first|refine rG Γ hm ?_|refine rD Γ hm y_ ?_);conv=>whnf))
    refine⟨by omega,by show _<n.floods.length;omega,?_⟩
    ((conv=>whnf);repeat((first|refine aF ?_|refine aT ?_);(first|refine rG Γ hm ?_|refine rD Γ hm y_ ?_);conv=>whnf))
    refine⟨hne,?_⟩
    ((conv=>whnf);repeat((first|refine aF ?_|refine aT ?_);(first|refine rG Γ hm ?_|refine rD Γ hm y_ ?_);conv=>whnf))
    refine⟨q_,by omega,p,(by rw[hp];rfl),(by rw[hp];rfl),?_⟩
    ((conv=>whnf);repeat((first|refine aF ?_|refine aT ?_);(first|refine rG Γ hm ?_|refine rD Γ hm y_ ?_);conv=>whnf))
    refine⟨y_,?_⟩
    ((conv=>whnf);repeat((first|refine aF ?_|refine aT ?_);(first|refine rG Γ hm ?_|refine rD Γ hm y_ ?_);conv=>whnf))
    refine iL ?_
    ((conv=>whnf);repeat((first|refine aF ?_|refine aT ?_);(first|refine rG Γ hm ?_|refine rD Γ hm y_ ?_);conv=>whnf))
    exact Dl [] hlt ⟨⟨q_,q_,q_,q_,q_,q_,q_,q_,z_⟩,⟨.inl q_,q_,.inl q_,q_,.inl q_,q_,.inl q_,q_,.inl q_,q_,.inl q_,q_,.inl q_,q_,.inl (congrArg (Ob.row 4 Be) hset.symm),q_,.inl q_,q_,.inl q_,q_,z_⟩,q_,q_⟩
   ·((first|refine rG Γ hm ?_|refine rD Γ hm y_ ?_);(conv=>whnf);repeat((first|refine aF ?_|refine aT ?_);(first|refine rG Γ hm ?_|refine rD Γ hm y_ ?_);conv=>whnf))
    refine Dj n.vrfs.length (fun j=>[(2,.ptr 2 0),(3,.ptr 3 0),(93,Aa n.vrfs.length),(94,Aa j)]) (fun _=>[(2,.box [.val (.slice none 0 0),.val (.slice none 0 0),.val (.slice none 0 0),.val (.slice none 0 0),.val (.slice none 0 0),.val (.slice none 0 0),.val (.slice none 0 0),.val (.slice none 0 0)]),(3,.box [.osl 11,.osl 14,.osl 17,.osl 20,.osl 23,.osl 26,.osl 29,.osl 32]),(11,.row 5 A2 n.devices),(14,.row 7 Bd n.ports),(17,.row 3 Cm n.links),(20,.row 6 An n.domains),(23,.row 4 Bb n.statics),(26,.row 4 Be n.floods),(29,.row 5 Ct n.vrfs),(32,.row 5 Cr n.irbs)]) []
     ⟨⟨rfl,rfl,rfl,rfl,rfl,rfl,rfl,rfl,trivial⟩,⟨.inl rfl,rfl,.inl rfl,rfl,.inl rfl,rfl,.inl rfl,rfl,.inl rfl,rfl,.inl rfl,rfl,.inl rfl,rfl,.inl rfl,rfl,.inl rfl,rfl,.inl rfl,rfl,trivial⟩,rfl,rfl⟩ ?_
    intro j hj
    ((first|refine rG Γ hm ?_|refine rD Γ hm y_ ?_);(conv=>whnf);repeat((first|refine aF ?_|refine aT ?_);(first|refine rG Γ hm ?_|refine rD Γ hm y_ ?_);conv=>whnf))
    refine⟨fun h=>?_,fun h=>?_⟩
    ·have hlt:j<n.vrfs.length:=by simpa using h
     obtain ⟨p,hp⟩:∃ p,n.vrfs[(j:Int).toNat]'j_=p:=⟨_,rfl⟩
     have hne:n.vrfs≠[]:=fun e=>by rw[e]at hlt;cases hlt
     have hset:n.vrfs.set (j:Int).toNat p=n.vrfs:=by rw[← hp];exact List.set_getElem_self _
     have hpl:=h2.2.2.2 p (by rw[← hp];exact List.getElem_mem _)
     ((first|refine rG Γ hm ?_|refine rD Γ hm y_ ?_);(conv=>whnf);repeat((first|refine aF ?_|refine aT ?_);(first|refine rG Γ hm ?_|refine rD Γ hm y_ ?_);conv=>whnf))
     have hne2:n.vrfs.set (j:Int).toNat p≠[]:=by rw[hset];exact hne
     have hp2:(n.vrfs.set (j:Int).toNat p)[(j:Int).toNat]'(by rw[hset];omega)=p:=by simp
     have hset2:(n.vrfs.set (j:Int).toNat p).set (j:Int).toNat p=n.vrfs:=by rw[hset,hset]
     refine⟨by omega,by show _<n.vrfs.length;omega,?_⟩
     ((conv=>whnf);repeat((first|refine aF ?_|refine aT ?_);(first|refine rG Γ hm ?_|refine rD Γ hm y_ ?_);conv=>whnf))
     refine J3 (Dz q_ (.inr (.inr (.inr ⟨29,5,_,0,q_,fun κ w h=>O4 hne h,q_⟩)))) y_ q_ ?_
     ((first|refine rG Γ hm ?_|refine rD Γ hm y_ ?_);(conv=>whnf);repeat((first|refine aF ?_|refine aT ?_);(first|refine rG Γ hm ?_|refine rD Γ hm y_ ?_);conv=>whnf))
     refine⟨hne,?_⟩
     ((conv=>whnf);repeat((first|refine aF ?_|refine aT ?_);(first|refine rG Γ hm ?_|refine rD Γ hm y_ ?_);conv=>whnf))
     refine⟨q_,by omega,?_⟩
     rw[hp]
     ((conv=>whnf);repeat((first|refine aF ?_|refine aT ?_);(first|refine rG Γ hm ?_|refine rD Γ hm y_ ?_);conv=>whnf))
     refine cD (Es p.imports hpl.1) F21 ?_
     ((first|refine rG Γ hm ?_|refine rD Γ hm y_ ?_);(conv=>whnf);repeat((first|refine aF ?_|refine aT ?_);(first|refine rG Γ hm ?_|refine rD Γ hm y_ ?_);conv=>whnf))
     refine J3 (Dz q_ (.inr (.inr (.inr ⟨29,5,_,0,q_,fun κ w h=>O4 hne h,q_⟩)))) y_ q_ ?_
     ((first|refine rG Γ hm ?_|refine rD Γ hm y_ ?_);(conv=>whnf);repeat((first|refine aF ?_|refine aT ?_);(first|refine rG Γ hm ?_|refine rD Γ hm y_ ?_);conv=>whnf))
     refine⟨hne,?_⟩
     ((conv=>whnf);repeat((first|refine aF ?_|refine aT ?_);(first|refine rG Γ hm ?_|refine rD Γ hm y_ ?_);conv=>whnf))
     refine⟨q_,by omega,?_⟩
     rw[hp]
     ((conv=>whnf);repeat((first|refine aF ?_|refine aT ?_);(first|refine rG Γ hm ?_|refine rD Γ hm y_ ?_);conv=>whnf))
     refine cD (Es p.exports hpl.2) F21 ?_
     ((first|refine rG Γ hm ?_|refine rD Γ hm y_ ?_);(conv=>whnf);repeat((first|refine aF ?_|refine aT ?_);(first|refine rG Γ hm ?_|refine rD Γ hm y_ ?_);conv=>whnf))
     refine J3 (Dz q_ (.inr (.inr (.inr ⟨29,5,_,0,q_,fun κ w h=>O4 hne h,q_⟩)))) y_ q_ ?_
     ((first|refine rG Γ hm ?_|refine rD Γ hm y_ ?_);(conv=>whnf);repeat((first|refine aF ?_|refine aT ?_);(first|refine rG Γ hm ?_|refine rD Γ hm y_ ?_);conv=>whnf))
     refine⟨hne,?_⟩
     ((conv=>whnf);repeat((first|refine aF ?_|refine aT ?_);(first|refine rG Γ hm ?_|refine rD Γ hm y_ ?_);conv=>whnf))
     refine⟨q_,by omega,p,(by rw[hp];rfl),(by rw[hp];rfl),?_⟩
     ((conv=>whnf);repeat((first|refine aF ?_|refine aT ?_);(first|refine rG Γ hm ?_|refine rD Γ hm y_ ?_);conv=>whnf))
     refine J3 (Dz q_ (.inr (.inr (.inr ⟨29,5,_,0,q_,fun κ w h=>O4 hne2 h,q_⟩)))) y_ q_ ?_
     ((first|refine rG Γ hm ?_|refine rD Γ hm y_ ?_);(conv=>whnf);repeat((first|refine aF ?_|refine aT ?_);(first|refine rG Γ hm ?_|refine rD Γ hm y_ ?_);conv=>whnf))
     refine⟨hne2,?_⟩
     ((conv=>whnf);repeat((first|refine aF ?_|refine aT ?_);(first|refine rG Γ hm ?_|refine rD Γ hm y_ ?_);conv=>whnf))
     refine⟨q_,by rw[hset];omega,p,(by rw[hp2];rfl),(by rw[hp2];rfl),?_⟩
     ((conv=>whnf);repeat((first|refine aF ?_|refine aT ?_);(first|refine rG Γ hm ?_|refine rD Γ hm y_ ?_);conv=>whnf))
     refine⟨y_,?_⟩
     ((conv=>whnf);repeat((first|refine aF ?_|refine aT ?_);(first|refine rG Γ hm ?_|refine rD Γ hm y_ ?_);conv=>whnf))
     refine iL ?_
     ((conv=>whnf);repeat((first|refine aF ?_|refine aT ?_);(first|refine rG Γ hm ?_|refine rD Γ hm y_ ?_);conv=>whnf))
     exact Dl [] hlt ⟨⟨q_,q_,q_,q_,q_,q_,q_,q_,z_⟩,⟨.inl q_,q_,.inl q_,q_,.inl q_,q_,.inl q_,q_,.inl q_,q_,.inl q_,q_,.inl q_,q_,.inl q_,q_,.inl (congrArg (Ob.row 5 Ct) hset2.symm),q_,.inl q_,q_,z_⟩,q_,q_⟩
    ·((first|refine rG Γ hm ?_|refine rD Γ hm y_ ?_);(conv=>whnf);repeat((first|refine aF ?_|refine aT ?_);(first|refine rG Γ hm ?_|refine rD Γ hm y_ ?_);conv=>whnf))
     exact done q_ (.cons (.cell q_ q_ q_ q_) .nil) [(0,11),(1,14),(2,17),(3,20),(4,23),(5,26),(6,29),(7,32)] [(0,.row 5 A2 n.devices),(1,.row 7 Bd n.ports),(2,.row 3 Cm n.links),(3,.row 6 An n.domains),(4,.row 4 Bb n.statics),(5,.row 4 Be n.floods),(6,.row 5 Ct n.vrfs),(7,.row 5 Cr n.irbs)] (fun _ h=>h) q_ q_ ⟨z_,⟨.inl q_,q_,.inl q_,q_,.inl q_,q_,.inl q_,q_,.inl q_,q_,.inl q_,q_,.inl q_,q_,.inl q_,q_,z_⟩,q_,q_⟩
end Go.Sy.YtdkfcckkkfghgaaGreatDoor
namespace Go.Sy.YtdkfcckkkfghgaaGreatDoor
open Go.Proofs
attribute [local irreducible] Go.Sy.G Go.Sy.DR
set_option maxRecDepth 20000
set_option maxHeartbeats 4000000
theorem Ip (l:List Device) (p:Device→Bool) (f:FuncId) (first cap:List SV) (hc:(SV.clo (.func f) first cap).inn []=true) (hf:∀ x∈l,Hg Tryz.prog f (first++[A2 x]++cap) (Ab (p x))) (hl:Ax l) :
  Sy.Spec Tryz.prog 169 [.sl 5 A2 l,.clo (.func f) first cap] [] (Aa (B4 p l)) []:=cT F169 Tryz.ntmps169 fun F hF=>by
 unfold Ax at hl
 have hin:∀ x:Device,Bn [] (first++[A2 x]++cap)=true:=fun x=>Dd hc rfl
 ((conv=>whnf);repeat((first|refine aF ?_|refine aT ?_);(first|refine rG Γ hm ?_|refine rD Γ hm y_ ?_);conv=>whnf))
 refine Bf l.length (fun j=>I2 (fun _ x=>!(p x)) l j) (fun j=>[(0,.sl 5 A2 l),(1,.clo (.func f) first cap),(7,Aa l.length),(8,Aa j)]) (fun _=>[]) [] (Bt _ _) ⟨⟨q_,q_,Ay _,hc,q_,q_,q_,q_,z_⟩,z_,q_,q_⟩ ?_
 intro j hj hI
 ((first|refine rG Γ hm ?_|refine rD Γ hm y_ ?_);(conv=>whnf);repeat((first|refine aF ?_|refine aT ?_);(first|refine rG Γ hm ?_|refine rD Γ hm y_ ?_);conv=>whnf))
 refine⟨fun h=>?_,fun h=>?_⟩
 ·have h:=of_decide_eq_true h
  have hj2:j<l.length:=by omega
  ((first|refine rG Γ hm ?_|refine rD Γ hm y_ ?_);(conv=>whnf);repeat((first|refine aF ?_|refine aT ?_);(first|refine rG Γ hm ?_|refine rD Γ hm y_ ?_);conv=>whnf))
  refine⟨q_,by omega,by omega,?_⟩
  ((conv=>whnf);repeat((first|refine aF ?_|refine aT ?_);(first|refine rG Γ hm ?_|refine rD Γ hm y_ ?_);conv=>whnf))
  refine Iy (hf l[j] (List.getElem_mem hj2)) q_ q_ q_ (by simp only[hin];rfl) q_ q_ ?_
  ((first|refine rG Γ hm ?_|refine rD Γ hm y_ ?_);(conv=>whnf);repeat((first|refine aF ?_|refine aT ?_);(first|refine rG Γ hm ?_|refine rD Γ hm y_ ?_);conv=>whnf))
  refine⟨fun h2=>?_,fun h2=>?_⟩
  ·((first|refine rG Γ hm ?_|refine rD Γ hm y_ ?_);(conv=>whnf);repeat((first|refine aF ?_|refine aT ?_);(first|refine rG Γ hm ?_|refine rD Γ hm y_ ?_);conv=>whnf))
   refine Aw q_ (.cons .tmp .nil) (congrArg Aa ?_) q_
   exact Di hj2 (fun i hi hij=>by simpa using hI i hi hij) h2
  ·((first|refine rG Γ hm ?_|refine rD Γ hm y_ ?_);(conv=>whnf);repeat((first|refine aF ?_|refine aT ?_);(first|refine rG Γ hm ?_|refine rD Γ hm y_ ?_);conv=>whnf))
   refine iL ?_
   ((conv=>whnf);repeat((first|refine aF ?_|refine aT ?_);(first|refine rG Γ hm ?_|refine rD Γ hm y_ ?_);conv=>whnf))
   exact Bi [] hI hj2 (Bm hI hj2 (by simp[h2])) ⟨⟨q_,q_,Ay _,hc,q_,q_,q_,q_,z_⟩,z_,q_,q_⟩
 ·have h:=of_decide_eq_false h
  ((first|refine rG Γ hm ?_|refine rD Γ hm y_ ?_);(conv=>whnf);repeat((first|refine aF ?_|refine aT ?_);(first|refine rG Γ hm ?_|refine rD Γ hm y_ ?_);conv=>whnf))
  refine Aw q_ (.cons .tmp .nil) (congrArg Aa ?_) q_
  exact Hc (fun i hi=>by simpa using hI i hi j_)
theorem Ve (l:List Flood) (p:Flood→Bool) (f:FuncId) (first cap:List SV) (hc:(SV.clo (.func f) first cap).inn []=true) (hf:∀ x∈l,Hg Tryz.prog f (first++[Be x]++cap) (Ab (p x))) (hl:Ax l) :
  Sy.Spec Tryz.prog 165 [.sl 4 Be l,.clo (.func f) first cap] [] (Aa (B4 p l)) []:=cT F165 Tryz.ntmps165 fun F hF=>by
 unfold Ax at hl
 have hin:∀ x:Flood,Bn [] (first++[Be x]++cap)=true:=fun x=>Dd hc rfl
 ((conv=>whnf);repeat((first|refine aF ?_|refine aT ?_);(first|refine rG Γ hm ?_|refine rD Γ hm y_ ?_);conv=>whnf))
 refine Bf l.length (fun j=>I2 (fun _ x=>!(p x)) l j) (fun j=>[(0,.sl 4 Be l),(1,.clo (.func f) first cap),(7,Aa l.length),(8,Aa j)]) (fun _=>[]) [] (Bt _ _) ⟨⟨q_,q_,Ay _,hc,q_,q_,q_,q_,z_⟩,z_,q_,q_⟩ ?_
 intro j hj hI
 ((first|refine rG Γ hm ?_|refine rD Γ hm y_ ?_);(conv=>whnf);repeat((first|refine aF ?_|refine aT ?_);(first|refine rG Γ hm ?_|refine rD Γ hm y_ ?_);conv=>whnf))
 refine⟨fun h=>?_,fun h=>?_⟩
 ·have h:=of_decide_eq_true h
  have hj2:j<l.length:=by omega
  ((first|refine rG Γ hm ?_|refine rD Γ hm y_ ?_);(conv=>whnf);repeat((first|refine aF ?_|refine aT ?_);(first|refine rG Γ hm ?_|refine rD Γ hm y_ ?_);conv=>whnf))
  refine⟨q_,by omega,by omega,?_⟩
  ((conv=>whnf);repeat((first|refine aF ?_|refine aT ?_);(first|refine rG Γ hm ?_|refine rD Γ hm y_ ?_);conv=>whnf))
  refine Iy (hf l[j] (List.getElem_mem hj2)) q_ q_ q_ (by simp only[hin];rfl) q_ q_ ?_
  ((first|refine rG Γ hm ?_|refine rD Γ hm y_ ?_);(conv=>whnf);repeat((first|refine aF ?_|refine aT ?_);(first|refine rG Γ hm ?_|refine rD Γ hm y_ ?_);conv=>whnf))
  refine⟨fun h2=>?_,fun h2=>?_⟩
  ·((first|refine rG Γ hm ?_|refine rD Γ hm y_ ?_);(conv=>whnf);repeat((first|refine aF ?_|refine aT ?_);(first|refine rG Γ hm ?_|refine rD Γ hm y_ ?_);conv=>whnf))
   refine Aw q_ (.cons .tmp .nil) (congrArg Aa ?_) q_
   exact Di hj2 (fun i hi hij=>by simpa using hI i hi hij) h2
  ·((first|refine rG Γ hm ?_|refine rD Γ hm y_ ?_);(conv=>whnf);repeat((first|refine aF ?_|refine aT ?_);(first|refine rG Γ hm ?_|refine rD Γ hm y_ ?_);conv=>whnf))
   refine iL ?_
   ((conv=>whnf);repeat((first|refine aF ?_|refine aT ?_);(first|refine rG Γ hm ?_|refine rD Γ hm y_ ?_);conv=>whnf))
   exact Bi [] hI hj2 (Bm hI hj2 (by simp[h2])) ⟨⟨q_,q_,Ay _,hc,q_,q_,q_,q_,z_⟩,z_,q_,q_⟩
 ·have h:=of_decide_eq_false h
  ((first|refine rG Γ hm ?_|refine rD Γ hm y_ ?_);(conv=>whnf);repeat((first|refine aF ?_|refine aT ?_);(first|refine rG Γ hm ?_|refine rD Γ hm y_ ?_);conv=>whnf))
  refine Aw q_ (.cons .tmp .nil) (congrArg Aa ?_) q_
  exact Hc (fun i hi=>by simpa using hI i hi j_)
theorem Yr (l:List Vrf) (p:Vrf→Bool) (f:FuncId) (first cap:List SV) (hc:(SV.clo (.func f) first cap).inn []=true) (hf:∀ x∈l,Hg Tryz.prog f (first++[Ct x]++cap) (Ab (p x))) (hl:Ax l) :
  Sy.Spec Tryz.prog 253 [.sl 5 Ct l,.clo (.func f) first cap] [] (Aa (B4 p l)) []:=cT F253 Tryz.ntmps253 fun F hF=>by
 unfold Ax at hl
 have hin:∀ x:Vrf,Bn [] (first++[Ct x]++cap)=true:=fun x=>Dd hc rfl
 ((conv=>whnf);repeat((first|refine aF ?_|refine aT ?_);(first|refine rG Γ hm ?_|refine rD Γ hm y_ ?_);conv=>whnf))
 refine Bf l.length (fun j=>I2 (fun _ x=>!(p x)) l j) (fun j=>[(0,.sl 5 Ct l),(1,.clo (.func f) first cap),(7,Aa l.length),(8,Aa j)]) (fun _=>[]) [] (Bt _ _) ⟨⟨q_,q_,Ay _,hc,q_,q_,q_,q_,z_⟩,z_,q_,q_⟩ ?_
 intro j hj hI
 ((first|refine rG Γ hm ?_|refine rD Γ hm y_ ?_);(conv=>whnf);repeat((first|refine aF ?_|refine aT ?_);(first|refine rG Γ hm ?_|refine rD Γ hm y_ ?_);conv=>whnf))
 refine⟨fun h=>?_,fun h=>?_⟩
 ·have h:=of_decide_eq_true h
  have hj2:j<l.length:=by omega
  ((first|refine rG Γ hm ?_|refine rD Γ hm y_ ?_);(conv=>whnf);repeat((first|refine aF ?_|refine aT ?_);(first|refine rG Γ hm ?_|refine rD Γ hm y_ ?_);conv=>whnf))
  refine⟨q_,by omega,by omega,?_⟩
  ((conv=>whnf);repeat((first|refine aF ?_|refine aT ?_);(first|refine rG Γ hm ?_|refine rD Γ hm y_ ?_);conv=>whnf))
  refine Iy (hf l[j] (List.getElem_mem hj2)) q_ q_ q_ (by simp only[hin];rfl) q_ q_ ?_
  ((first|refine rG Γ hm ?_|refine rD Γ hm y_ ?_);(conv=>whnf);repeat((first|refine aF ?_|refine aT ?_);(first|refine rG Γ hm ?_|refine rD Γ hm y_ ?_);conv=>whnf))
  refine⟨fun h2=>?_,fun h2=>?_⟩
  ·((first|refine rG Γ hm ?_|refine rD Γ hm y_ ?_);(conv=>whnf);repeat((first|refine aF ?_|refine aT ?_);(first|refine rG Γ hm ?_|refine rD Γ hm y_ ?_);conv=>whnf))
   refine Aw q_ (.cons .tmp .nil) (congrArg Aa ?_) q_
   exact Di hj2 (fun i hi hij=>by simpa using hI i hi hij) h2
  ·((first|refine rG Γ hm ?_|refine rD Γ hm y_ ?_);(conv=>whnf);repeat((first|refine aF ?_|refine aT ?_);(first|refine rG Γ hm ?_|refine rD Γ hm y_ ?_);conv=>whnf))
   refine iL ?_
   ((conv=>whnf);repeat((first|refine aF ?_|refine aT ?_);(first|refine rG Γ hm ?_|refine rD Γ hm y_ ?_);conv=>whnf))
   exact Bi [] hI hj2 (Bm hI hj2 (by simp[h2])) ⟨⟨q_,q_,Ay _,hc,q_,q_,q_,q_,z_⟩,z_,q_,q_⟩
 ·have h:=of_decide_eq_false h
  ((first|refine rG Γ hm ?_|refine rD Γ hm y_ ?_);(conv=>whnf);repeat((first|refine aF ?_|refine aT ?_);(first|refine rG Γ hm ?_|refine rD Γ hm y_ ?_);conv=>whnf))
  refine Aw q_ (.cons .tmp .nil) (congrArg Aa ?_) q_
  exact Hc (fun i hi=>by simpa using hI i hi j_)
theorem Ot (l:List Device) (p:Device→Bool) (f:FuncId) (first cap:List SV) (hc:(SV.clo (.func f) first cap).inn []=true) (hf:∀ x∈l,Hg Tryz.prog f (first++[A2 x]++cap) (Ab (p x))) (hl:Ax l) :
  Sy.Spec Tryz.prog 123 [.sl 5 A2 l,.clo (.func f) first cap] [] (Ab (decide (0≤B4 p l))) []:=cT F123 Tryz.ntmps123 fun F hF=>by
 have h0:Bn [] [.sl 5 A2 l,.clo (.func f) first cap]=true:=by simp only[Bn,hc];rfl
 ((conv=>whnf);repeat((first|refine aF ?_|refine aT ?_);(first|refine rG Γ hm ?_|refine rD Γ hm y_ ?_);conv=>whnf))
 refine Mq (Ip l p f first cap hc hf hl) F169 q_ q_ (by simp only[h0];rfl) q_ q_ ?_
 ((first|refine rG Γ hm ?_|refine rD Γ hm y_ ?_);(conv=>whnf);repeat((first|refine aF ?_|refine aT ?_);(first|refine rG Γ hm ?_|refine rD Γ hm y_ ?_);conv=>whnf))
 exact dN
theorem Jw (l:List Domain) (p:Domain→Bool) (f:FuncId) (first cap:List SV) (hc:(SV.clo (.func f) first cap).inn []=true) (hf:∀ x∈l,Hg Tryz.prog f (first++[An x]++cap) (Ab (p x))) (hl:Ax l) :
  Sy.Spec Tryz.prog 206 [.sl 6 An l,.clo (.func f) first cap] [] (Ab (decide (0≤B4 p l))) []:=cT F206 Tryz.ntmps206 fun F hF=>by
 have h0:Bn [] [.sl 6 An l,.clo (.func f) first cap]=true:=by simp only[Bn,hc];rfl
 ((conv=>whnf);repeat((first|refine aF ?_|refine aT ?_);(first|refine rG Γ hm ?_|refine rD Γ hm y_ ?_);conv=>whnf))
 refine Mq (Ez l p f first cap hc hf hl) F167 q_ q_ (by simp only[h0];rfl) q_ q_ ?_
 ((first|refine rG Γ hm ?_|refine rD Γ hm y_ ?_);(conv=>whnf);repeat((first|refine aF ?_|refine aT ?_);(first|refine rG Γ hm ?_|refine rD Γ hm y_ ?_);conv=>whnf))
 exact dN
theorem Ac7 (n:Net) (hn:n.Fin) (l:List Device) (p:Device→Bool) (f:FuncId) (first cap:List SV) (hc:(SV.clo (.func f) first cap).inn []=true) (hf:∀ x∈l,Hg Tryz.prog f (first++[A2 x]++cap) (Ab (p x))) (hl:Ax l) :
  Sy.Spec Tryz.prog 202 [Av n,.sl 5 A2 l,.clo (.func f) first cap] [] (Aa (if Ah n=true then B4 p l else -1)) []:=cT F202 Tryz.ntmps202 fun F hF=>by
 have hr:=Cb n hn
 have q:=Ip l p f first cap hc hf hl
 ((conv=>whnf);repeat((first|refine aF ?_|refine aT ?_);(first|refine rG Γ hm ?_|refine rD Γ hm y_ ?_);conv=>whnf))
 refine c0 hr F81 ?_
 cases hb:Ah n
 ·rw[if_neg qe]
  ((first|refine rG Γ hm ?_|refine rD Γ hm y_ ?_);(conv=>whnf);repeat((first|refine aF ?_|refine aT ?_);(first|refine rG Γ hm ?_|refine rD Γ hm y_ ?_);conv=>whnf))
  exact dN
 rw[if_pos rfl]
 ((first|refine rG Γ hm ?_|refine rD Γ hm y_ ?_);(conv=>whnf);repeat((first|refine aF ?_|refine aT ?_);(first|refine rG Γ hm ?_|refine rD Γ hm y_ ?_);conv=>whnf))
 refine Mq q F169 q_ q_ (by simp only[Bn,hc,Bool.and_true];rfl) q_ q_ ?_
 ((first|refine rG Γ hm ?_|refine rD Γ hm y_ ?_);(conv=>whnf);repeat((first|refine aF ?_|refine aT ?_);(first|refine rG Γ hm ?_|refine rD Γ hm y_ ?_);conv=>whnf))
 exact dN
theorem Ait (n:Net) (hn:n.Fin) (l:List Port) (p:Port→Bool) (f:FuncId) (first cap:List SV) (hc:(SV.clo (.func f) first cap).inn []=true) (hf:∀ x∈l,Hg Tryz.prog f (first++[Bd x]++cap) (Ab (p x))) (hl:Ax l) :
  Sy.Spec Tryz.prog 204 [Av n,.sl 7 Bd l,.clo (.func f) first cap] [] (Aa (if Ah n=true then B4 p l else -1)) []:=cT F204 Tryz.ntmps204 fun F hF=>by
 have hr:=Cb n hn
 have q:=Wz l p f first cap hc hf hl
 ((conv=>whnf);repeat((first|refine aF ?_|refine aT ?_);(first|refine rG Γ hm ?_|refine rD Γ hm y_ ?_);conv=>whnf))
 refine c0 hr F81 ?_
 cases hb:Ah n
 ·rw[if_neg qe]
  ((first|refine rG Γ hm ?_|refine rD Γ hm y_ ?_);(conv=>whnf);repeat((first|refine aF ?_|refine aT ?_);(first|refine rG Γ hm ?_|refine rD Γ hm y_ ?_);conv=>whnf))
  exact dN
 rw[if_pos rfl]
 ((first|refine rG Γ hm ?_|refine rD Γ hm y_ ?_);(conv=>whnf);repeat((first|refine aF ?_|refine aT ?_);(first|refine rG Γ hm ?_|refine rD Γ hm y_ ?_);conv=>whnf))
 refine Mq q F252 q_ q_ (by simp only[Bn,hc,Bool.and_true];rfl) q_ q_ ?_
 ((first|refine rG Γ hm ?_|refine rD Γ hm y_ ?_);(conv=>whnf);repeat((first|refine aF ?_|refine aT ?_);(first|refine rG Γ hm ?_|refine rD Γ hm y_ ?_);conv=>whnf))
 exact dN
theorem Amc (n:Net) (hn:n.Fin) (l:List Vrf) (p:Vrf→Bool) (f:FuncId) (first cap:List SV) (hc:(SV.clo (.func f) first cap).inn []=true) (hf:∀ x∈l,Hg Tryz.prog f (first++[Ct x]++cap) (Ab (p x))) (hl:Ax l) :
  Sy.Spec Tryz.prog 213 [Av n,.sl 5 Ct l,.clo (.func f) first cap] [] (Aa (if Ah n=true then B4 p l else -1)) []:=cT F213 Tryz.ntmps213 fun F hF=>by
 have hr:=Cb n hn
 have q:=Yr l p f first cap hc hf hl
 ((conv=>whnf);repeat((first|refine aF ?_|refine aT ?_);(first|refine rG Γ hm ?_|refine rD Γ hm y_ ?_);conv=>whnf))
 refine c0 hr F81 ?_
 cases hb:Ah n
 ·rw[if_neg qe]
  ((first|refine rG Γ hm ?_|refine rD Γ hm y_ ?_);(conv=>whnf);repeat((first|refine aF ?_|refine aT ?_);(first|refine rG Γ hm ?_|refine rD Γ hm y_ ?_);conv=>whnf))
  exact dN
 rw[if_pos rfl]
 ((first|refine rG Γ hm ?_|refine rD Γ hm y_ ?_);(conv=>whnf);repeat((first|refine aF ?_|refine aT ?_);(first|refine rG Γ hm ?_|refine rD Γ hm y_ ?_);conv=>whnf))
 refine Mq q F253 q_ q_ (by simp only[Bn,hc,Bool.and_true];rfl) q_ q_ ?_
 ((first|refine rG Γ hm ?_|refine rD Γ hm y_ ?_);(conv=>whnf);repeat((first|refine aF ?_|refine aT ?_);(first|refine rG Γ hm ?_|refine rD Γ hm y_ ?_);conv=>whnf))
 exact dN
theorem Ack (s:ByteArray) (d:Device):Sy.Spec Tryz.prog 203 [A2 d,.ref 1 (Ae s) 0] [] (Ab (d.name == s)) []:=cT F203 Tryz.ntmps203 fun F hF=>by
 refine T ?_
 exact D
theorem Aib (dev:Int) (s:ByteArray) (p:Port):Sy.Spec Tryz.prog 205 [Bd p,.ref 1 (Aa dev) 0,.ref 1 (Ae s) 0] [] (Ab (p.dev == dev && p.name == s)) []:=cT F205 Tryz.ntmps205 fun F hF=>by
 cases h:(p.dev == dev)
 ·refine T ?_
  exact D
 ·refine T ?_
  exact D
theorem Ali (dev:Int) (s:ByteArray) (p:Vrf):Sy.Spec Tryz.prog 214 [Ct p,.ref 1 (Aa dev) 0,.ref 1 (Ae s) 0] [] (Ab (p.dev == dev && p.name == s)) []:=cT F214 Tryz.ntmps214 fun F hF=>by
 cases h:(p.dev == dev)
 ·refine T ?_
  exact D
 ·refine T ?_
  exact D
theorem Il (n:Net) (hn:n.Fin) (hr:Ah n=true) (s:ByteArray):Sy.Spec Tryz.prog 125 [Av n,Ae s] [] (Aa (Ap n s)) []:=cT F125 Tryz.ntmps125 fun F hF=>by
 have q:=Ac7 n hn n.devices (fun d=>d.name == s) 203 [] [.ref 1 (Ae s) 0] rfl (fun d _=>⟨⟨_,_,F203⟩,Ack s d⟩) hn.devices
 rw[if_pos hr]at q
 ((conv=>whnf);repeat((first|refine aF ?_|refine aT ?_);(first|refine rG Γ hm ?_|refine rD Γ hm y_ ?_);conv=>whnf))
 refine B1 3 1 (Ae s) q_ q_ q_ ?_
 refine c0 q F202 ?_
 ((first|refine rG Γ hm ?_|refine rD Γ hm y_ ?_);(conv=>whnf);repeat((first|refine aF ?_|refine aT ?_);(first|refine rG Γ hm ?_|refine rD Γ hm y_ ?_);conv=>whnf))
 exact dN
theorem Sk (n:Net) (hn:n.Fin) (hr:Ah n=true) (dev:Int) (s:ByteArray):Sy.Spec Tryz.prog 126 [Av n,Aa dev,Ae s] [] (Aa (E9 n dev s)) []:=cT F126 Tryz.ntmps126 fun F hF=>by
 have q:=Ait n hn n.ports (fun p=>p.dev == dev && p.name == s) 205 [] [.ref 1 (Aa dev) 0,.ref 1 (Ae s) 0] rfl (fun d _=>⟨⟨_,_,F205⟩,Aib dev s d⟩) hn.ports
 rw[if_pos hr]at q
 ((conv=>whnf);repeat((first|refine aF ?_|refine aT ?_);(first|refine rG Γ hm ?_|refine rD Γ hm y_ ?_);conv=>whnf))
 refine B1 4 1 (Aa dev) q_ q_ q_ ?_
 refine B1 5 1 (Ae s) q_ q_ q_ ?_
 refine c0 q F204 ?_
 ((first|refine rG Γ hm ?_|refine rD Γ hm y_ ?_);(conv=>whnf);repeat((first|refine aF ?_|refine aT ?_);(first|refine rG Γ hm ?_|refine rD Γ hm y_ ?_);conv=>whnf))
 exact dN
theorem Aam (n:Net) (hn:n.Fin) (hr:Ah n=true) (dev:Int) (s:ByteArray):Sy.Spec Tryz.prog 135 [Av n,Aa dev,Ae s] [] (Aa (Sa n dev s)) []:=cT F135 Tryz.ntmps135 fun F hF=>by
 have q:=Amc n hn n.vrfs (fun p=>p.dev == dev && p.name == s) 214 [] [.ref 1 (Aa dev) 0,.ref 1 (Ae s) 0] rfl (fun d _=>⟨⟨_,_,F214⟩,Ali dev s d⟩) hn.vrfs
 rw[if_pos hr]at q
 ((conv=>whnf);repeat((first|refine aF ?_|refine aT ?_);(first|refine rG Γ hm ?_|refine rD Γ hm y_ ?_);conv=>whnf))
 refine B1 4 1 (Aa dev) q_ q_ q_ ?_
 refine B1 5 1 (Ae s) q_ q_ q_ ?_
 refine c0 q F213 ?_
 ((first|refine rG Γ hm ?_|refine rD Γ hm y_ ?_);(conv=>whnf);repeat((first|refine aF ?_|refine aT ?_);(first|refine rG Γ hm ?_|refine rD Γ hm y_ ?_);conv=>whnf))
 exact dN
theorem Jc (n:Net) (hn:n.Fin) (hr:Ah n=true) (dev vlan:Int):Sy.Spec Tryz.prog 129 [Av n,Aa dev,Aa vlan] [] (Aa (Bj n dev vlan)) []:=by
 have q:=Tx n hn dev vlan
 rwa [Md,if_pos hr]at q
end Go.Sy.YtdkfcckkkfghgaaGreatDoor
namespace Go.Sy.YtdkfcckkkfghgaaGreatDoor
open Go.Proofs
attribute [local irreducible] Go.Sy.G Go.Sy.DR
set_option maxRecDepth 100000
set_option maxHeartbeats 4000000
theorem I9 {α:Type} {p:α→Bool} {l:List α} (h:¬ B4 p l<0):∃ i:Nat,B4 p l=i∧i<l.length:=by
 have:=Acz p l
 exact⟨(B4 p l).toNat,by omega,by omega⟩
theorem La (n:Net) (hn:n.Fin) (l:LineM) (hl:LineW l) (k:Int):Sy.Spec Tryz.prog 132 [Av n,Ad l,Aa k] [] (.tup [Aa (begT n l k).1,Aa (begT n l k).2]) []:=cT F132 Tryz.ntmps132 fun F hF=>by
 have q1:=B8 l hl
 have q2:=Cb n hn
 have hres:=begT.eq_1 n l k
 have hf:=fitsB.eq_1 n l k
 generalize begT n l k=res at *
 generalize fitsB n l k=f at *
 cases h1:(l.kind == k) with
 | false =>
  have g1:(l.kind != k)=true:=by rw[bne,h1];rfl
  rw[h1,Bool.false_and]at hf
  rw[hf,if_pos rfl]at hres
  subst hres
  refine T ?_
  exact D
 | true =>
  have g1:(l.kind != k)=false:=by rw[bne,h1];rfl
  rw[h1,Bool.true_and]at hf
  cases h2:Ao l with
  | false =>
   rw[h2]at q1 hf
   rw[hf,Bool.false_and,if_pos rfl]at hres
   subst hres
   refine T ?_
   refine C q1 F108 ?_
   exact D
  | true =>
   rw[h2]at q1 hf
   cases h3:Ah n with
   | false =>
    rw[h3]at q2 hf
    rw[hf,Bool.and_false,if_pos rfl]at hres
    subst hres
    refine T ?_
    refine C q1 F108 ?_
    refine C q2 F81 ?_
    exact D
   | true =>
    have q3:=Il n hn h3 l.dev
    rw[h3]at q2 hf
    rw[hf,if_neg qe]at hres
    generalize Ap n l.dev=d at *
    by_cases h4:d<0
    ·have g4:decide (d<0)=true:=decide_eq_true h4
     rw[if_pos h4]at hres
     subst hres
     refine T ?_
     refine C q1 F108 ?_
     refine C q2 F81 ?_
     refine C q3 F125 ?_
     exact D
    ·have g4:decide (d<0)=false:=decide_eq_false h4
     rw[if_neg h4]at hres
     subst hres
     refine T ?_
     refine C q1 F108 ?_
     refine C q2 F81 ?_
     refine C q3 F125 ?_
     exact D
theorem Xg (n:Net) (hn:n.Fin) (l:LineM) (hl:LineW l) (k:Int):Sy.Spec Tryz.prog 134 [Av n,Ad l,Aa k] [] (.tup [Aa (begT n l k).1,Aa (begT n l k).2]) []:=cT F134 Tryz.ntmps134 fun F hF=>by
 have q1:=B8 l hl
 have q2:=Cb n hn
 have hres:=begT.eq_1 n l k
 have hf:=fitsB.eq_1 n l k
 generalize begT n l k=res at *
 generalize fitsB n l k=f at *
 cases h1:(l.kind == k) with
 | false =>
  have g1:(l.kind != k)=true:=by rw[bne,h1];rfl
  rw[h1,Bool.false_and]at hf
  rw[hf,if_pos rfl]at hres
  subst hres
  refine T ?_
  exact D
 | true =>
  have g1:(l.kind != k)=false:=by rw[bne,h1];rfl
  rw[h1,Bool.true_and]at hf
  cases h2:Ao l with
  | false =>
   rw[h2]at q1 hf
   rw[hf,Bool.false_and,if_pos rfl]at hres
   subst hres
   refine T ?_
   refine C q1 F108 ?_
   exact D
  | true =>
   rw[h2]at q1 hf
   cases h3:Ah n with
   | false =>
    rw[h3]at q2 hf
    rw[hf,Bool.and_false,if_pos rfl]at hres
    subst hres
    refine T ?_
    refine C q1 F108 ?_
    refine C q2 F81 ?_
    exact D
   | true =>
    have q3:=Il n hn h3 l.dev
    rw[h3]at q2 hf
    rw[hf,if_neg qe]at hres
    generalize Ap n l.dev=d at *
    by_cases h4:d<0
    ·have g4:decide (d<0)=true:=decide_eq_true h4
     rw[if_pos h4]at hres
     subst hres
     refine T ?_
     refine C q1 F108 ?_
     refine C q2 F81 ?_
     refine C q3 F125 ?_
     exact D
    ·have g4:decide (d<0)=false:=decide_eq_false h4
     rw[if_neg h4]at hres
     subst hres
     refine T ?_
     refine C q1 F108 ?_
     refine C q2 F81 ?_
     refine C q3 F125 ?_
     exact D
theorem beg_ok {n:Net} {l:LineM} {k:Int} (h:(begT n l k).2=0):fitsB n l k=true∧Ah n=true∧∃ i:Nat,(begT n l k).1=i∧i<n.devices.length:=by
 unfold begT at h ⊢
 cases hf:fitsB n l k with
 | false=>rw[hf,if_pos rfl]at h;exact absurd h qd
 | true =>
  rw[hf,if_neg qe]at h
  rw[if_neg qe]
  by_cases hd:Ap n l.dev<0
  ·rw[if_pos hd]at h;exact absurd h qd
  ·rw[if_neg hd]
   refine⟨q_,?_,I9 hd⟩
   unfold fitsB at hf
   simp only[Bool.and_eq_true]at hf
   exact hf.2.2
theorem ownerC (a:Int) (d:Device):Sy.Spec Tryz.prog 170 [A2 d,.ref 1 (A7 a) 0] [] (Ab (d.vtep == a)) []:=cT F170 Tryz.ntmps170 fun F hF=>by
 refine T ?_
 exact D
theorem Ah3 (n:Net) (hn:n.Fin) (a:Int):Sy.Spec Tryz.prog 86 [Av n,A7 a] [] (Aa (Bp n a)) []:=cT F86 Tryz.ntmps86 fun F hF=>by
 have q:=Ip n.devices (fun d=>d.vtep == a) 170 [] [.ref 1 (A7 a) 0] rfl (fun d _=>⟨⟨_,_,F170⟩,ownerC a d⟩) hn.devices
 ((conv=>whnf);repeat((first|refine aF ?_|refine aT ?_);(first|refine rG Γ hm ?_|refine rD Γ hm y_ ?_);conv=>whnf))
 refine B1 3 1 (A7 a) q_ q_ q_ ?_
 refine c0 q F169 ?_
 ((first|refine rG Γ hm ?_|refine rD Γ hm y_ ?_);(conv=>whnf);repeat((first|refine aF ?_|refine aT ?_);(first|refine rG Γ hm ?_|refine rD Γ hm y_ ?_);conv=>whnf))
 exact dN
theorem Aqi (dev vni:Int) (d:Domain):Sy.Spec Tryz.prog 168 [An d,.ref 1 (Aa dev) 0,.ref 1 (Aa vni) 0] [] (Ab (d.dev == dev && (d.vni == vni && vni != 0))) []:=cT F168 Tryz.ntmps168 fun F hF=>by
 cases h:(d.dev == dev)
 ·refine T ?_
  exact D
 ·cases h2:(d.vni == vni)
  ·refine T ?_
   exact D
  ·refine T ?_
   exact D
theorem Ts (n:Net) (hn:n.Fin) (dev vni:Int):Sy.Spec Tryz.prog 85 [Av n,Aa dev,Aa vni] [] (Aa (Et n dev vni)) []:=cT F85 Tryz.ntmps85 fun F hF=>by
 have q:=Ez n.domains (fun d=>d.dev == dev && (d.vni == vni && vni != 0)) 168 [] [.ref 1 (Aa dev) 0,.ref 1 (Aa vni) 0] rfl (fun d _=>⟨⟨_,_,F168⟩,Aqi dev vni d⟩) hn.domains
 ((conv=>whnf);repeat((first|refine aF ?_|refine aT ?_);(first|refine rG Γ hm ?_|refine rD Γ hm y_ ?_);conv=>whnf))
 refine B1 4 1 (Aa dev) q_ q_ q_ ?_
 refine B1 5 1 (Aa vni) q_ q_ q_ ?_
 refine c0 q F167 ?_
 ((first|refine rG Γ hm ?_|refine rD Γ hm y_ ?_);(conv=>whnf);repeat((first|refine aF ?_|refine aT ?_);(first|refine rG Γ hm ?_|refine rD Γ hm y_ ?_);conv=>whnf))
 exact dN
theorem Aqh (dev vni:Int) (f:Flood):Sy.Spec Tryz.prog 166 [Be f,.ref 1 (Aa dev) 0,.ref 1 (Aa vni) 0] [] (Ab (f.dev == dev && f.vni == vni)) []:=cT F166 Tryz.ntmps166 fun F hF=>by
 cases h:(f.dev == dev)
 ·refine T ?_
  exact D
 ·refine T ?_
  exact D
theorem Ab7 (n:Net) (hn:n.Fin) (dev vni:Int):Sy.Spec Tryz.prog 84 [Av n,Aa dev,Aa vni] [] (Aa (C4 n dev vni)) []:=cT F84 Tryz.ntmps84 fun F hF=>by
 have q:=Ve n.floods (fun f=>f.dev == dev && f.vni == vni) 166 [] [.ref 1 (Aa dev) 0,.ref 1 (Aa vni) 0] rfl (fun f _=>⟨⟨_,_,F166⟩,Aqh dev vni f⟩) hn.floods
 ((conv=>whnf);repeat((first|refine aF ?_|refine aT ?_);(first|refine rG Γ hm ?_|refine rD Γ hm y_ ?_);conv=>whnf))
 refine B1 4 1 (Aa dev) q_ q_ q_ ?_
 refine B1 5 1 (Aa vni) q_ q_ q_ ?_
 refine c0 q F165 ?_
 ((first|refine rG Γ hm ?_|refine rD Γ hm y_ ?_);(conv=>whnf);repeat((first|refine aF ?_|refine aT ?_);(first|refine rG Γ hm ?_|refine rD Γ hm y_ ?_);conv=>whnf))
 exact dN
theorem Aqg (n:Net) (hn:n.Fin) (l:LineM) (hl:LineW l):Sy.Spec Tryz.prog 76 [Av n,Ad l] [] (.tup [Av (putVtep n l).1,Aa (putVtep n l).2]) []:=cT F76 Tryz.ntmps76 fun F hF=>by
 have q1:=La n hn l hl 5
 have hok:=@beg_ok n l 5
 have hres:=putVtep.eq_1 n l
 have q2:=Ah3 n hn l.addr
 have q3:=Mg n hn
 generalize putVtep n l=res at *
 generalize begT n l 5=b at *
 obtain ⟨d,e⟩:=b
 dsimp only at hres hok q1
 by_cases h1:e≠0
 ·have g1:(e != 0)=true:=by rw[bne_iff_ne];exact h1
  rw[if_pos h1]at hres
  subst hres
  refine T ?_
  refine C q1 F132 ?_
  refine Am 4 (C3 emptyN) q_ (.cons .nil (.cons .nil (.cons .nil (.cons .nil (.cons .nil (.cons .nil (.cons .nil (.cons .nil .nil)))))))) ?_
  refine T ?_
  exact D
 have g1:(e != 0)=false:=by rw[bne_eq_false_iff_eq];omega
 rw[if_neg h1]at hres
 obtain ⟨_,_,i,hi,hlt⟩:=hok j_
 subst hi
 clear hok
 have hlt0:((i:Nat):Int).toNat<n.devices.length:=hlt
 have hnth:nth n.devices (i:Int)=n.devices[((i:Nat):Int).toNat]'hlt0:=A1 hlt0
 rw[hnth]at hres
 by_cases h2:(n.devices[((i:Nat):Int).toNat]'hlt0).vtep≠0
 ·have g2:((n.devices[((i:Nat):Int).toNat]'hlt0).vtep != 0)=true:=by rw[bne_iff_ne];exact h2
  rw[if_pos (.inl h2)]at hres
  subst hres
  refine T ?_
  refine C q1 F132 ?_
  refine Am 4 (C3 emptyN) q_ (.cons .nil (.cons .nil (.cons .nil (.cons .nil (.cons .nil (.cons .nil (.cons .nil (.cons .nil .nil)))))))) ?_
  refine T ?_
  exact D
 have g2:((n.devices[((i:Nat):Int).toNat]'hlt0).vtep != 0)=false:=by rw[bne_eq_false_iff_eq];omega
 by_cases h3:0≤Bp n l.addr
 ·have g3:decide (Bp n l.addr≥0)=true:=decide_eq_true h3
  rw[if_pos (.inr h3)]at hres
  subst hres
  refine T ?_
  refine C q1 F132 ?_
  refine C q2 F86 ?_
  refine Am 4 (C3 emptyN) q_ (.cons .nil (.cons .nil (.cons .nil (.cons .nil (.cons .nil (.cons .nil (.cons .nil (.cons .nil .nil)))))))) ?_
  refine T ?_
  exact D
 have g3:decide (Bp n l.addr≥0)=false:=decide_eq_false h3
 rw[if_neg (fun h=>h.elim h2 h3)]at hres
 have hset:U4 n.devices (i:Int) l.addr=n.devices.set ((i:Nat):Int).toNat { (n.devices[((i:Nat):Int).toNat]'hlt0) with vtep:=l.addr }:=by rw[U4,hnth]
 rw[hset]at hres
 subst hres
 have hne:n.devices≠[]:=fun e=>by rw[e]at hlt;cases hlt
 refine T ?_
 refine C q1 F132 ?_
 refine C q2 F86 ?_
 refine X (Ac [(0,901),(1,902),(2,903),(3,904),(4,905),(5,906),(6,907),(7,908)] q_ F83 q3 q_ W q_ V) ?_
 refine⟨hne,?_⟩
 refine T ?_
 refine⟨{ (n.devices[((i:Nat):Int).toNat]'hlt0) with vtep:=l.addr },rfl,rfl,?_⟩
 refine T ?_
 refine Ai 901 q_ ?_
 refine Ai 902 q_ ?_
 refine Ai 903 q_ ?_
 refine Ai 904 q_ ?_
 refine Ai 905 q_ ?_
 refine Ai 906 q_ ?_
 refine Ai 907 q_ ?_
 refine Ai 908 q_ ?_
 exact D
end Go.Sy.YtdkfcckkkfghgaaGreatDoor
namespace Go.Sy.YtdkfcckkkfghgaaGreatDoor
open Go.Proofs
attribute [local irreducible] Go.Sy.G Go.Sy.DR
set_option maxRecDepth 20000
set_option maxHeartbeats 4000000
structure Hop where
 (kind port domain addr:Int)
instance:Inhabited Hop:=⟨⟨0,0,0,0⟩⟩
def Ark (n:Net) (d:Int):Prop:=(0≤d∧d<n.domains.length)∧Ah n=true
instance (n:Net) (d:Int):Decidable (Ark n d):=inferInstanceAs (Decidable (_∧_))
def Acs (n:Net) (d p:Int):Option Hop:=if (linkDomT n p (nth n.domains d).vlan).2=true then some ⟨1,p,(linkDomT n p (nth n.domains d).vlan).1,0⟩ else none
def Acm (p:Int):Hop:=⟨2,0,p,0⟩
def Arh (n:Net) (d:Int):List Hop:=(Ye n d).filterMap (Acs n d)++(nth n.domains d).peers.map Acm
def Kr (n:Net) (d:Int):List Hop:=if Ark n d then Arh n d else []
structure Lead where
 (to domain addr:Int)
instance:Inhabited Lead:=⟨⟨0,0,0⟩⟩
def Aon (n:Net) (irb:Int) (i:Nat):Option Lead:=if (Agh n irb i).2=true then some ⟨i,(nth n.irbs i).domain,(Agh n irb i).1⟩ else none
def leadsL (n:Net) (irb:Int) (j:Nat):List Lead:=(List.range j).filterMap (Aon n irb)
def J6 (n:Net) (d:Int):List Lead:=if (0≤d∧d<n.domains.length)∧0≤(nth n.domains d).irb∧Ah n=true then leadsL n (nth n.domains d).irb n.irbs.length else []
structure Fnd where
 (domain kind:Int) (hop:Hop) (ahead:Int)
instance:Inhabited Fnd:=⟨⟨0,0,default,0⟩⟩
structure Srch where
 (m0 m1:List Bool) (list:List Fnd)
def Sl (S:Srch) (d k:Int):Bool:=if k=0 then nth S.m0 d else nth S.m1 d
def Mn (S:Srch) (d k:Int) (h:Hop) (ahead:Int):Srch :=
 if k=0 then ⟨S.m0.set d.toNat true,S.m1,S.list++[⟨d,k,h,ahead⟩]⟩ else ⟨S.m0,S.m1.set d.toNat true,S.list++[⟨d,k,h,ahead⟩]⟩
def D6 (S:Srch) (d k:Int) (h:Hop) (ahead:Int):Srch:=if Sl S d k=true then S else Mn S d k h ahead
structure Srch.OK (n:Net) (S:Srch):Prop where
 l0:S.m0.length=n.domains.length
 l1:S.m1.length=n.domains.length
 at_:∀ f∈S.list,(0≤f.domain∧f.domain.toNat<n.domains.length)∧(f.kind=0∨f.kind=1)
 len:S.list.length≤S.m0.count true+S.m1.count true
theorem count_set {l:List Bool} {i:Nat} (h:i<l.length) (hi:l[i]=false):(l.set i true).count true=l.count true+1:=by
 rw[List.count_set h,hi]
 simp
theorem Srch.OK.meet {n:Net} {S:Srch} (h:S.OK n) {d k:Int} (hd:0≤d∧d.toNat<n.domains.length) (hk:k=0∨k=1) (hp:Hop) (a:Int):(D6 S d k hp a).OK n:=by
 rw[D6]
 split
 ·exact h
 rename_i hmt
 have h0:d.toNat<S.m0.length:=by rw[h.l0];exact hd.2
 have h1:d.toNat<S.m1.length:=by rw[h.l1];exact hd.2
 rcases hk with rfl | rfl
 ·rw[Sl,if_pos rfl,A1 h0]at hmt
  rw[Mn,if_pos rfl]
  refine⟨by simp[h.l0],h.l1,fun f hf=>?_,?_⟩
  ·rcases List.mem_append.1 hf with hf | hf
   ·exact h.at_ f hf
   ·rw[List.mem_singleton]at hf
    subst hf
    exact⟨hd,.inl q_⟩
  ·rw[count_set h0 (by simpa using hmt),List.length_append,List.length_singleton]
   have:=h.len
   show _≤_+S.m1.count true
   omega
 ·rw[Sl,if_neg qd,A1 h1]at hmt
  rw[Mn,if_neg qd]
  refine⟨h.l0,by simp[h.l1],fun f hf=>?_,?_⟩
  ·rcases List.mem_append.1 hf with hf | hf
   ·exact h.at_ f hf
   ·rw[List.mem_singleton]at hf
    subst hf
    exact⟨hd,.inr q_⟩
  ·rw[count_set h1 (by simpa using hmt),List.length_append,List.length_singleton]
   have:=h.len
   show _≤S.m0.count true+_
   omega
theorem Kv {n:Net} (h:Ah n=true) {i:Nat} (hi:i<n.ports.length) {v:Int} (hv:Ck n.ports[i] v=true):0≤Bj n n.ports[i].dev v∧(Bj n n.ports[i].dev v).toNat<n.domains.length:=by
 have hp:=Apd h hi
 simp only[Lk,Bool.and_eq_true,Bool.not_eq_true']at hp
 simp only[Ck,Bool.and_eq_true,bne_iff_ne,Bool.or_eq_true,beq_iff_eq]at hv
 have h0:0≤Bj n n.ports[i].dev v:=by
  rcases hv.2 with h1 | h1
  ·have h2:=hp.1.2
   have h3:=hp.1.1.1.1.1.1.1.2
   rw[h1]at hv ⊢
   have h4:decide (0<n.ports[i].native)=true:=by
    simp only[decide_eq_true_eq]at h3 ⊢
    omega
   rw[h4]at h2
   simpa [D5] using h2
  ·have h2:=hp.1.1.2
   obtain ⟨x,hx,e⟩:=List.any_eq_true.1 h1
   obtain ⟨j,hj,rfl⟩:=List.mem_iff_getElem.1 hx
   have h3:=allB_iff.1 h2 j hj
   simp only[beq_iff_eq]at e
   rw[e]at h3
   simpa [D5] using h3
 refine⟨h0,?_⟩
 have:=Acz (fun d:Domain=>d.dev == n.ports[i].dev && d.vlan == v) n.domains
 have e:Bj n n.ports[i].dev v=B4 (fun d:Domain=>d.dev == n.ports[i].dev && d.vlan == v) n.domains:=rfl
 omega
theorem E7 {n:Net} {i v:Int} (h:(linkDomT n i v).2=true):0≤(linkDomT n i v).1∧(linkDomT n i v).1.toNat<n.domains.length:=by
 unfold linkDomT at h ⊢
 split at h
 ·rename_i hc
  rw[if_pos hc]
  have hth:=Uk hc
  unfold crossT at hc hth ⊢
  split at hc
  ·rename_i h1
   rw[if_pos h1]at hth ⊢
   have hb:=(Kc h1.1).2.1
   have h2:=h1.2.2
   rw[Hw]at h2 ⊢
   rw[Md,if_pos hb]
   dsimp only at hth ⊢
   rw[A1 hth.2]at h2 ⊢
   refine Kv hb hth.2 ?_
   simp only[Ck,Bool.and_eq_true,bne_iff_ne,Bool.or_eq_true,beq_iff_eq]
   refine⟨h2,?_⟩
   split
   ·exact .inl q_
   ·rename_i h3
    rw[if_neg h3]at h2
    split
    ·rename_i h4
     exact .inr h4
    ·rename_i h4
     rw[if_neg h4]at h2
     exact absurd q_ h2
  ·cases hc
 ·cases h
theorem Aiw {n:Net} (h:Ah n=true) {i:Nat} (hi:i<n.domains.length) {p:Int} (hp:p∈n.domains[i].peers):0≤p∧p.toNat<n.domains.length:=by
 simp only[Ah,Bool.and_eq_true]at h
 have h1:=allB_iff.1 h.1.1.1.1.1.1.2 i hi
 obtain ⟨j,hj,rfl⟩:=List.mem_iff_getElem.1 hp
 have h2:=allB_iff.1 h1 j hj
 simp only[Qv,Af,Bool.and_eq_true,decide_eq_true_eq]at h2
 omega
theorem Oj {n:Net} {d:Int} {h:Hop} (hh:h∈Kr n d):0≤h.domain∧h.domain.toNat<n.domains.length:=by
 rw[Kr]at hh
 split at hh
 ·rename_i hd
  have hk:d.toNat<n.domains.length:=by have:=hd.1;omega
  rw[Arh,A1 hk]at hh
  rcases List.mem_append.1 hh with hh | hh
  ·obtain ⟨p,_,hp⟩:=List.mem_filterMap.1 hh
   rw[Acs]at hp
   split at hp
   ·rename_i hl
    simp only[Option.some.injEq]at hp
    subst hp
    exact E7 hl
   ·cases hp
  ·obtain ⟨p,hp,rfl⟩:=List.mem_map.1 hh
   exact Aiw hd.2 hk hp
 ·cases hh
theorem Sf {n:Net} {d:Int} {q:Lead} (hq:q∈J6 n d):0≤q.domain∧q.domain.toNat<n.domains.length:=by
 rw[J6]at hq
 split at hq
 ·rename_i hc
  obtain ⟨i,hi,hp⟩:=List.mem_filterMap.1 hq
  rw[Aon]at hp
  split at hp
  ·simp only[Option.some.injEq]at hp
   subst hp
   have hi':((i:Nat):Int).toNat<n.irbs.length:=by simpa using hi
   show 0≤(nth n.irbs i).domain∧_
   rw[A1 hi']
   exact(Af2 hc.2.2 hi').1
  ·cases hp
 ·cases hq
end Go.Sy.YtdkfcckkkfghgaaGreatDoor
namespace Go.Sy
theorem Ao6 {P:Program} {o:Oper} {s:SS} {x y:Operand} {at_:Array TypeId} {k k':IntKind} {m n:Int} (h:o.op=.call ⟨.builtin .max,#[x,y],at_⟩)
  (hx:ev s x=.val (.int k m)) (hy:ev s y=.val (.int k' n)):Good P o s ⟨.val (.int k (if n>m then n else m)),[],[]⟩ :=
 Good.pure fun κ a w _ hr ho=>by
  have h1:=hr x (by simp[h,Op.operands,Call.operands])
  have h2:=hr y (by simp[h,Op.operands,Call.operands])
  rw[hx]at h1
  rw[hy]at h2
  refine⟨.int k (if n>m then n else m),?_,by simp[Rd]⟩
  simp[execOp,h,resolve,invoke,builtin,Builtin.max_,Builtin.max2,h1.val,h2.val]
end Go.Sy
namespace Go.Sy.YtdkfcckkkfghgaaGreatDoor
open Go.Proofs
attribute [local irreducible] Go.Sy.G Go.Sy.DR
set_option maxRecDepth 100000
set_option maxHeartbeats 4000000
theorem By {f:List Int} (hf:Bs f) {i:Int} (h0:0≤i) (hi:i.toNat<f.length):0≤nth f i∧nth f i≤i:=by
 rw[A1 hi]
 have:=hf i.toNat hi
 omega
theorem E8 {f:List Int} (hf:Bs f) {i:Nat} (_hi:i<f.length) {x:Int} (h0:0≤x) (hx:x≤i):Bs (f.set i x):=by
 intro k hk
 rw[List.length_set]at hk
 rw[List.getElem_set]
 split
 ·rename_i e;subst e;exact⟨h0,hx⟩
 ·exact hf k hk
theorem Z8:∀ (m k k':Nat) (f:List Int) (i:Int),Bs f→0≤i→i.toNat<f.length→i.toNat≤m→i.toNat+1≤k→i.toNat+1≤k'→Adu k f i=Adu k' f i
 | m,0,_,_,_,_,_,_,_,h,_=>by omega
 | m,_+1,0,_,_,_,_,_,_,_,h=>by omega
 | m,k+1,k'+1,f,i,hf,h0,hi,hm,h1,h2=>by
  rw[Adu,Adu]
  by_cases e:nth f i=i
  ·rw[if_pos e,if_pos e]
  ·rw[if_neg e,if_neg e]
   obtain ⟨a1,a2⟩:=By hf h0 hi
   obtain ⟨b1,b2⟩:=By hf a1 (by omega:(nth f i).toNat<f.length)
   match m with
   | 0=>omega
   | m+1 =>
    exact Z8 m k k' _ _ (E8 hf hi b1 j_) b1 (by rw[List.length_set];omega) j_ j_ j_
theorem Abk {f:List Int} {i:Int} (h:nth f i=i):E1 f i=(f,i):=by rw[E1,Adu,if_pos h]
theorem Xj {f:List Int} {i:Int} (hf:Bs f) (h0:0≤i) (hi:i.toNat<f.length) (h:nth f i≠i):E1 f i=E1 (f.set i.toNat (nth f (nth f i))) (nth f (nth f i)):=by
 obtain ⟨a1,a2⟩:=By hf h0 hi
 obtain ⟨b1,b2⟩:=By hf a1 (by omega:(nth f i).toNat<f.length)
 rw[E1,Adu,if_neg h,E1]
 exact Z8 i.toNat _ _ _ _ (E8 hf hi b1 j_) b1 (by rw[List.length_set];omega) j_ j_ j_
theorem I5:∀ (m:Nat) (f:List Int) (i:Int),Bs f→0≤i→i.toNat<f.length→i.toNat≤m→Bs (E1 f i).1∧(E1 f i).1.length=f.length∧0≤(E1 f i).2∧(E1 f i).2≤i
 | m,f,i,hf,h0,hi,hm=>by
  by_cases e:nth f i=i
  ·rw[Abk e];exact⟨hf,rfl,h0,Int.le_refl _⟩
  ·obtain ⟨a1,a2⟩:=By hf h0 hi
   obtain ⟨b1,b2⟩:=By hf a1 (by omega:(nth f i).toNat<f.length)
   rw[Xj hf h0 hi e]
   match m with
   | 0=>omega
   | m+1 =>
    obtain ⟨c1,c2,c3,c4⟩:=I5 m _ _ (E8 hf hi b1 j_) b1 (by rw[List.length_set];omega:(nth f (nth f i)).toNat<(f.set i.toNat (nth f (nth f i))).length) j_
    exact⟨c1,by rw[c2,List.length_set],c3,by omega⟩
theorem Su {f:List Int} {a b:Int} (hf:Bs f) (ha:0≤a∧a.toNat<f.length) (hb:0≤b∧b.toNat<f.length):Bs (Jp f a b).1∧(Jp f a b).1.length=f.length:=by
 obtain ⟨a1,a2,a3,a4⟩:=I5 a.toNat f a hf ha.1 ha.2 (Nat.le_refl _)
 obtain ⟨b1,b2,b3,b4⟩:=I5 b.toNat (E1 f a).1 b a1 hb.1 j_ (Nat.le_refl _)
 unfold Jp
 dsimp only
 generalize E1 (E1 f a).1 b=y at *
 generalize E1 f a=x at *
 refine⟨E8 b1 j_ j_ j_,by rw[List.length_set];omega⟩
theorem I0 (k:Nat):Bs (H4 k)∧(H4 k).length=k:=by
 refine⟨fun i hi=>?_,by simp[H4]⟩
 simp[H4]
def alJ (k j:Nat):List Int:=(List.range j).map (fun i:Nat=>(i:Int))++List.replicate (k-j) 0
theorem Aps (k:Nat):alJ k 0=List.replicate k 0:=by simp[alJ]
theorem Aq4 (k j:Nat) (h:j≤k):(alJ k j).length=k:=by simp[alJ];omega
theorem Apt (k j:Nat) (h:j<k):(alJ k j).set ((j:Nat):Int).toNat (j:Int)=alJ k (j+1):=by
 have hl:((List.range j).map (fun i:Nat=>(i:Int))).length=j:=by simp
 rw[Int.toNat_natCast,alJ,alJ,List.set_append_right _ _ j_,hl,Nat.sub_self,show k-j=(k-(j+1))+1 by omega,List.replicate_succ,List.set_cons_zero,List.range_succ,List.map_append,List.append_assoc]
 rfl
theorem aloneS (k:Nat) (hk:k≤100000):Sy.Spec Tryz.prog 87 [Aa k] [] (.osl 900) [(900,.row 1 Aa (H4 k))]:=cT F87 Tryz.ntmps87 fun F hF=>by
 have hfull:alJ k k=H4 k:=by simp[alJ,H4]
 refine T ?_
 refine X (Yx Γ.toTy (d:=6) (n:=k) Aa 0 q_ q_ q_ q_ q_ q_ q_ q_ j_ j_ q_ q_ q_) ?_
 refine T ?_
 refine Bk (fun j:Nat=>j≤k) (fun j=>[(3,.osl 1000),(8,Aa k),(9,Aa j)]) (fun j=>[(1000,.row 1 Aa (alJ k j))]) (fun j=>k-j) 0 [(1000,6)] j_ ⟨⟨q_,q_,congrArg Aa (by rw[List.length_replicate]),q_,q_,q_,z_⟩,⟨.inl (congrArg (Ob.row 1 Aa) (Aps k)),q_,z_⟩,q_,q_⟩ ?_
 intro j hj
 have hl:=Aq4 k j hj
 refine T ?_
 refine⟨fun h=>?_,fun h=>?_⟩
 ·have hlt:j<k:=qA h
  clear h
  have hne:alJ k j≠[]:=fun e=>by rw[e]at hl;simp at hl;omega
  have hnx:=Apt k j hlt
  refine T ?_
  refine⟨(j:Int),q_,q_,?_⟩
  refine T ?_
  exact Ar (j+1) [] hlt j_ ⟨⟨q_,q_,q_,q_,q_,q_,z_⟩,⟨.inl (congrArg (Ob.row 1 Aa) hnx.symm),q_,z_⟩,q_,q_⟩
 ·have hje:j=k:=qB h
  clear h
  subst hje
  rw[hfull]
  refine T ?_
  exact done q_ (.cons .tmp .nil) [(900,1000)] [(900,.row 1 Aa (H4 j))] (fun _ h=>h) q_ q_ U
theorem Ak1 (l:List Int) (h0:0<l.length) (hl:l.length<2147483648):Sy.Spec Tryz.prog 89 [.sl 1 Aa l] [] (Aa (Zv l)) []:=cT F89 Tryz.ntmps89 fun F hF=>by
 have f0:decide ((l.length:Int)<1)=false:=decide_eq_false j_
 have hz:(0:Int).toNat<l.length:=h0
 have hst:Zv l=H2 (l[(0:Int).toNat]'hz) (l.drop 1):=by rw[Zv,A1 hz]
 refine T ?_
 refine Bk (fun x:Nat × Int=>1≤x.1∧x.1≤l.length∧Zv l=H2 x.2 (l.drop x.1)) (fun x=>[(0,.sl 1 Aa l),(3,Aa x.2),(4,Aa x.1)]) (fun _=>[]) (fun x=>l.length-x.1) (1,l[(0:Int).toNat]'hz) [] ⟨by omega,by omega,hst⟩ U ?_
 rintro ⟨i,m⟩ ⟨h1,h2,hI⟩
 dsimp only at h1 h2 hI ⊢
 refine T ?_
 refine⟨fun h=>?_,fun h=>?_⟩
 ·have hlt:i<l.length:=qA h
  have hlt0:((i:Nat):Int).toNat<l.length:=hlt
  clear h
  rw[List.drop_eq_getElem_cons hlt,H2]at hI
  refine T ?_
  refine X (Yw q_ q_ q_) ?_
  exact Ar (i+1,min m l[i]) [] ⟨by dsimp only;omega,hlt,hI⟩ (by dsimp only;omega) ⟨⟨q_,q_,congrArg Aa (by dsimp only;show min m l[i]=if l[i]<m then l[i] else m;omega),q_,q_,q_,z_⟩,z_,q_,q_⟩
 ·have hie:i=l.length:=qB h
  clear h
  rw[hie,List.drop_length,H2]at hI
  rw[hI]
  refine T ?_
  exact D
theorem topS (f:List Int) (i:Int) (hf:Bs f) (h0:0≤i) (hi:i.toNat<f.length) (hl:f.length≤100000):Sy.Spec Tryz.prog 172 [.osl 900,Aa i] [(900,.row 1 Aa f)] (Aa (E1 f i).2) [(900,.row 1 Aa (E1 f i).1)]:=cT F172 Tryz.ntmps172 fun F hF=>by
 refine T ?_
 refine Bk (fun x:List Int × Int=>Bs x.1∧x.1.length=f.length∧0≤x.2∧x.2.toNat<f.length∧E1 f i=E1 x.1 x.2) (fun x=>[(0,.osl 900),(1,Aa x.2)]) (fun x=>[(900,.row 1 Aa x.1)]) (fun x=>x.2.toNat) (f,i) [] ⟨hf,q_,h0,hi,q_⟩ U ?_
 rintro ⟨g,k⟩ ⟨h1,h2,h3,h4,hI⟩
 dsimp only at h1 h2 h3 h4 hI ⊢
 have hk0:k.toNat<g.length:=by omega
 have hn:=A1 hk0
 by_cases e:nth g k=k
 ·have hb:(g[k.toNat] == k)=true:=by rw[← hn];exact beq_iff_eq.mpr e
  have hb':(!(g[k.toNat] == k))=false:=by rw[hb];rfl
  rw[hI,Abk e]
  refine T ?_
  exact done q_ (.cons .tmp .nil) [(900,900)] [(900,.row 1 Aa g)] (fun _ h=>h) q_ q_ U
 ·obtain ⟨a1,a2⟩:=By h1 h3 hk0
  obtain ⟨b1,b2⟩:=By h1 a1 (by omega:(nth g k).toNat<g.length)
  have hk1:(g[k.toNat]'hk0).toNat<g.length:=by omega
  have hn1:nth g (nth g k)=g[(g[k.toNat]'hk0).toNat]'hk1:=by rw[hn];exact A1 hk1
  have hs:=Xj h1 h3 hk0 e
  have hb:(g[k.toNat] == k)=false:=by rw[← hn];exact beq_eq_false_iff_ne.mpr e
  have hb':(!(g[k.toNat] == k))=true:=by rw[hb];rfl
  refine T ?_
  refine⟨nth g (nth g k),congrArg (fun x=>cellsOf (Aa x)) hn1,q_,?_⟩
  have hk2:k.toNat<(g.set k.toNat (nth g (nth g k))).length:=by rw[List.length_set];exact hk0
  have hn2:(g.set k.toNat (nth g (nth g k)))[k.toNat]'hk2=nth g (nth g k):=List.getElem_set_self _
  refine T ?_
  refine Ar (g.set k.toNat (nth g (nth g k)),nth g (nth g k)) [] ⟨E8 h1 hk0 b1 j_,by dsimp only;rw[List.length_set];exact h2,b1,by dsimp only;omega,by dsimp only;rw[hI,hs]⟩ (by dsimp only;omega) ⟨⟨q_,q_,congrArg Aa hn2.symm,q_,z_⟩,⟨.inl q_,q_,z_⟩,q_,q_⟩
theorem Arg (f:List Int) (a b:Int) (hf:Bs f) (ha:0≤a∧a.toNat<f.length) (hb:0≤b∧b.toNat<f.length) (hl:f.length≤100000):Sy.Spec Tryz.prog 90 [.osl 900,Aa a,Aa b] [(900,.row 1 Aa f)] (Ab (Jp f a b).2) [(900,.row 1 Aa (Jp f a b).1)]:=cT F90 Tryz.ntmps90 fun F hF=>by
 obtain ⟨a1,a2,a3,a4⟩:=I5 a.toNat f a hf ha.1 ha.2 (Nat.le_refl _)
 obtain ⟨b1,b2,b3,b4⟩:=I5 b.toNat (E1 f a).1 b a1 hb.1 j_ (Nat.le_refl _)
 have F1:=topS f a hf ha.1 ha.2 hl
 have F2:=topS (E1 f a).1 b a1 hb.1 j_ j_
 rw[Jp]
 dsimp only
 generalize hy:E1 (E1 f a).1 b=y at *
 generalize hx:E1 f a=x at *
 have hm:(if y.2>x.2 then y.2 else x.2).toNat<y.1.length:=by split<;>omega
 have hm0:0≤(if y.2>x.2 then y.2 else x.2):=by split<;>omega
 have e1:(max x.2 y.2).toNat=(if y.2>x.2 then y.2 else x.2).toNat:=by rw[Int.max_def];split<;>split<;>omega
 have e2:(min x.2 y.2)=(if y.2<x.2 then y.2 else x.2):=by rw[Int.min_def];split<;>split<;>omega
 rw[e1,e2]
 refine T ?_
 refine X (Ac [(900,900)] q_ F172 F1 q_ W q_ V) ?_
 refine T ?_
 refine X (Ac [(900,900)] q_ F172 F2 q_ W q_ V) ?_
 refine T ?_
 refine X (Ao6 q_ q_ q_) ?_
 refine T ?_
 refine X (Yw q_ q_ q_) ?_
 refine T ?_
 refine⟨_,q_,q_,?_⟩
 refine T ?_
 exact done q_ (.cons .tmp .nil) [(900,900)] [(900,.row 1 Aa (y.1.set (if y.2>x.2 then y.2 else x.2).toNat (if y.2<x.2 then y.2 else x.2)))] (fun _ h=>h) q_ q_ U
theorem Kd {n:Net} {i:Nat} {v:Int} (h:(linkDomT n i v).2=true) (hi:i<n.ports.length):Ck n.ports[i] v=true:=by
 have e:nth n.ports ((i:Nat):Int)=n.ports[i]:=A1 (l:=n.ports) (i:=((i:Nat):Int)) hi
 unfold linkDomT at h
 split at h
 ·rename_i h3
  unfold crossT at h3
  split at h3
  ·rename_i h4
   rw[e]at h4
   exact h4.2.1
  ·cases h3
 ·cases h
theorem Qy {n:Net} (hr:Ah n=true) {f:List Int} {i:Nat} (hi:i<n.ports.length) {v:Int} (hf:Bs f) (hl:n.domains.length≤f.length):Bs (Cs n f i v)∧(Cs n f i v).length=f.length:=by
 unfold Cs
 split
 ·rename_i h
  have h2:=E7 h
  have hm:Ck n.ports[i] v=true:=Kd h hi
  have h3:=Kv hr hi hm
  have e:nth n.ports ((i:Nat):Int)=n.ports[i]:=A1 (l:=n.ports) (i:=((i:Nat):Int)) hi
  rw[e]
  exact Su hf ⟨h3.1,by omega⟩ ⟨h2.1,by omega⟩
 ·exact⟨hf,q_⟩
theorem Jt {α:Type} {g:List Int→α→List Int} {k:Nat}:∀ {l:List α} {f:List Int},(∀ a∈l,∀ f,Bs f→k≤f.length→Bs (g f a)∧(g f a).length=f.length)→Bs f→k≤f.length→Bs (l.foldl g f)∧(l.foldl g f).length=f.length
 | [],_,_,h,_=>⟨h,rfl⟩
 | a::l,f,hg,h,hk=>by
  obtain ⟨h1,h2⟩:=hg a qe f h hk
  obtain ⟨h3,h4⟩:=Jt (l:=l) (fun b hb=>hg b (by simp[hb])) h1 (by omega:k≤(g f a).length)
  exact⟨h3,by rw[List.foldl_cons,h4,h2]⟩
theorem Of {n:Net} (hr:Ah n=true) {f:List Int} {i:Nat} (hi:i<n.ports.length) (hf:Bs f) (hl:n.domains.length≤f.length):Bs (E6 n f i)∧(E6 n f i).length=f.length :=
 Jt (fun _ _ _ h1 h2=>Qy hr hi h1 h2) hf hl
theorem Acr {n:Net} (hr:Ah n=true) {f:List Int} (hf:Bs f) (hl:n.domains.length≤f.length):Bs (K6 n f)∧(K6 n f).length=f.length :=
 Jt (fun i hi _ h1 h2=>Of hr (by simpa using hi) h1 h2) hf hl
theorem Adg (l:List Int) (hl:l.length<2147483648):Sy.Spec Tryz.prog 21 [.sl 1 Aa l] [] (.osl 0) [(0,.row 1 Aa l)]:=cT F21 Tryz.ntmps21 fun F hF=>by
 ((conv=>whnf);repeat((first|refine aF ?_|refine aT ?_);(first|refine rG Γ hm ?_|refine rD Γ hm y_ ?_);conv=>whnf))
 refine Ig q_ (.inl q_) q_ q_ q_ .sl q_ q_ ?_
 intro b hb
 cases b
 ·((first|refine rG Γ hm ?_|refine rD Γ hm y_ ?_);(conv=>whnf);repeat((first|refine aF ?_|refine aT ?_);(first|refine rG Γ hm ?_|refine rD Γ hm y_ ?_);conv=>whnf))
  refine Cj (Aj Γ.toTy 7 q_ q_ q_ q_ q_ (.lit (e:=Aa) (l:=[]) q_ q_) .sl qe (by simp;omega) (by simp;omega)) q_ q_ ?_
  ((first|refine rG Γ hm ?_|refine rD Γ hm y_ ?_);(conv=>whnf);repeat((first|refine aF ?_|refine aT ?_);(first|refine rG Γ hm ?_|refine rD Γ hm y_ ?_);conv=>whnf))
  exact done q_ (.cons .tmp .nil) [(0,7)] [(0,.row 1 Aa l)] (fun _ h=>h) q_ q_ ⟨z_,⟨.inl q_,q_,z_⟩,q_,q_⟩
 ·have h0:l=[]:=List.eq_nil_of_length_eq_zero (hb rfl)
  subst h0
  ((first|refine rG Γ hm ?_|refine rD Γ hm y_ ?_);(conv=>whnf);repeat((first|refine aF ?_|refine aT ?_);(first|refine rG Γ hm ?_|refine rD Γ hm y_ ?_);conv=>whnf))
  refine C0 2 1000 1 Aa q_ q_ ?_
  exact done q_ (.cons .tmp .nil) [(0,1000)] [(0,.row 1 Aa [])] (fun _ h=>h) q_ q_ ⟨z_,⟨.inl q_,q_,z_⟩,q_,q_⟩
theorem Aqn (n:Net) (f:List Int) (hn:n.Fin) (hr:Ah n=true) (hf:Bs f) (hl:n.domains.length≤f.length) (hl2:f.length≤100000):Sy.Spec Tryz.prog 88 [Av n,.osl 900] [(900,.row 1 Aa f)] (.tup []) [(900,.row 1 Aa (K6 n f))]:=cT F88 Tryz.ntmps88 fun F hF=>by
 have hp:n.ports.length<2147483648:=hn.ports
 refine T ?_
 refine B1 2 8 (Av n) q_ q_ q_ ?_
 refine T ?_
 refine Dj n.ports.length (fun j=>[(1,.osl 900),(2,.ref 8 (Av n) 0),(11,.sl 7 Bd n.ports),(12,Aa n.ports.length),(13,Aa j)]) (fun j=>[(900,.row 1 Aa ((List.range j).foldl (E6 n) f))]) [] U ?_
 intro j hj
 refine T ?_
 refine⟨fun h=>?_,fun h=>?_⟩
 ·have hlt:j<n.ports.length:=qA h
  have hj0:((j:Nat):Int).toNat<n.ports.length:=hlt
  clear h
  have htag:n.ports[((j:Nat):Int).toNat].tagged.length<2147483648:=hn.tagged _ (List.getElem_mem hj0)
  have htag2:n.ports[j].tagged.length<2147483648:=htag
  have hnp:nth n.ports ((j:Nat):Int)=n.ports[((j:Nat):Int).toNat]:=A1 hj0
  obtain ⟨g1,g2⟩:Bs ((List.range j).foldl (E6 n) f)∧((List.range j).foldl (E6 n) f).length=f.length:=Jt (fun i hi _ h1 h2=>Of hr (by have:=List.mem_range.1 hi;omega) h1 h2) hf hl
  refine T ?_
  refine Xd (Ac [(0,60)] q_ F21 (Adg n.ports[((j:Nat):Int).toNat].tagged htag) q_ z_ q_ ⟨.inr q_,z_⟩) ?_
  refine T ?_
  refine Xd (Aj Γ.toTy 61 rfl rfl rfl rfl rfl (.row rfl) (.lit (e:=Aa) (l:=[n.ports[((j:Nat):Int).toNat].native]) rfl rfl) (by intro k hk;cases hk;decide) (by simp;omega) (by simp;omega)) ?_
  refine T ?_
  refine B1 5 7 (Bd n.ports[((j:Nat):Int).toNat]) q_ q_ q_ ?_
  have hlen:(n.ports[((j:Nat):Int).toNat].tagged++[n.ports[((j:Nat):Int).toNat].native]).length=n.ports[((j:Nat):Int).toNat].tagged.length+1:=by simp
  refine T ?_
  obtain ⟨vl,hvl⟩:∃ vl,n.ports[((j:Nat):Int).toNat].tagged++[n.ports[((j:Nat):Int).toNat].native]=vl:=⟨_,rfl⟩
  have hvlen:vl.length<2147483649:=by rw[← hvl,hlen];omega
  obtain ⟨fj,hfj⟩:∃ fj,(List.range j).foldl (E6 n) f=fj:=⟨_,rfl⟩
  rw[hfj]at g1 g2
  refine Dj vl.length (fun i=>[(1,.osl 900),(2,.ref 8 (Av n) 0),(4,Aa j),(5,.ref 7 (Bd n.ports[((j:Nat):Int).toNat]) 0),(11,.sl 7 Bd n.ports),(12,Aa n.ports.length),(13,Aa j),(24,.osl 1000),(25,Aa vl.length),(26,Aa i)])
   (fun i=>[(900,.row 1 Aa ((vl.take i).foldl (fun f v=>Cs n f j v) fj)),(1000,.row 1 Aa vl)]) [(1000,61)] ⟨⟨rfl,rfl,rfl,rfl,rfl,rfl,rfl,rfl,rfl,rfl,rfl,rfl,rfl,rfl,rfl,rfl,congrArg (fun l:List Int=>Aa l.length) hvl.symm,rfl,rfl,rfl,trivial⟩,⟨.inl (congrArg (Ob.row 1 Aa) hfj.symm),rfl,.inl (congrArg (Ob.row 1 Aa) hvl.symm),rfl,trivial⟩,rfl,rfl⟩ ?_
  intro i hi
  refine T ?_
  refine⟨fun h=>?_,fun h=>?_⟩
  ·have hit:i<vl.length:=qA h
   have hi0:((i:Nat):Int).toNat<vl.length:=hit
   clear h
   obtain ⟨e1,e2⟩:Bs ((vl.take i).foldl (fun f v=>Cs n f j v) fj)∧((vl.take i).foldl (fun f v=>Cs n f j v) fj).length=fj.length:=Jt (fun _ _ _ h1 h2=>Qy hr hlt h1 h2) g1 j_
   have hnx:(vl.take (i+1)).foldl (fun f v=>Cs n f j v) fj=Cs n ((vl.take i).foldl (fun f v=>Cs n f j v) fj) j (vl[((i:Nat):Int).toNat]'hi0):=by
    rw[List.take_succ_eq_append_getElem hit,List.foldl_append];rfl
   have q:=Acq n hn j (vl[((i:Nat):Int).toNat]'hi0)
   refine T ?_
   refine C q F171 ?_
   cases hb:(linkDomT n j (vl[((i:Nat):Int).toNat]'hi0)).2
   ·have hz:Cs n ((vl.take i).foldl (fun f v=>Cs n f j v) fj) j (vl[((i:Nat):Int).toNat]'hi0)=(vl.take i).foldl (fun f v=>Cs n f j v) fj:=by rw[Cs,if_neg (by rw[hb];decide)]
    rw[hz]at hnx
    refine T ?_
    exact Dl [] j_ ⟨⟨q_,q_,q_,q_,q_,q_,q_,q_,q_,q_,q_,q_,q_,q_,q_,q_,q_,q_,q_,q_,z_⟩,⟨.inl (congrArg (Ob.row 1 Aa) hnx),q_,.inl q_,q_,z_⟩,q_,q_⟩
   ·have hin:=E7 hb
    have hm:Ck (n.ports[((j:Nat):Int).toNat]'hj0) (vl[((i:Nat):Int).toNat]'hi0)=true:=Kd hb hlt
    have hdm:=Kv hr hlt hm
    have q2:=Jc n hn hr (n.ports[((j:Nat):Int).toNat]'hj0).dev (vl[((i:Nat):Int).toNat]'hi0)
    have hz:Cs n ((vl.take i).foldl (fun f v=>Cs n f j v) fj) j (vl[((i:Nat):Int).toNat]'hi0)=(Jp ((vl.take i).foldl (fun f v=>Cs n f j v) fj) (Bj n (n.ports[((j:Nat):Int).toNat]'hj0).dev (vl[((i:Nat):Int).toNat]'hi0)) (linkDomT n j (vl[((i:Nat):Int).toNat]'hi0)).1).1:=by rw[Cs,if_pos hb,hnp]
    rw[hz]at hnx
    have q3:=Arg ((vl.take i).foldl (fun f v=>Cs n f j v) fj) (Bj n (n.ports[((j:Nat):Int).toNat]'hj0).dev (vl[((i:Nat):Int).toNat]'hi0)) (linkDomT n j (vl[((i:Nat):Int).toNat]'hi0)).1 e1 ⟨hdm.1,Nat.lt_of_lt_of_le hdm.2 j_⟩ ⟨hin.1,by omega⟩ j_
    refine T ?_
    refine C q2 F129 ?_
    refine T ?_
    refine X (Ac [(900,900)] q_ F90 q3 q_ W q_ V) ?_
    refine T ?_
    exact Dl [] j_ ⟨⟨q_,q_,q_,q_,q_,q_,q_,q_,q_,q_,q_,q_,q_,q_,q_,q_,q_,q_,q_,q_,z_⟩,⟨.inl (congrArg (Ob.row 1 Aa) hnx),q_,.inl q_,q_,z_⟩,q_,q_⟩
  ·have hie:i=vl.length:=qB h
   clear h
   subst hie
   have hnx:(List.range (j+1)).foldl (E6 n) f=(vl.take vl.length).foldl (fun f v=>Cs n f j v) fj:=by
    rw[List.range_succ,List.foldl_append,hfj,List.take_length,← hvl]
    show E6 n fj j=_
    rw[E6,hnp]
   refine T ?_
   exact Dl [] j_ ⟨⟨q_,q_,q_,q_,q_,q_,q_,q_,q_,q_,z_⟩,⟨.inl (congrArg (Ob.row 1 Aa) hnx),q_,z_⟩,q_,q_⟩
 ·have hje:j=n.ports.length:=qB h
  clear h
  subst hje
  refine T ?_
  exact B0 q_ .nil [(900,900)] [(900,.row 1 Aa (K6 n f))] (fun _ h=>h) q_ q_ U
end Go.Sy.YtdkfcckkkfghgaaGreatDoor
namespace Go.Sy.YtdkfcckkkfghgaaGreatDoor
open Go.Proofs
attribute [local irreducible] Go.Sy.G Go.Sy.DR
set_option maxRecDepth 100000
set_option maxHeartbeats 4000000
theorem T0:∀ (l:List Int) (m:Int),H2 m l=m∨H2 m l∈l
 | [],_=>.inl rfl
 | x::l,m=>by
  rw[H2]
  rcases T0 l (min m x) with h | h
  ·rw[h,Int.min_def]
   split
   ·exact .inl q_
   ·exact .inr qe
  ·exact .inr (by simp[h])
theorem Aj2 {l:List Int} (h:l≠[]):Zv l∈l:=by
 match l,h with
 | x::l,_ =>
  show H2 (nth (x::l) 0) l∈x::l
  rw[show nth (x::l) 0=x from rfl]
  rcases T0 l x with h | h
  ·rw[h];simp
  ·simp[h]
theorem loopS (n:Net) (hn:n.Fin):Sy.Spec Tryz.prog 39 [Av n] [] (.tup [Aa (loopT n).1,Ab (loopT n).2]) []:=cT F39 Tryz.ntmps39 fun F hF=>by
 have qn:=Cb n hn
 have hT:=loopT.eq_1 n
 generalize loopT n=res at *
 cases hr:Ah n with
 | false =>
  rw[hr]at qn
  rw[hr,if_pos rfl]at hT
  subst hT
  refine T ?_
  refine C qn F81 ?_
  refine T ?_
  exact D
 | true =>
 rw[hr]at qn
 rw[hr,if_neg qe]at hT
 obtain ⟨_,_,_,hmany,_⟩:=Ape hr
 obtain ⟨fa1,fa2⟩:=I0 (2 * n.domains.length)
 have fl:=Acr hr fa1 j_
 have q1:=aloneS (2 * n.domains.length) j_
 rw[show ((2 * n.domains.length:Nat):Int)=2 * (n.domains.length:Int) from by omega]at q1
 have q2:=Aqn n (H4 (2 * n.domains.length)) hn hr fa1 j_ j_
 refine T ?_
 refine C qn F81 ?_
 refine B1 1 8 (Av n) q_ q_ q_ ?_
 refine T ?_
 refine X (Ac [(900,700)] q_ F87 q1 q_ W q_ V) ?_
 refine T ?_
 refine X (Ac [(900,700)] q_ F88 q2 q_ W q_ V) ?_
 refine T ?_
 refine Bk (fun x:Nat × List Int=>x.1≤n.domains.length∧Bs x.2∧x.2.length=2 * n.domains.length∧res=Oe n x.2 x.1 (n.domains.drop x.1)) (fun x=>[(1,.ref 8 (Av n) 0),(4,Aa n.domains.length),(5,.osl 1000),(22,.sl 6 An n.domains),(23,Aa n.domains.length),(24,Aa x.1)])
  (fun x=>[(1000,.row 1 Aa x.2)]) (fun x=>n.domains.length-x.1) (0,K6 n (H4 (2 * n.domains.length))) [(1000,700)] ⟨by omega,fl.1,by dsimp only;rw[fl.2,fa2],hT⟩ U ?_
 rintro ⟨i,f⟩ ⟨h1,h2,h3,hI⟩
 dsimp only at h1 h2 h3 hI ⊢
 refine T ?_
 refine⟨fun h=>?_,fun h=>?_⟩
 ·have hlt:i<n.domains.length:=qA h
  have hi0:((i:Nat):Int).toNat<n.domains.length:=hlt
  clear h
  rw[List.drop_eq_getElem_cons hlt,Oe]at hI
  have hpl:n.domains[((i:Nat):Int).toNat].peers.length<2147483648:=hn.peers _ (List.getElem_mem hi0)
  refine T ?_
  refine⟨fun h=>?_,fun h=>?_⟩
  ·have hpe:n.domains[i].peers=[]:=List.eq_nil_of_length_eq_zero (by have:=eq_of_beq h;have e:(n.domains[((i:Nat):Int).toNat]'hi0).peers.length=n.domains[i].peers.length:=rfl;omega)
   clear h
   rw[if_pos hpe]at hI
   refine T ?_
   exact Ar (i+1,f) [] ⟨hlt,h2,h3,hI⟩ (by dsimp only;omega) ⟨⟨q_,q_,q_,q_,q_,q_,q_,q_,q_,q_,q_,q_,z_⟩,⟨.inl q_,q_,z_⟩,q_,q_⟩
  have hpe:n.domains[i].peers≠[]:=fun e=>by
   have e2:(n.domains[((i:Nat):Int).toNat]'hi0).peers=[]:=e
   rw[e2]at h
   cases h
  clear h
  rw[if_neg hpe]at hI
  dsimp only at hI
  have hpm:=Aiw hr hlt (Aj2 hpe)
  have qm:=Ak1 (n.domains[((i:Nat):Int).toNat]'hi0).peers (by have:=List.length_pos_iff.2 hpe;exact this) hpl
  obtain ⟨m,hm⟩:∃ m,Zv (n.domains[((i:Nat):Int).toNat]'hi0).peers=m:=⟨_,rfl⟩
  have hm':Zv n.domains[i].peers=m:=hm
  have emin:min (i:Int) m=if m<(i:Int) then m else (i:Int):=by rw[Int.min_def];split<;>split<;>omega
  rw[hm]at qm
  rw[hm']at hI hpm
  rw[emin]at hI
  have hmb:0≤(if m<(i:Int) then m else (i:Int))∧(if m<(i:Int) then m else (i:Int))<n.domains.length:=by split<;>omega
  have q3:=Arg f i ((n.domains.length:Int)+(if m<(i:Int) then m else (i:Int))) h2 ⟨by omega,by omega⟩ ⟨by omega,by omega⟩ j_
  have q3f:=Su h2 (⟨by omega,by omega⟩:0≤(i:Int)∧(i:Int).toNat<f.length) (⟨by omega,by omega⟩:0≤(n.domains.length:Int)+(if m<(i:Int) then m else (i:Int))∧((n.domains.length:Int)+(if m<(i:Int) then m else (i:Int))).toNat<f.length)
  have hb48:(n.domains.length:Int)+(if m<(i:Int) then m else (i:Int))<100:=by omega
  generalize (Jp f i ((n.domains.length:Int)+(if m<(i:Int) then m else (i:Int))))=r at *
  obtain ⟨g,ok⟩:=r
  dsimp only at hI q3f
  refine T ?_
  refine C qm F89 ?_
  refine T ?_
  refine X (Yw q_ q_ q_) ?_
  refine T ?_
  refine X (Ac [(900,1000)] q_ F90 q3 q_ W q_ V) ?_
  cases ok with
  | false =>
   rw[if_pos rfl]at hI
   rw[hI]
   refine T ?_
   exact D
  | true =>
   rw[if_neg qd]at hI
   refine T ?_
   exact Ar (i+1,g) [] ⟨hlt,q3f.1,by dsimp only;omega,hI⟩ (by dsimp only;omega) ⟨⟨q_,q_,q_,q_,q_,q_,q_,q_,q_,q_,q_,q_,z_⟩,⟨.inl q_,q_,z_⟩,q_,q_⟩
 ·have hie:i=n.domains.length:=qB h
  clear h
  rw[hie,List.drop_length,Oe]at hI
  rw[hI]
  refine T ?_
  exact D
theorem Aaw (l:List Int) (x:Int) (hl:Ax l):Sy.Spec Tryz.prog 212 [.sl 1 A7 l,A7 x] [] (Aa (B4 (· == x) l)) []:=cT F212 Tryz.ntmps212 fun F hF=>by
 unfold Ax at hl
 ((conv=>whnf);repeat((first|refine aF ?_|refine aT ?_);(first|refine rG Γ hm ?_|refine rD Γ hm y_ ?_);conv=>whnf))
 refine Bf l.length (fun j=>∀ i (h:i<l.length),i<j→(l[i] == x)=false) (fun j=>[(0,.sl 1 A7 l),(1,A7 x),(7,Aa l.length),(8,Aa j)]) (fun _=>[]) [] (fun i h hj=>absurd hj j_) ⟨⟨q_,q_,q_,q_,q_,q_,q_,q_,z_⟩,z_,q_,q_⟩ ?_
 intro j hj hI
 ((first|refine rG Γ hm ?_|refine rD Γ hm y_ ?_);(conv=>whnf);repeat((first|refine aF ?_|refine aT ?_);(first|refine rG Γ hm ?_|refine rD Γ hm y_ ?_);conv=>whnf))
 (repeat' (first | (refine⟨fun h=>?_,fun h=>?_⟩<;>(repeat (first | simp only[Af]at h | simp only[decide_eq_true_eq]at h | simp only[decide_eq_false_iff_not]at h | simp only[beq_iff_eq]at h | simp only[beq_eq_false_iff_ne]at h | simp only[bne_iff_ne]at h | simp only[bne_eq_false_iff_eq]at h | simp only[Bool.and_eq_true]at h | simp only[Bool.or_eq_true]at h | simp only[Bool.and_eq_false_iff]at h | simp only[Bool.or_eq_false_iff]at h | simp only[Bool.not_eq_true']at h | simp only[Bool.not_eq_false']at h | simp only[Bool.not_eq_eq_eq_not]at h | simp only[Bool.not_true]at h | simp only[Bool.not_false]at h))<;>((first|refine rg ?_|refine rd y_ ?_);(conv=>whnf);repeat((first|refine aF ?_|refine aT ?_);(first|refine rg ?_|refine rd y_ ?_);(conv=>whnf)))) | (refine Aw rfl (.cons .tmp .nil) ?_ rfl) | (refine⟨y_,?_⟩;((conv=>whnf);repeat((first|refine aF ?_|refine aT ?_);(first|refine rg ?_|refine rd y_ ?_);(conv=>whnf)))) | (refine⟨by (first | (unfold I64;omega) | omega | (simp only[Int.toNat_natCast];omega) | done),by (first | (unfold I64;omega) | omega | (simp only[Int.toNat_natCast];omega) | done),?_⟩;((conv=>whnf);repeat((first|refine aF ?_|refine aT ?_);(first|refine rg ?_|refine rd y_ ?_);(conv=>whnf)))) | (refine⟨by (first | (unfold I64;omega) | omega | (simp only[Int.toNat_natCast];omega) | done),?_⟩;((conv=>whnf);repeat((first|refine aF ?_|refine aT ?_);(first|refine rg ?_|refine rd y_ ?_);(conv=>whnf)))) | refine Bi [] hI j_ ?_ ⟨⟨rfl,rfl,rfl,rfl,rfl,rfl,rfl,rfl,trivial⟩,trivial,rfl,rfl⟩))
 all_goals try (refine congrArg Aa ?_)
 ·exact Di j_ hI (by simpa using h.symm)
 ·intro i hi hij
  rcases Nat.lt_or_ge i j with h1 | h1
  ·exact hI i hi h1
  ·have:i=j:=by omega
   subst this
   simpa using Ne.symm h
 ·exact Hc (fun i hi=>hI i hi j_)
theorem Mh (l:List Int) (x:Int) (hl:Ax l):Sy.Spec Tryz.prog 133 [.sl 1 A7 l,A7 x] [] (Ab (inB l x)) []:=cT F133 Tryz.ntmps133 fun F hF=>by
 ((conv=>whnf);repeat((first|refine aF ?_|refine aT ?_);(first|refine rG Γ hm ?_|refine rD Γ hm y_ ?_);conv=>whnf))
 (repeat' (first | (refine⟨fun h=>?_,fun h=>?_⟩<;>(repeat (first | simp only[Af]at h | simp only[decide_eq_true_eq]at h | simp only[decide_eq_false_iff_not]at h | simp only[beq_iff_eq]at h | simp only[beq_eq_false_iff_ne]at h | simp only[bne_iff_ne]at h | simp only[bne_eq_false_iff_eq]at h | simp only[Bool.and_eq_true]at h | simp only[Bool.or_eq_true]at h | simp only[Bool.and_eq_false_iff]at h | simp only[Bool.or_eq_false_iff]at h | simp only[Bool.not_eq_true']at h | simp only[Bool.not_eq_false']at h | simp only[Bool.not_eq_eq_eq_not]at h | simp only[Bool.not_true]at h | simp only[Bool.not_false]at h))<;>((first|refine rg ?_|refine rd y_ ?_);(conv=>whnf);repeat((first|refine aF ?_|refine aT ?_);(first|refine rg ?_|refine rd y_ ?_);(conv=>whnf)))) | (refine Aw rfl (.cons .tmp .nil) ?_ rfl) | (refine⟨y_,?_⟩;((conv=>whnf);repeat((first|refine aF ?_|refine aT ?_);(first|refine rg ?_|refine rd y_ ?_);(conv=>whnf)))) | (refine⟨by (first | (unfold I64;omega) | omega | (simp only[Int.toNat_natCast];omega) | done),by (first | (unfold I64;omega) | omega | (simp only[Int.toNat_natCast];omega) | done),?_⟩;((conv=>whnf);repeat((first|refine aF ?_|refine aT ?_);(first|refine rg ?_|refine rd y_ ?_);(conv=>whnf)))) | (refine⟨by (first | (unfold I64;omega) | omega | (simp only[Int.toNat_natCast];omega) | done),?_⟩;((conv=>whnf);repeat((first|refine aF ?_|refine aT ?_);(first|refine rg ?_|refine rd y_ ?_);(conv=>whnf)))) | (refine c0 (Aaw _ _ hl) F212 ?_;((first|refine rg ?_|refine rd y_ ?_);(conv=>whnf);repeat((first|refine aF ?_|refine aT ?_);(first|refine rg ?_|refine rd y_ ?_);(conv=>whnf)))) | (refine cD (Aaw _ _ hl) F212 ?_;((first|refine rg ?_|refine rd y_ ?_);(conv=>whnf);repeat((first|refine aF ?_|refine aT ?_);(first|refine rg ?_|refine rd y_ ?_);(conv=>whnf))))))
 exact congrArg Ab (Ll _ _).symm
theorem ovVniS (n:Net) (hn:n.Fin) (l:LineM) (hl:LineW l):Sy.Spec Tryz.prog 77 [Av n,Ad l] [] (.tup [Av (putVni n l).1,Aa (putVni n l).2]) []:=cT F77 Tryz.ntmps77 fun F hF=>by
 have hok:=@beg_ok n l 6
 have hres:=putVni.eq_1 n l
 have q1:=La n hn l hl 6
 have qcopy:=Mg n hn
 generalize putVni n l=res at *
 generalize begT n l 6=b at *
 obtain ⟨d,e⟩:=b
 dsimp only at hres hok q1
 by_cases h1:e≠0
 ·have g1:(e != 0)=true:=by rw[bne_iff_ne];exact h1
  rw[if_pos h1]at hres
  subst hres
  refine T ?_
  refine C q1 F132 ?_
  refine Am 4 (C3 emptyN) q_ (.cons .nil (.cons .nil (.cons .nil (.cons .nil (.cons .nil (.cons .nil (.cons .nil (.cons .nil .nil)))))))) ?_
  refine T ?_
  exact D
 have g1:(e != 0)=false:=by rw[bne_eq_false_iff_eq];omega
 rw[if_neg h1]at hres
 obtain ⟨_,hr,i,hi,hlt⟩:=hok j_
 subst hi
 clear hok
 have hlt0:((i:Nat):Int).toNat<n.devices.length:=hlt
 have hnth:nth n.devices (i:Int)=n.devices[((i:Nat):Int).toNat]'hlt0:=A1 hlt0
 rw[hnth]at hres
 have q2:=Jc n hn hr (i:Int) l.vlan
 have q3:=Ts n hn (i:Int) l.num
 have hdr:Bj n (i:Int) l.vlan<0∨∃ k:Nat,Bj n (i:Int) l.vlan=k∧k<n.domains.length:=by
  by_cases h:Bj n (i:Int) l.vlan<0
  ·exact .inl h
  ·exact .inr (I9 h)
 generalize Bj n (i:Int) l.vlan=dm at *
 by_cases h2:(n.devices[((i:Nat):Int).toNat]'hlt0).vtep=0
 ·have g2:((n.devices[((i:Nat):Int).toNat]'hlt0).vtep == 0)=true:=by rw[beq_iff_eq];exact h2
  rw[if_pos h2]at hres
  subst hres
  refine T ?_
  refine C q1 F132 ?_
  refine C q2 F129 ?_
  refine Am 4 (C3 emptyN) q_ (.cons .nil (.cons .nil (.cons .nil (.cons .nil (.cons .nil (.cons .nil (.cons .nil (.cons .nil .nil)))))))) ?_
  refine T ?_
  exact D
 have g2:((n.devices[((i:Nat):Int).toNat]'hlt0).vtep == 0)=false:=by rw[beq_eq_false_iff_ne];exact h2
 rw[if_neg h2]at hres
 by_cases h3:dm<0
 ·have g3:decide (dm<0)=true:=decide_eq_true h3
  rw[if_pos h3]at hres
  subst hres
  refine T ?_
  refine C q1 F132 ?_
  refine C q2 F129 ?_
  refine Am 4 (C3 emptyN) q_ (.cons .nil (.cons .nil (.cons .nil (.cons .nil (.cons .nil (.cons .nil (.cons .nil (.cons .nil .nil)))))))) ?_
  refine T ?_
  exact D
 have g3:decide (dm<0)=false:=decide_eq_false h3
 rw[if_neg h3]at hres
 obtain ⟨k,hk,hkl⟩:=hdr.resolve_left h3
 subst hk
 clear hdr
 have hkl0:((k:Nat):Int).toNat<n.domains.length:=hkl
 have hnd:nth n.domains (k:Int)=n.domains[((k:Nat):Int).toNat]'hkl0:=A1 hkl0
 rw[hnd]at hres
 by_cases h4:(n.domains[((k:Nat):Int).toNat]'hkl0).vni≠0
 ·have g4:((n.domains[((k:Nat):Int).toNat]'hkl0).vni != 0)=true:=by rw[bne_iff_ne];exact h4
  rw[if_pos (.inl h4)]at hres
  subst hres
  refine T ?_
  refine C q1 F132 ?_
  refine C q2 F129 ?_
  refine Am 4 (C3 emptyN) q_ (.cons .nil (.cons .nil (.cons .nil (.cons .nil (.cons .nil (.cons .nil (.cons .nil (.cons .nil .nil)))))))) ?_
  refine T ?_
  exact D
 have g4:((n.domains[((k:Nat):Int).toNat]'hkl0).vni != 0)=false:=by rw[bne_eq_false_iff_eq];omega
 by_cases h5:0≤Et n (i:Int) l.num
 ·have g5:decide (Et n (i:Int) l.num≥0)=true:=decide_eq_true h5
  rw[if_pos (.inr h5)]at hres
  subst hres
  refine T ?_
  refine C q1 F132 ?_
  refine C q2 F129 ?_
  refine C q3 F85 ?_
  refine Am 4 (C3 emptyN) q_ (.cons .nil (.cons .nil (.cons .nil (.cons .nil (.cons .nil (.cons .nil (.cons .nil (.cons .nil .nil)))))))) ?_
  refine T ?_
  exact D
 have g5:decide (Et n (i:Int) l.num≥0)=false:=decide_eq_false h5
 rw[if_neg (fun h=>h.elim h4 h5)]at hres
 have hne:n.domains≠[]:=fun e=>by rw[e]at hkl;cases hkl
 have hne2:∀ x,n.domains.set ((k:Nat):Int).toNat x≠[]:=fun x e=>by
  have:=congrArg List.length e
  rw[List.length_set]at this
  simp at this;exact hne this
 have hk2:∀ x,((k:Nat):Int).toNat<(n.domains.set ((k:Nat):Int).toNat x).length:=fun x=>by rw[List.length_set];exact hkl0
 have hset:∀ x y,(n.domains.set ((k:Nat):Int).toNat x).set ((k:Nat):Int).toNat y=n.domains.set ((k:Nat):Int).toNat y:=fun x y=>List.set_set ..
 have hget:∀ x,(n.domains.set ((k:Nat):Int).toNat x)[((k:Nat):Int).toNat]'(hk2 x)=x:=fun x=>List.getElem_set_self ..
 rw[← hset (⟨(n.domains[((k:Nat):Int).toNat]'hkl0).dev,(n.domains[((k:Nat):Int).toNat]'hkl0).vlan,l.num,(n.domains[((k:Nat):Int).toNat]'hkl0).irb,(n.domains[((k:Nat):Int).toNat]'hkl0).row,(n.domains[((k:Nat):Int).toNat]'hkl0).peers⟩:Domain) (⟨(n.domains[((k:Nat):Int).toNat]'hkl0).dev,(n.domains[((k:Nat):Int).toNat]'hkl0).vlan,l.num,(n.domains[((k:Nat):Int).toNat]'hkl0).irb,l.row,(n.domains[((k:Nat):Int).toNat]'hkl0).peers⟩:Domain)]at hres
 subst hres
 refine T ?_
 refine C q1 F132 ?_
 refine C q2 F129 ?_
 refine C q3 F85 ?_
 refine X (Ac [(0,901),(1,902),(2,903),(3,904),(4,905),(5,906),(6,907),(7,908)] q_ F83 qcopy q_ W q_ V) ?_
 refine⟨hne,?_⟩
 refine T ?_
 refine⟨(⟨(n.domains[((k:Nat):Int).toNat]'hkl0).dev,(n.domains[((k:Nat):Int).toNat]'hkl0).vlan,l.num,(n.domains[((k:Nat):Int).toNat]'hkl0).irb,(n.domains[((k:Nat):Int).toNat]'hkl0).row,(n.domains[((k:Nat):Int).toNat]'hkl0).peers⟩:Domain),q_,q_,?_⟩
 refine T ?_
 refine⟨hk2 _,?_⟩
 refine T ?_
 refine⟨hne2 _,?_⟩
 refine T ?_
 refine⟨hk2 _,(⟨(n.domains[((k:Nat):Int).toNat]'hkl0).dev,(n.domains[((k:Nat):Int).toNat]'hkl0).vlan,l.num,(n.domains[((k:Nat):Int).toNat]'hkl0).irb,l.row,(n.domains[((k:Nat):Int).toNat]'hkl0).peers⟩:Domain),by rw[hget];rfl,by rw[hget];rfl,?_⟩
 refine T ?_
 refine Ai 901 q_ ?_
 refine Ai 902 q_ ?_
 refine Ai 903 q_ ?_
 refine Ai 904 q_ ?_
 refine Ai 905 q_ ?_
 refine Ai 906 q_ ?_
 refine Ai 907 q_ ?_
 refine Ai 908 q_ ?_
 exact D
theorem Anu (n:Net) (hn:n.Fin) (l:LineM) (hl:LineW l):Sy.Spec Tryz.prog 78 [Av n,Ad l] [] (.tup [Av (putFlood n l).1,Aa (putFlood n l).2]) []:=cT F78 Tryz.ntmps78 fun F hF=>by
 have hok:=@beg_ok n l 7
 have hres:=putFlood.eq_1 n l
 have q1:=La n hn l hl 7
 have qcopy:=Mg n hn
 generalize putFlood n l=res at *
 generalize begT n l 7=b at *
 obtain ⟨d,e⟩:=b
 dsimp only at hres hok q1
 by_cases h1:e≠0
 ·have g1:(e != 0)=true:=by rw[bne_iff_ne];exact h1
  rw[if_pos h1]at hres
  subst hres
  refine T ?_
  refine C q1 F132 ?_
  refine Am 4 (C3 emptyN) q_ (.cons .nil (.cons .nil (.cons .nil (.cons .nil (.cons .nil (.cons .nil (.cons .nil (.cons .nil .nil)))))))) ?_
  refine T ?_
  exact D
 have g1:(e != 0)=false:=by rw[bne_eq_false_iff_eq];omega
 rw[if_neg h1]at hres
 obtain ⟨_,hr,i,hi,hlt⟩:=hok j_
 subst hi
 clear hok
 have hlt0:((i:Nat):Int).toNat<n.devices.length:=hlt
 have hnth:nth n.devices (i:Int)=n.devices[((i:Nat):Int).toNat]'hlt0:=A1 hlt0
 rw[hnth]at hres
 have hla:=hl.fin.a
 have q2:=Ts n hn (i:Int) l.num
 have q3:=Ab7 n hn (i:Int) l.num
 have q4:=Mh l.addrs (n.devices[((i:Nat):Int).toNat]'hlt0).vtep (by unfold Ax;omega)
 have q5:=Vj l.addrs j_
 generalize Et n (i:Int) l.num=v2 at *
 generalize C4 n (i:Int) l.num=v3 at *
 generalize inB l.addrs (n.devices[((i:Nat):Int).toNat]'hlt0).vtep=v4 at *
 by_cases h2:v2<0
 ·have g2:decide (v2<0)=true:=decide_eq_true h2
  rw[if_pos h2]at hres
  subst hres
  refine T ?_
  refine C q1 F132 ?_
  refine C q2 F85 ?_
  refine Am 4 (C3 emptyN) q_ (.cons .nil (.cons .nil (.cons .nil (.cons .nil (.cons .nil (.cons .nil (.cons .nil (.cons .nil .nil)))))))) ?_
  refine T ?_
  exact D
 have g2:decide (v2<0)=false:=decide_eq_false h2
 rw[if_neg h2]at hres
 by_cases h3:0≤v3
 ·have g3:decide (v3≥0)=true:=decide_eq_true h3
  rw[if_pos h3]at hres
  subst hres
  refine T ?_
  refine C q1 F132 ?_
  refine C q2 F85 ?_
  refine C q3 F84 ?_
  refine Am 4 (C3 emptyN) q_ (.cons .nil (.cons .nil (.cons .nil (.cons .nil (.cons .nil (.cons .nil (.cons .nil (.cons .nil .nil)))))))) ?_
  refine T ?_
  exact D
 have g3:decide (v3≥0)=false:=decide_eq_false h3
 rw[if_neg h3]at hres
 cases v4 with
 | true =>
  rw[if_pos rfl]at hres
  subst hres
  refine T ?_
  refine C q1 F132 ?_
  refine C q2 F85 ?_
  refine C q3 F84 ?_
  refine C q4 F133 ?_
  refine Am 4 (C3 emptyN) q_ (.cons .nil (.cons .nil (.cons .nil (.cons .nil (.cons .nil (.cons .nil (.cons .nil (.cons .nil .nil)))))))) ?_
  refine T ?_
  exact D
 | false =>
  rw[if_neg qe]at hres
  by_cases h5:n.floods.length=48
  ·have g5:((n.floods.length:Int) == 48)=true:=by rw[beq_iff_eq];omega
   rw[if_pos h5]at hres
   subst hres
   refine T ?_
   refine C q1 F132 ?_
   refine C q2 F85 ?_
   refine C q3 F84 ?_
   refine C q4 F133 ?_
   refine Am 4 (C3 emptyN) q_ (.cons .nil (.cons .nil (.cons .nil (.cons .nil (.cons .nil (.cons .nil (.cons .nil (.cons .nil .nil)))))))) ?_
   refine T ?_
   exact D
  have g5:((n.floods.length:Int) == 48)=false:=by rw[beq_eq_false_iff_ne];omega
  rw[if_neg h5]at hres
  subst hres
  have hfl:n.floods.length<2147483648:=hn.floods
  refine T ?_
  refine C q1 F132 ?_
  refine C q2 F85 ?_
  refine C q3 F84 ?_
  refine C q4 F133 ?_
  refine X (Ac [(0,901),(1,902),(2,903),(3,904),(4,905),(5,906),(6,907),(7,908)] q_ F83 qcopy q_ W q_ V) ?_
  refine C q5 F22 ?_
  refine Xd (Aj Γ.toTy 66 q_ q_ q_ q_ q_ (.row q_) (.lit (e:=Be) (l:=[(⟨l.row,(i:Int),l.num,l.addrs⟩:Flood)]) q_ q_) qd (by simp only[List.length_singleton];omega) (by simp only[List.length_singleton];omega)) ?_
  refine T ?_
  refine Ai 901 q_ ?_
  refine Ai 902 q_ ?_
  refine Ai 903 q_ ?_
  refine Ai 904 q_ ?_
  refine Ai 905 q_ ?_
  refine Ai 66 q_ ?_
  refine Ai 907 q_ ?_
  refine Ai 908 q_ ?_
  exact D
theorem Ap3 (n:Net) (hn:n.Fin) (l:LineM) (hl:LineW l):Sy.Spec Tryz.prog 79 [Av n,Ad l] [] (.tup [Av (putVrf n l).1,Aa (putVrf n l).2]) []:=cT F79 Tryz.ntmps79 fun F hF=>by
 have hok:=@beg_ok n l 8
 have hres:=putVrf.eq_1 n l
 have q1:=Xg n hn l hl 8
 have qcopy:=Mg n hn
 generalize putVrf n l=res at *
 generalize begT n l 8=b at *
 obtain ⟨d,e⟩:=b
 dsimp only at hres hok q1
 by_cases h1:e≠0
 ·have g1:(e != 0)=true:=by rw[bne_iff_ne];exact h1
  rw[if_pos h1]at hres
  subst hres
  refine T ?_
  refine C q1 F134 ?_
  refine Am 4 (C3 emptyN) q_ (.cons .nil (.cons .nil (.cons .nil (.cons .nil (.cons .nil (.cons .nil (.cons .nil (.cons .nil .nil)))))))) ?_
  refine T ?_
  exact D
 have g1:(e != 0)=false:=by rw[bne_eq_false_iff_eq];omega
 rw[if_neg h1]at hres
 obtain ⟨_,hr,i,hi,hlt⟩:=hok j_
 subst hi
 clear hok
 have hlt0:((i:Nat):Int).toNat<n.devices.length:=hlt
 have hnth:nth n.devices (i:Int)=n.devices[((i:Nat):Int).toNat]'hlt0:=A1 hlt0
 clear hnth
 have hli:=hl.fin.i
 have hle:=hl.fin.e
 have q2:=Aam n hn hr (i:Int) l.name
 have q5:=Es l.imports j_
 have q6:=Es l.exports j_
 have hfl:n.vrfs.length<2147483648:=hn.vrfs
 generalize Sa n (i:Int) l.name=v2 at *
 by_cases h2:0≤v2
 ·have g2:decide (v2≥0)=true:=decide_eq_true h2
  rw[if_pos h2]at hres
  subst hres
  refine T ?_
  refine C q1 F134 ?_
  refine C q2 F135 ?_
  refine Am 4 (C3 emptyN) q_ (.cons .nil (.cons .nil (.cons .nil (.cons .nil (.cons .nil (.cons .nil (.cons .nil (.cons .nil .nil)))))))) ?_
  refine T ?_
  exact D
 have g2:decide (v2≥0)=false:=decide_eq_false h2
 rw[if_neg h2]at hres
 by_cases h5:n.vrfs.length=16
 ·have g5:((n.vrfs.length:Int) == 16)=true:=by rw[beq_iff_eq];omega
  rw[if_pos h5]at hres
  subst hres
  refine T ?_
  refine C q1 F134 ?_
  refine C q2 F135 ?_
  refine Am 4 (C3 emptyN) q_ (.cons .nil (.cons .nil (.cons .nil (.cons .nil (.cons .nil (.cons .nil (.cons .nil (.cons .nil .nil)))))))) ?_
  refine T ?_
  exact D
 have g5:((n.vrfs.length:Int) == 16)=false:=by rw[beq_eq_false_iff_ne];omega
 rw[if_neg h5]at hres
 subst hres
 refine T ?_
 refine C q1 F134 ?_
 refine C q2 F135 ?_
 refine X (Ac [(0,901),(1,902),(2,903),(3,904),(4,905),(5,906),(6,907),(7,908)] q_ F83 qcopy q_ W q_ V) ?_
 refine C q5 F21 ?_
 refine C q6 F21 ?_
 refine Xd (Aj Γ.toTy 51 q_ q_ q_ q_ q_ (.row q_) (.lit (e:=Ct) (l:=[(⟨l.row,(i:Int),l.name,l.imports,l.exports⟩:Vrf)]) q_ q_) qd (by simp only[List.length_singleton];omega) (by simp only[List.length_singleton];omega)) ?_
 refine T ?_
 refine Ai 901 q_ ?_
 refine Ai 902 q_ ?_
 refine Ai 903 q_ ?_
 refine Ai 904 q_ ?_
 refine Ai 905 q_ ?_
 refine Ai 906 q_ ?_
 refine Ai 51 q_ ?_
 refine Ai 908 q_ ?_
 exact D
theorem Aak {a b x:Int} (hb:0≤b∧b≤32) (ha:0≤a∧a<4294967296) (hx:0≤x∧x<4294967296):Ao3 a b x=J1 a b x:=by
 obtain ⟨y,rfl⟩:=Int.eq_ofNat_of_zero_le ha.1
 obtain ⟨z,rfl⟩:=Int.eq_ofNat_of_zero_le hx.1
 obtain ⟨k,hk,hk2⟩:∃ k:Nat,(32-b).toNat=k∧k≤32:=⟨_,rfl,by omega⟩
 have hq:0<2 ^ k:=Nat.two_pow_pos k
 rw[Ao3,Alb b hb,hk,masked y z k j_ j_ hk2,J1,decide_eq_true hb.1,decide_eq_true hb.2,Bool.true_and,Bool.true_and,Ku y k b hb hk,Ku z k b hb hk]
 generalize 2 ^ k=q at *
 have h1:=Nat.div_add_mod y q
 have h2:=Nat.div_add_mod z q
 have e1:y-y % q=q * (y / q):=by omega
 have e2:z-z % q=q * (z / q):=by omega
 rw[e1,e2,Bool.eq_iff_iff,decide_eq_true_eq,beq_iff_eq]
 constructor
 ·intro h;rw[h]
 ·intro h
  exact Nat.eq_of_mul_eq_mul_left hq (by exact_mod_cast h)
theorem clashS (n:Net) (x:Irb) (hv:0≤x.vrf∧x.vrf.toNat<n.vrfs.length) (hb:0≤x.bits∧x.bits≤32) (hx:0≤x.addr∧x.addr<4294967296) (dev a b:Int) (ha:0≤a∧a<4294967296) (hb2:0≤b∧b≤32) :
  Sy.Spec Tryz.prog 138 [Av n,Cr x,Aa dev,Ajz a b] [] (Ab (clashB n dev a b x)) []:=cT F138 Tryz.ntmps138 fun F hF=>by
 have q1:=Agj x.addr x.bits a hb
 have q2:=Agj a b x.addr hb2
 rw[Aak hb hx ha]at q1
 rw[Aak hb2 ha hx]at q2
 have hc:=clashB.eq_1 n dev a b x
 have hv0:=hv.2
 rw[A1 hv0]at hc
 generalize clashB n dev a b x=r at *
 generalize J1 x.addr x.bits a=p1 at *
 generalize J1 a b x.addr=p2 at *
 cases h1:(x.addr == a) with
 | true =>
  rw[h1,Bool.true_or]at hc
  subst hc
  refine T ?_
  exact D
 | false =>
  rw[h1,Bool.false_or]at hc
  cases h2:((n.vrfs[x.vrf.toNat]'hv0).dev != dev) with
  | false =>
   rw[h2,Bool.false_and]at hc
   subst hc
   refine T ?_
   exact D
  | true =>
   rw[h2,Bool.true_and]at hc
   cases p1 with
   | true =>
    rw[Bool.true_or]at hc
    subst hc
    refine T ?_
    refine C q1 F216 ?_
    exact D
   | false =>
    rw[Bool.false_or]at hc
    subst hc
    refine T ?_
    refine C q1 F216 ?_
    refine C q2 F216 ?_
    exact D
theorem irbC (n:Net) (x:Irb) (hv:0≤x.vrf∧x.vrf.toNat<n.vrfs.length) (hb:0≤x.bits∧x.bits≤32) (hx:0≤x.addr∧x.addr<4294967296) (dev:Int) (l:LineM) (ha:0≤l.addr∧l.addr<4294967296) (hb2:0≤l.bits∧l.bits≤32) :
  Sy.Spec Tryz.prog 137 [Cr x,.ref 8 (Av n) 0,.ref 1 (Aa dev) 0,.ref 17 (Ad l) 0] [] (Ab (clashB n dev l.addr l.bits x)) []:=cT F137 Tryz.ntmps137 fun F hF=>by
 have q:=clashS n x hv hb hx dev l.addr l.bits ha hb2
 generalize clashB n dev l.addr l.bits x=r at *
 refine T ?_
 refine C q F138 ?_
 exact D
theorem Ais {n:Net} {l:LineM} {k:Int} (h:fitsB n l k=true):l.kind=k∧Ao l=true∧Ah n=true:=by
 unfold fitsB at h
 simp only[Bool.and_eq_true,beq_iff_eq]at h
 exact⟨h.1,h.2.1,h.2.2⟩
theorem Ahr {l:LineM} (h:Ao l=true) (hk:l.kind=9):0≤l.bits∧l.bits≤32:=by
 rw[Ao,Bool.and_eq_true]at h
 have:=h.1
 simp[A0,hk]at this
 have:=Mv this.2.2
 omega
theorem Aqr (n:Net) (hn:n.Fin) (ha:I3 n) (l:LineM) (hl:LineW l):Sy.Spec Tryz.prog 80 [Av n,Ad l] [] (.tup [Av (putIrb n l).1,Aa (putIrb n l).2]) []:=cT F80 Tryz.ntmps80 fun F hF=>by
 have hok:=@beg_ok n l 9
 have hres:=putIrb.eq_1 n l
 have q1:=Xg n hn l hl 9
 have qcopy:=Mg n hn
 generalize putIrb n l=res at *
 generalize begT n l 9=b at *
 obtain ⟨d,e⟩:=b
 dsimp only at hres hok q1
 by_cases h1:e≠0
 ·have g1:(e != 0)=true:=by rw[bne_iff_ne];exact h1
  rw[if_pos h1]at hres
  subst hres
  refine T ?_
  refine C q1 F134 ?_
  refine Am 4 (C3 emptyN) q_ (.cons .nil (.cons .nil (.cons .nil (.cons .nil (.cons .nil (.cons .nil (.cons .nil (.cons .nil .nil)))))))) ?_
  refine T ?_
  exact D
 have g1:(e != 0)=false:=by rw[bne_eq_false_iff_eq];omega
 rw[if_neg h1]at hres
 obtain ⟨hfit,hr,i,hi,hlt⟩:=hok j_
 subst hi
 clear hok
 have hlt0:((i:Nat):Int).toNat<n.devices.length:=hlt
 have hnth:nth n.devices (i:Int)=n.devices[((i:Nat):Int).toNat]'hlt0:=A1 hlt0
 clear hnth
 obtain ⟨hk9,hrl,_⟩:=Ais hfit
 have hbits:=Ahr hrl hk9
 have q2:=Aam n hn hr (i:Int) l.name
 have q3:=Jc n hn hr (i:Int) l.vlan
 have hirb:∀ x∈n.irbs,(0≤x.vrf∧x.vrf.toNat<n.vrfs.length)∧(0≤x.bits∧x.bits≤32):=fun x hx=>by
  obtain ⟨j,hj,rfl⟩:=List.getElem_of_mem hx
  have:=Arj hr hj
  simp only[Zy,Af,Bool.and_eq_true,decide_eq_true_eq]at this
  omega
 have qc:=Ul n.irbs (clashB n (i:Int) l.addr l.bits) 137 [] [.ref 8 (Av n) 0,.ref 1 (Aa (i:Int)) 0,.ref 17 (Ad l) 0] rfl (fun x hx=>⟨⟨_,_,F137⟩,irbC n x (hirb x hx).1 (hirb x hx).2 (ha x hx) (i:Int) l hl.ok.addr hbits⟩) hn.irbs
 rw[Ll]at qc
 have hdr:Bj n (i:Int) l.vlan<0∨∃ k:Nat,Bj n (i:Int) l.vlan=k∧k<n.domains.length:=by
  by_cases h:Bj n (i:Int) l.vlan<0
  ·exact .inl h
  ·exact .inr (I9 h)
 generalize Sa n (i:Int) l.name=v2 at *
 generalize Bj n (i:Int) l.vlan=dm at *
 generalize n.irbs.any (clashB n (i:Int) l.addr l.bits)=cl at *
 by_cases h2:v2<0
 ·have g2:decide (v2<0)=true:=decide_eq_true h2
  rw[if_pos h2]at hres
  subst hres
  refine T ?_
  refine C q1 F134 ?_
  refine C q2 F135 ?_
  refine C q3 F129 ?_
  refine Am 4 (C3 emptyN) q_ (.cons .nil (.cons .nil (.cons .nil (.cons .nil (.cons .nil (.cons .nil (.cons .nil (.cons .nil .nil)))))))) ?_
  refine T ?_
  exact D
 have g2:decide (v2<0)=false:=decide_eq_false h2
 rw[if_neg h2]at hres
 by_cases h3:dm<0
 ·have g3:decide (dm<0)=true:=decide_eq_true h3
  rw[if_pos h3]at hres
  subst hres
  refine T ?_
  refine C q1 F134 ?_
  refine C q2 F135 ?_
  refine C q3 F129 ?_
  refine Am 4 (C3 emptyN) q_ (.cons .nil (.cons .nil (.cons .nil (.cons .nil (.cons .nil (.cons .nil (.cons .nil (.cons .nil .nil)))))))) ?_
  refine T ?_
  exact D
 have g3:decide (dm<0)=false:=decide_eq_false h3
 rw[if_neg h3]at hres
 obtain ⟨k,hk,hkl⟩:=hdr.resolve_left h3
 subst hk
 clear hdr
 have hkl0:((k:Nat):Int).toNat<n.domains.length:=hkl
 have hnd:nth n.domains (k:Int)=n.domains[((k:Nat):Int).toNat]'hkl0:=A1 hkl0
 rw[hnd]at hres
 by_cases h4:0≤(n.domains[((k:Nat):Int).toNat]'hkl0).irb
 ·have g4:decide ((n.domains[((k:Nat):Int).toNat]'hkl0).irb≥0)=true:=decide_eq_true h4
  rw[if_pos (.inl h4)]at hres
  subst hres
  refine T ?_
  refine C q1 F134 ?_
  refine C q2 F135 ?_
  refine C q3 F129 ?_
  refine Am 4 (C3 emptyN) q_ (.cons .nil (.cons .nil (.cons .nil (.cons .nil (.cons .nil (.cons .nil (.cons .nil (.cons .nil .nil)))))))) ?_
  refine T ?_
  exact D
 have g4:decide ((n.domains[((k:Nat):Int).toNat]'hkl0).irb≥0)=false:=decide_eq_false h4
 cases cl with
 | true =>
  rw[if_pos (.inr rfl)]at hres
  subst hres
  refine T ?_
  refine C q1 F134 ?_
  refine C q2 F135 ?_
  refine C q3 F129 ?_
  refine B1 2 8 (Av n) q_ q_ q_ ?_
  refine B1 3 17 (Ad l) q_ q_ q_ ?_
  refine B1 6 1 (Aa (i:Int)) q_ q_ q_ ?_
  refine C qc F136 ?_
  refine Am 4 (C3 emptyN) q_ (.cons .nil (.cons .nil (.cons .nil (.cons .nil (.cons .nil (.cons .nil (.cons .nil (.cons .nil .nil)))))))) ?_
  refine T ?_
  exact D
 | false =>
  rw[if_neg (fun h=>h.elim h4 qe)]at hres
  subst hres
  have hne:n.domains≠[]:=fun e=>by rw[e]at hkl;cases hkl
  have hfl:n.irbs.length<2147483648:=hn.irbs
  refine T ?_
  refine C q1 F134 ?_
  refine C q2 F135 ?_
  refine C q3 F129 ?_
  refine B1 2 8 (Av n) q_ q_ q_ ?_
  refine B1 3 17 (Ad l) q_ q_ q_ ?_
  refine B1 6 1 (Aa (i:Int)) q_ q_ q_ ?_
  refine C qc F136 ?_
  refine X (Ac [(0,901),(1,902),(2,903),(3,904),(4,905),(5,906),(6,907),(7,908)] q_ F83 qcopy q_ W q_ V) ?_
  refine⟨hne,?_⟩
  refine T ?_
  refine⟨(⟨(n.domains[((k:Nat):Int).toNat]'hkl0).dev,(n.domains[((k:Nat):Int).toNat]'hkl0).vlan,(n.domains[((k:Nat):Int).toNat]'hkl0).vni,(n.irbs.length:Int),(n.domains[((k:Nat):Int).toNat]'hkl0).row,(n.domains[((k:Nat):Int).toNat]'hkl0).peers⟩:Domain),q_,q_,?_⟩
  refine T ?_
  refine X (Aj Γ.toTy 77 q_ q_ q_ q_ q_ (.row q_) (.lit (e:=Cr) (l:=[(⟨l.row,(k:Int),v2,l.addr,l.bits⟩:Irb)]) q_ q_) qd (by simp only[List.length_singleton];omega) (by simp only[List.length_singleton];omega)) ?_
  refine Ai 901 q_ ?_
  refine Ai 902 q_ ?_
  refine Ai 903 q_ ?_
  refine Ai 904 q_ ?_
  refine Ai 905 q_ ?_
  refine Ai 906 q_ ?_
  refine Ai 907 q_ ?_
  refine Ai 77 q_ ?_
  exact D
end Go.Sy.YtdkfcckkkfghgaaGreatDoor
