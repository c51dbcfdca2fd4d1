/-
  Sy23 O1 Y6 O4 J18: parts of a proof, joined by program.
-/
import Derived.Test.YtmelpejjondedaaGreatC3
import Derived.Test.YtmelpejjondedaaGreatC5
import Derived.Test.YtmelpejjondedaaGreatC10
import Derived.Test.YtmelpejjondedaaGreatRows
import Derived.ProofKit
namespace Go.Sy
open Go.ChangeShapes Go.WideShapes Go.ChangeAt Go.RowKit
section
variable {H:Type} (enc:TypeId × Value → H) (P:Program) (W:World)
def Op1 (t:TypeId) {α:Type} (e:α → SV) (p:α → Prop):Prop :=
 ∀ n c y,DataW.trod enc P W 0 (fun _=>true) true n t [c] = some y → ∃ x,p x ∧ Rd κ0 W (e x) c ∧ c.oneCell' = true
def OpN (t:TypeId) {α:Type} (e:α → SV) (p:α → Prop) (sz:Nat):Prop :=
 ∀ n cs y,DataW.trod enc P W 0 (fun _=>true) true n t cs = some y → ∃ x,p x ∧ cs.length = sz ∧ Ones cs ∧ RdL κ0 W (cellsOf (e x)) cs
variable {enc P W}
theorem Ca {t:TypeId} {k:IntKind} (ht:P.underlying t = some (.int k)):Op1 enc P W t (fun z=>.val (.int k z)) (fun z=>(Lit.int k z).wf = true):=fun n c y h=>by
 obtain ⟨z,e,_,hw⟩:=DataW.trod_int ht h
 have e:c = .int k z:=by simpa using e
 subst e
 exact ⟨z,hw,by simp [Rd],E⟩
theorem Agc {t:TypeId} (ht:P.underlying t = some .string):Op1 enc P W t Zj (fun s=>s.size ≤ maxLen):=fun n c y h=>by
 obtain ⟨z,e,_,hw⟩:=DataW.trod_string ht h
 have e:c = .string z:=by simpa using e
 subst e
 exact ⟨z,hw,by simp [Zj,Rd],E⟩
theorem Abd {t:TypeId} {k:IntKind} (ht:P.underlying t = some (.int k)):OpN enc P W t (fun z=>.val (.int k z)) (fun z=>(Lit.int k z).wf = true) 1:=fun n cs y h=>by
 obtain ⟨z,rfl,_,hw⟩:=DataW.trod_int ht h
 refine ⟨z,hw,E,fun c hc=>by simp at hc; subst hc; rfl,?_⟩
 simp [cellsOf,RdL,Rd]
theorem Amp {t:TypeId} (ht:P.underlying t = some .bool):OpN enc P W t Ad (fun _=>True) 1:=fun n cs y h=>by
 obtain ⟨z,rfl,_⟩:=DataW.trod_bool ht h
 refine ⟨z,Y,E,fun c hc=>by simp at hc; subst hc; rfl,?_⟩
 simp [Ad,cellsOf,RdL,Rd]
theorem Aai {base:Nat} {a:Addr} {n:Nat} {cs:List Value} (h:W.cells? base a n = some cs):cs.length = n ∧ ∀ j (_:j < n),W.cell? (a.add j) = cs[j]?:=by
 unfold World.cells? at h
 split at h
 ·refine ⟨by simpa using mapM_some_length h,fun j hj=>?_⟩
  exact mapM_some_get h j j (by simp [hj])
 ·cases h
theorem Dq {t et:TypeId} {α:Type} {e:α → SV} {p:α → Prop} {sz:Nat} (ht:P.underlying t = some (.slice et)) (hsz:P.cellsOf et = sz) (h0:0 < sz) (hb:∀ x,(e x).boxed = true) (hd:∀ x,(e x).data = true) (hO:OpN enc P W et e p sz) :
  Op1 enc P W t (fun l:List α=>.sl sz e l) (fun l=>(∀ x ∈ l,p x) ∧ l.length ≤ maxLen):=fun n c y h=>by
 rcases DataW.trod_slice ht h with ⟨hcs,_⟩ | ⟨a,len,cap,elems,rest,m,rfl,hcs,_,_,hlc,hcm,hel,hget,_⟩
 ·have hc:c = .slice none 0 0:=by simpa using hcs
  subst hc
  refine ⟨[],⟨by simp,Nat.zero_le _⟩,?_,E⟩
  simp only [Rd,RdD]
  exact .inl ⟨Y,none,0,E⟩
 ·have hc:c = .slice (some a) len cap:=by simpa using hcs
  subst hc
  rw [hsz] at hget
  have hall:∀ i:Fin len,∃ x,p x ∧ ∃ cs,W.cells? 0 (a.add (i * sz)) sz = some cs ∧ cs.length = sz ∧ Ones cs ∧ RdL κ0 W (cellsOf (e x)) cs:=fun i=>by
   have h1:=hget i.1 i.2
   rw [List.getElem?_eq_getElem (by omega)] at h1
   obtain ⟨cs,h2,h3⟩:=Option.bind_eq_some_iff.1 h1
   obtain ⟨x,h4,h5,h6,h7⟩:=hO _ _ _ h3
   exact ⟨x,h4,cs,h2,h5,h6,h7⟩
  let xs:Fin len → α:=fun i=>Classical.choose (hall i)
  have hxs:∀ i,p (xs i) ∧ ∃ cs,W.cells? 0 (a.add (i.1 * sz)) sz = some cs ∧ cs.length = sz ∧ Ones cs ∧ RdL κ0 W (cellsOf (e (xs i))) cs:=fun i=>Classical.choose_spec (hall i)
  refine ⟨List.ofFn xs,⟨fun x hx=>?_,by simp; omega⟩,?_,E⟩
  ·obtain ⟨i,rfl⟩:=List.mem_ofFn.1 hx
   exact (hxs i).1
  ·simp only [Rd,RdD]
   by_cases hl:len = 0
   ·subst hl
    exact .inl ⟨by simp,_,_,E⟩
   ·have hcell:∀ i:Fin len,∀ j,j < sz → ∃ v,W.cell? ((a.add (i.1 * sz)).add j) = some v:=fun i j hj=>by
     obtain ⟨_,cs,h1,h2,_⟩:=hxs i
     have:=(Aai h1).2 j hj
     rw [List.getElem?_eq_getElem (by omega)] at this
     exact ⟨_,this⟩
    obtain ⟨b,off,spot⟩:=a
    have hspot:spot = none:=by
     obtain ⟨v,hv⟩:=hcell ⟨0,by omega⟩ 0 h0
     simpa [Addr.add] using World.cell?_spot hv
    subst hspot
    have hadd:∀ i j,((⟨b,off,none⟩:Addr).add i).add j = ⟨b,off + i + j,none⟩:=fun i j=>by rw [Addr.add_lit,Addr.add_lit]
    refine .inr ⟨b,off,cap,by simp,by simpa using hlc,?_,?_,fun i hi=>?_⟩
    ·rintro (⟨k,hk⟩ | hk)
     ·cases hk
     ·exact hk
    ·obtain ⟨v,hv⟩:=hcell ⟨0,by omega⟩ 0 h0
     rw [hadd] at hv
     rcases Nat.lt_or_ge b W.heap.size with h | h
     ·exact h
     ·simp [World.cell?,Array.getElem?_eq_none h] at hv
    ·simp only [List.length_ofFn] at hi
     obtain ⟨_,cs,h1,h2,h3,h4⟩:=hxs ⟨i,hi⟩
     obtain ⟨u,g1,g2⟩:=Rd.of_cells (hb _) h3 h4
     refine ⟨u,?_,?_,by rw [g2]; exact h3,fun j hj=>?_⟩
     ·rw [List.getElem_ofFn]
      exact Rd.data _ _ (hd _) g1
     ·have:u.cells.toList.length = sz:=by rw [g2,h2]
      simpa using this
     ·have:=(Aai h1).2 j hj
      rw [hadd] at this
      rw [this,← g2]
      simp
end
end Go.Sy
namespace Go.Sy.YtmelpejjondedaaGreat
open Go.Proofs Go.ChangeShapes Go.WideShapes Go.ChangeAt Go.RowKit
set_option maxRecDepth 100000
section
variable {H:Type} {enc:TypeId × Value → H} {W:World}
def wI (k:IntKind) (z:Int):Prop:=(Lit.int k z).wf = true
theorem Wd:Op1 enc Tryz.prog W 65 (fun l:List Int=>.sl 1 (fun z=>.val (.int .i64 z)) l) (fun l=>(∀ z ∈ l,wI .i64 z) ∧ l.length ≤ maxLen) :=
 Dq Tryz.underlying65 (by kernel_rfl:Tryz.prog.cellsOf 3 = 1) (by decide) (fun _=>rfl) (fun _=>rfl) (Abd Tryz.underlying3)
theorem Ao0:Op1 enc Tryz.prog W 84 (fun l:List Int=>.sl 1 (fun z=>.val (.int .u32 z)) l) (fun l=>(∀ z ∈ l,wI .u32 z) ∧ l.length ≤ maxLen) :=
 Dq Tryz.underlying84 (by kernel_rfl:Tryz.prog.cellsOf 90 = 1) (by decide) (fun _=>rfl) (fun _=>rfl) (Abd Tryz.underlying90)
def Device.In (x:Device):Prop:=wI .i64 x.row ∧ wI .i64 x.prio ∧ x.name.size ≤ maxLen ∧ wI .u64 x.mac ∧ wI .u32 x.vtep
theorem Agf:OpN enc Tryz.prog W 92 Br Device.In 5:=fun n cs y h=>by
 obtain ⟨xs,m,_,_,hlen,hx,hg⟩:=DataW.trod_struct Tryz.underlying92 h
 have hlen:cs.length = 5:=hlen.trans (by kernel_rfl:Tryz.prog.cellsOf 92 = 5)
 have hx:xs.length = 5:=hx
 match cs,hlen with
 | [c0,c1,c2,c3,c4],_ =>
  have g0:DataW.trod enc Tryz.prog W 0 (fun _=>true) true m 3 (([c0,c1,c2,c3,c4].drop 0).take (Tryz.prog.cellsOf 3)) = xs[0]?:=hg 0 _ rfl
  rw [(by kernel_rfl:Tryz.prog.cellsOf 3 = 1),List.getElem?_eq_getElem (by omega)] at g0
  obtain ⟨z0,p0,r0,o0⟩:=Ca Tryz.underlying3 _ _ _ g0
  have g1:DataW.trod enc Tryz.prog W 0 (fun _=>true) true m 3 (([c0,c1,c2,c3,c4].drop 1).take (Tryz.prog.cellsOf 3)) = xs[1]?:=hg 1 _ rfl
  rw [(by kernel_rfl:Tryz.prog.cellsOf 3 = 1),List.getElem?_eq_getElem (by omega)] at g1
  obtain ⟨z1,p1,r1,o1⟩:=Ca Tryz.underlying3 _ _ _ g1
  have g2:DataW.trod enc Tryz.prog W 0 (fun _=>true) true m 9 (([c0,c1,c2,c3,c4].drop 2).take (Tryz.prog.cellsOf 9)) = xs[2]?:=hg 2 _ rfl
  rw [(by kernel_rfl:Tryz.prog.cellsOf 9 = 1),List.getElem?_eq_getElem (by omega)] at g2
  obtain ⟨z2,p2,r2,o2⟩:=Agc Tryz.underlying9 _ _ _ g2
  have g3:DataW.trod enc Tryz.prog W 0 (fun _=>true) true m 89 (([c0,c1,c2,c3,c4].drop 3).take (Tryz.prog.cellsOf 89)) = xs[3]?:=hg 3 _ rfl
  rw [(by kernel_rfl:Tryz.prog.cellsOf 89 = 1),List.getElem?_eq_getElem (by omega)] at g3
  obtain ⟨z3,p3,r3,o3⟩:=Ca Tryz.underlying89 _ _ _ g3
  have g4:DataW.trod enc Tryz.prog W 0 (fun _=>true) true m 90 (([c0,c1,c2,c3,c4].drop 4).take (Tryz.prog.cellsOf 90)) = xs[4]?:=hg 4 _ rfl
  rw [(by kernel_rfl:Tryz.prog.cellsOf 90 = 1),List.getElem?_eq_getElem (by omega)] at g4
  obtain ⟨z4,p4,r4,o4⟩:=Ca Tryz.underlying90 _ _ _ g4
  refine ⟨⟨z0,z1,z2,z3,z4⟩,⟨p0,p1,p2,p3,p4⟩,E,fun c hc=>?_,?_⟩
  ·simp only [List.mem_cons,List.not_mem_nil,or_false] at hc
   rcases hc with rfl | rfl | rfl | rfl | rfl <;> assumption
  ·simp only [Br,cellsOf,RdL]
   exact ⟨_,_,E,r0,_,_,E,r1,_,_,E,r2,_,_,E,r3,_,_,E,r4,E⟩
def Port.In (x:Port):Prop:=wI .i64 x.row ∧ wI .i64 x.dev ∧ wI .i64 x.native ∧ wI .i64 x.cost ∧ wI .i64 x.link ∧ x.name.size ≤ maxLen ∧ ((∀ z ∈ x.tagged,wI .i64 z) ∧ x.tagged.length ≤ maxLen)
theorem Amq:OpN enc Tryz.prog W 81 Bi Port.In 7:=fun n cs y h=>by
 obtain ⟨xs,m,_,_,hlen,hx,hg⟩:=DataW.trod_struct Tryz.underlying81 h
 have hlen:cs.length = 7:=hlen.trans (by kernel_rfl:Tryz.prog.cellsOf 81 = 7)
 have hx:xs.length = 7:=hx
 match cs,hlen with
 | [c0,c1,c2,c3,c4,c5,c6],_ =>
  have g0:DataW.trod enc Tryz.prog W 0 (fun _=>true) true m 3 (([c0,c1,c2,c3,c4,c5,c6].drop 0).take (Tryz.prog.cellsOf 3)) = xs[0]?:=hg 0 _ rfl
  rw [(by kernel_rfl:Tryz.prog.cellsOf 3 = 1),List.getElem?_eq_getElem (by omega)] at g0
  obtain ⟨z0,p0,r0,o0⟩:=Ca Tryz.underlying3 _ _ _ g0
  have g1:DataW.trod enc Tryz.prog W 0 (fun _=>true) true m 3 (([c0,c1,c2,c3,c4,c5,c6].drop 1).take (Tryz.prog.cellsOf 3)) = xs[1]?:=hg 1 _ rfl
  rw [(by kernel_rfl:Tryz.prog.cellsOf 3 = 1),List.getElem?_eq_getElem (by omega)] at g1
  obtain ⟨z1,p1,r1,o1⟩:=Ca Tryz.underlying3 _ _ _ g1
  have g2:DataW.trod enc Tryz.prog W 0 (fun _=>true) true m 3 (([c0,c1,c2,c3,c4,c5,c6].drop 2).take (Tryz.prog.cellsOf 3)) = xs[2]?:=hg 2 _ rfl
  rw [(by kernel_rfl:Tryz.prog.cellsOf 3 = 1),List.getElem?_eq_getElem (by omega)] at g2
  obtain ⟨z2,p2,r2,o2⟩:=Ca Tryz.underlying3 _ _ _ g2
  have g3:DataW.trod enc Tryz.prog W 0 (fun _=>true) true m 3 (([c0,c1,c2,c3,c4,c5,c6].drop 3).take (Tryz.prog.cellsOf 3)) = xs[3]?:=hg 3 _ rfl
  rw [(by kernel_rfl:Tryz.prog.cellsOf 3 = 1),List.getElem?_eq_getElem (by omega)] at g3
  obtain ⟨z3,p3,r3,o3⟩:=Ca Tryz.underlying3 _ _ _ g3
  have g4:DataW.trod enc Tryz.prog W 0 (fun _=>true) true m 3 (([c0,c1,c2,c3,c4,c5,c6].drop 4).take (Tryz.prog.cellsOf 3)) = xs[4]?:=hg 4 _ rfl
  rw [(by kernel_rfl:Tryz.prog.cellsOf 3 = 1),List.getElem?_eq_getElem (by omega)] at g4
  obtain ⟨z4,p4,r4,o4⟩:=Ca Tryz.underlying3 _ _ _ g4
  have g5:DataW.trod enc Tryz.prog W 0 (fun _=>true) true m 9 (([c0,c1,c2,c3,c4,c5,c6].drop 5).take (Tryz.prog.cellsOf 9)) = xs[5]?:=hg 5 _ rfl
  rw [(by kernel_rfl:Tryz.prog.cellsOf 9 = 1),List.getElem?_eq_getElem (by omega)] at g5
  obtain ⟨z5,p5,r5,o5⟩:=Agc Tryz.underlying9 _ _ _ g5
  have g6:DataW.trod enc Tryz.prog W 0 (fun _=>true) true m 65 (([c0,c1,c2,c3,c4,c5,c6].drop 6).take (Tryz.prog.cellsOf 65)) = xs[6]?:=hg 6 _ rfl
  rw [(by kernel_rfl:Tryz.prog.cellsOf 65 = 1),List.getElem?_eq_getElem (by omega)] at g6
  obtain ⟨z6,p6,r6,o6⟩:=Wd _ _ _ g6
  refine ⟨⟨z0,z1,z2,z3,z4,z5,z6⟩,⟨p0,p1,p2,p3,p4,p5,p6⟩,E,fun c hc=>?_,?_⟩
  ·simp only [List.mem_cons,List.not_mem_nil,or_false] at hc
   rcases hc with rfl | rfl | rfl | rfl | rfl | rfl | rfl <;> assumption
  ·simp only [Bi,cellsOf,RdL]
   exact ⟨_,_,E,r0,_,_,E,r1,_,_,E,r2,_,_,E,r3,_,_,E,r4,_,_,E,r5,_,_,E,r6,E⟩
def Link.In (x:Link):Prop:=wI .i64 x.row ∧ wI .i64 x.a ∧ wI .i64 x.b
theorem Amr:OpN enc Tryz.prog W 167 Co Link.In 3:=fun n cs y h=>by
 obtain ⟨xs,m,_,_,hlen,hx,hg⟩:=DataW.trod_struct Tryz.underlying167 h
 have hlen:cs.length = 3:=hlen.trans (by kernel_rfl:Tryz.prog.cellsOf 167 = 3)
 have hx:xs.length = 3:=hx
 match cs,hlen with
 | [c0,c1,c2],_ =>
  have g0:DataW.trod enc Tryz.prog W 0 (fun _=>true) true m 3 (([c0,c1,c2].drop 0).take (Tryz.prog.cellsOf 3)) = xs[0]?:=hg 0 _ rfl
  rw [(by kernel_rfl:Tryz.prog.cellsOf 3 = 1),List.getElem?_eq_getElem (by omega)] at g0
  obtain ⟨z0,p0,r0,o0⟩:=Ca Tryz.underlying3 _ _ _ g0
  have g1:DataW.trod enc Tryz.prog W 0 (fun _=>true) true m 3 (([c0,c1,c2].drop 1).take (Tryz.prog.cellsOf 3)) = xs[1]?:=hg 1 _ rfl
  rw [(by kernel_rfl:Tryz.prog.cellsOf 3 = 1),List.getElem?_eq_getElem (by omega)] at g1
  obtain ⟨z1,p1,r1,o1⟩:=Ca Tryz.underlying3 _ _ _ g1
  have g2:DataW.trod enc Tryz.prog W 0 (fun _=>true) true m 3 (([c0,c1,c2].drop 2).take (Tryz.prog.cellsOf 3)) = xs[2]?:=hg 2 _ rfl
  rw [(by kernel_rfl:Tryz.prog.cellsOf 3 = 1),List.getElem?_eq_getElem (by omega)] at g2
  obtain ⟨z2,p2,r2,o2⟩:=Ca Tryz.underlying3 _ _ _ g2
  refine ⟨⟨z0,z1,z2⟩,⟨p0,p1,p2⟩,E,fun c hc=>?_,?_⟩
  ·simp only [List.mem_cons,List.not_mem_nil,or_false] at hc
   rcases hc with rfl | rfl | rfl <;> assumption
  ·simp only [Co,cellsOf,RdL]
   exact ⟨_,_,E,r0,_,_,E,r1,_,_,E,r2,E⟩
def Domain.In (x:Domain):Prop:=wI .i64 x.dev ∧ wI .i64 x.vlan ∧ wI .i64 x.vni ∧ wI .i64 x.irb ∧ wI .i64 x.row ∧ ((∀ z ∈ x.peers,wI .i64 z) ∧ x.peers.length ≤ maxLen)
theorem Age:OpN enc Tryz.prog W 83 Ay Domain.In 6:=fun n cs y h=>by
 obtain ⟨xs,m,_,_,hlen,hx,hg⟩:=DataW.trod_struct Tryz.underlying83 h
 have hlen:cs.length = 6:=hlen.trans (by kernel_rfl:Tryz.prog.cellsOf 83 = 6)
 have hx:xs.length = 6:=hx
 match cs,hlen with
 | [c0,c1,c2,c3,c4,c5],_ =>
  have g0:DataW.trod enc Tryz.prog W 0 (fun _=>true) true m 3 (([c0,c1,c2,c3,c4,c5].drop 0).take (Tryz.prog.cellsOf 3)) = xs[0]?:=hg 0 _ rfl
  rw [(by kernel_rfl:Tryz.prog.cellsOf 3 = 1),List.getElem?_eq_getElem (by omega)] at g0
  obtain ⟨z0,p0,r0,o0⟩:=Ca Tryz.underlying3 _ _ _ g0
  have g1:DataW.trod enc Tryz.prog W 0 (fun _=>true) true m 3 (([c0,c1,c2,c3,c4,c5].drop 1).take (Tryz.prog.cellsOf 3)) = xs[1]?:=hg 1 _ rfl
  rw [(by kernel_rfl:Tryz.prog.cellsOf 3 = 1),List.getElem?_eq_getElem (by omega)] at g1
  obtain ⟨z1,p1,r1,o1⟩:=Ca Tryz.underlying3 _ _ _ g1
  have g2:DataW.trod enc Tryz.prog W 0 (fun _=>true) true m 3 (([c0,c1,c2,c3,c4,c5].drop 2).take (Tryz.prog.cellsOf 3)) = xs[2]?:=hg 2 _ rfl
  rw [(by kernel_rfl:Tryz.prog.cellsOf 3 = 1),List.getElem?_eq_getElem (by omega)] at g2
  obtain ⟨z2,p2,r2,o2⟩:=Ca Tryz.underlying3 _ _ _ g2
  have g3:DataW.trod enc Tryz.prog W 0 (fun _=>true) true m 3 (([c0,c1,c2,c3,c4,c5].drop 3).take (Tryz.prog.cellsOf 3)) = xs[3]?:=hg 3 _ rfl
  rw [(by kernel_rfl:Tryz.prog.cellsOf 3 = 1),List.getElem?_eq_getElem (by omega)] at g3
  obtain ⟨z3,p3,r3,o3⟩:=Ca Tryz.underlying3 _ _ _ g3
  have g4:DataW.trod enc Tryz.prog W 0 (fun _=>true) true m 3 (([c0,c1,c2,c3,c4,c5].drop 4).take (Tryz.prog.cellsOf 3)) = xs[4]?:=hg 4 _ rfl
  rw [(by kernel_rfl:Tryz.prog.cellsOf 3 = 1),List.getElem?_eq_getElem (by omega)] at g4
  obtain ⟨z4,p4,r4,o4⟩:=Ca Tryz.underlying3 _ _ _ g4
  have g5:DataW.trod enc Tryz.prog W 0 (fun _=>true) true m 65 (([c0,c1,c2,c3,c4,c5].drop 5).take (Tryz.prog.cellsOf 65)) = xs[5]?:=hg 5 _ rfl
  rw [(by kernel_rfl:Tryz.prog.cellsOf 65 = 1),List.getElem?_eq_getElem (by omega)] at g5
  obtain ⟨z5,p5,r5,o5⟩:=Wd _ _ _ g5
  refine ⟨⟨z0,z1,z2,z3,z4,z5⟩,⟨p0,p1,p2,p3,p4,p5⟩,E,fun c hc=>?_,?_⟩
  ·simp only [List.mem_cons,List.not_mem_nil,or_false] at hc
   rcases hc with rfl | rfl | rfl | rfl | rfl | rfl <;> assumption
  ·simp only [Ay,cellsOf,RdL]
   exact ⟨_,_,E,r0,_,_,E,r1,_,_,E,r2,_,_,E,r3,_,_,E,r4,_,_,E,r5,E⟩
def Static.In (x:Static):Prop:=wI .i64 x.row ∧ wI .i64 x.domain ∧ wI .i64 x.port ∧ wI .u64 x.mac
theorem Agd:OpN enc Tryz.prog W 196 Bp Static.In 4:=fun n cs y h=>by
 obtain ⟨xs,m,_,_,hlen,hx,hg⟩:=DataW.trod_struct Tryz.underlying196 h
 have hlen:cs.length = 4:=hlen.trans (by kernel_rfl:Tryz.prog.cellsOf 196 = 4)
 have hx:xs.length = 4:=hx
 match cs,hlen with
 | [c0,c1,c2,c3],_ =>
  have g0:DataW.trod enc Tryz.prog W 0 (fun _=>true) true m 3 (([c0,c1,c2,c3].drop 0).take (Tryz.prog.cellsOf 3)) = xs[0]?:=hg 0 _ rfl
  rw [(by kernel_rfl:Tryz.prog.cellsOf 3 = 1),List.getElem?_eq_getElem (by omega)] at g0
  obtain ⟨z0,p0,r0,o0⟩:=Ca Tryz.underlying3 _ _ _ g0
  have g1:DataW.trod enc Tryz.prog W 0 (fun _=>true) true m 3 (([c0,c1,c2,c3].drop 1).take (Tryz.prog.cellsOf 3)) = xs[1]?:=hg 1 _ rfl
  rw [(by kernel_rfl:Tryz.prog.cellsOf 3 = 1),List.getElem?_eq_getElem (by omega)] at g1
  obtain ⟨z1,p1,r1,o1⟩:=Ca Tryz.underlying3 _ _ _ g1
  have g2:DataW.trod enc Tryz.prog W 0 (fun _=>true) true m 3 (([c0,c1,c2,c3].drop 2).take (Tryz.prog.cellsOf 3)) = xs[2]?:=hg 2 _ rfl
  rw [(by kernel_rfl:Tryz.prog.cellsOf 3 = 1),List.getElem?_eq_getElem (by omega)] at g2
  obtain ⟨z2,p2,r2,o2⟩:=Ca Tryz.underlying3 _ _ _ g2
  have g3:DataW.trod enc Tryz.prog W 0 (fun _=>true) true m 89 (([c0,c1,c2,c3].drop 3).take (Tryz.prog.cellsOf 89)) = xs[3]?:=hg 3 _ rfl
  rw [(by kernel_rfl:Tryz.prog.cellsOf 89 = 1),List.getElem?_eq_getElem (by omega)] at g3
  obtain ⟨z3,p3,r3,o3⟩:=Ca Tryz.underlying89 _ _ _ g3
  refine ⟨⟨z0,z1,z2,z3⟩,⟨p0,p1,p2,p3⟩,E,fun c hc=>?_,?_⟩
  ·simp only [List.mem_cons,List.not_mem_nil,or_false] at hc
   rcases hc with rfl | rfl | rfl | rfl <;> assumption
  ·simp only [Bp,cellsOf,RdL]
   exact ⟨_,_,E,r0,_,_,E,r1,_,_,E,r2,_,_,E,r3,E⟩
def Flood.In (x:Flood):Prop:=wI .i64 x.row ∧ wI .i64 x.dev ∧ wI .i64 x.vni ∧ ((∀ z ∈ x.addrs,wI .u32 z) ∧ x.addrs.length ≤ maxLen)
theorem Aj6:OpN enc Tryz.prog W 86 B5 Flood.In 4:=fun n cs y h=>by
 obtain ⟨xs,m,_,_,hlen,hx,hg⟩:=DataW.trod_struct Tryz.underlying86 h
 have hlen:cs.length = 4:=hlen.trans (by kernel_rfl:Tryz.prog.cellsOf 86 = 4)
 have hx:xs.length = 4:=hx
 match cs,hlen with
 | [c0,c1,c2,c3],_ =>
  have g0:DataW.trod enc Tryz.prog W 0 (fun _=>true) true m 3 (([c0,c1,c2,c3].drop 0).take (Tryz.prog.cellsOf 3)) = xs[0]?:=hg 0 _ rfl
  rw [(by kernel_rfl:Tryz.prog.cellsOf 3 = 1),List.getElem?_eq_getElem (by omega)] at g0
  obtain ⟨z0,p0,r0,o0⟩:=Ca Tryz.underlying3 _ _ _ g0
  have g1:DataW.trod enc Tryz.prog W 0 (fun _=>true) true m 3 (([c0,c1,c2,c3].drop 1).take (Tryz.prog.cellsOf 3)) = xs[1]?:=hg 1 _ rfl
  rw [(by kernel_rfl:Tryz.prog.cellsOf 3 = 1),List.getElem?_eq_getElem (by omega)] at g1
  obtain ⟨z1,p1,r1,o1⟩:=Ca Tryz.underlying3 _ _ _ g1
  have g2:DataW.trod enc Tryz.prog W 0 (fun _=>true) true m 3 (([c0,c1,c2,c3].drop 2).take (Tryz.prog.cellsOf 3)) = xs[2]?:=hg 2 _ rfl
  rw [(by kernel_rfl:Tryz.prog.cellsOf 3 = 1),List.getElem?_eq_getElem (by omega)] at g2
  obtain ⟨z2,p2,r2,o2⟩:=Ca Tryz.underlying3 _ _ _ g2
  have g3:DataW.trod enc Tryz.prog W 0 (fun _=>true) true m 84 (([c0,c1,c2,c3].drop 3).take (Tryz.prog.cellsOf 84)) = xs[3]?:=hg 3 _ rfl
  rw [(by kernel_rfl:Tryz.prog.cellsOf 84 = 1),List.getElem?_eq_getElem (by omega)] at g3
  obtain ⟨z3,p3,r3,o3⟩:=Ao0 _ _ _ g3
  refine ⟨⟨z0,z1,z2,z3⟩,⟨p0,p1,p2,p3⟩,E,fun c hc=>?_,?_⟩
  ·simp only [List.mem_cons,List.not_mem_nil,or_false] at hc
   rcases hc with rfl | rfl | rfl | rfl <;> assumption
  ·simp only [B5,cellsOf,RdL]
   exact ⟨_,_,E,r0,_,_,E,r1,_,_,E,r2,_,_,E,r3,E⟩
def Vrf.In (x:Vrf):Prop:=wI .i64 x.row ∧ wI .i64 x.dev ∧ x.name.size ≤ maxLen ∧ ((∀ z ∈ x.imports,wI .i64 z) ∧ x.imports.length ≤ maxLen) ∧ ((∀ z ∈ x.exports,wI .i64 z) ∧ x.exports.length ≤ maxLen)
theorem Ao2:OpN enc Tryz.prog W 88 Cy Vrf.In 5:=fun n cs y h=>by
 obtain ⟨xs,m,_,_,hlen,hx,hg⟩:=DataW.trod_struct Tryz.underlying88 h
 have hlen:cs.length = 5:=hlen.trans (by kernel_rfl:Tryz.prog.cellsOf 88 = 5)
 have hx:xs.length = 5:=hx
 match cs,hlen with
 | [c0,c1,c2,c3,c4],_ =>
  have g0:DataW.trod enc Tryz.prog W 0 (fun _=>true) true m 3 (([c0,c1,c2,c3,c4].drop 0).take (Tryz.prog.cellsOf 3)) = xs[0]?:=hg 0 _ rfl
  rw [(by kernel_rfl:Tryz.prog.cellsOf 3 = 1),List.getElem?_eq_getElem (by omega)] at g0
  obtain ⟨z0,p0,r0,o0⟩:=Ca Tryz.underlying3 _ _ _ g0
  have g1:DataW.trod enc Tryz.prog W 0 (fun _=>true) true m 3 (([c0,c1,c2,c3,c4].drop 1).take (Tryz.prog.cellsOf 3)) = xs[1]?:=hg 1 _ rfl
  rw [(by kernel_rfl:Tryz.prog.cellsOf 3 = 1),List.getElem?_eq_getElem (by omega)] at g1
  obtain ⟨z1,p1,r1,o1⟩:=Ca Tryz.underlying3 _ _ _ g1
  have g2:DataW.trod enc Tryz.prog W 0 (fun _=>true) true m 9 (([c0,c1,c2,c3,c4].drop 2).take (Tryz.prog.cellsOf 9)) = xs[2]?:=hg 2 _ rfl
  rw [(by kernel_rfl:Tryz.prog.cellsOf 9 = 1),List.getElem?_eq_getElem (by omega)] at g2
  obtain ⟨z2,p2,r2,o2⟩:=Agc Tryz.underlying9 _ _ _ g2
  have g3:DataW.trod enc Tryz.prog W 0 (fun _=>true) true m 65 (([c0,c1,c2,c3,c4].drop 3).take (Tryz.prog.cellsOf 65)) = xs[3]?:=hg 3 _ rfl
  rw [(by kernel_rfl:Tryz.prog.cellsOf 65 = 1),List.getElem?_eq_getElem (by omega)] at g3
  obtain ⟨z3,p3,r3,o3⟩:=Wd _ _ _ g3
  have g4:DataW.trod enc Tryz.prog W 0 (fun _=>true) true m 65 (([c0,c1,c2,c3,c4].drop 4).take (Tryz.prog.cellsOf 65)) = xs[4]?:=hg 4 _ rfl
  rw [(by kernel_rfl:Tryz.prog.cellsOf 65 = 1),List.getElem?_eq_getElem (by omega)] at g4
  obtain ⟨z4,p4,r4,o4⟩:=Wd _ _ _ g4
  refine ⟨⟨z0,z1,z2,z3,z4⟩,⟨p0,p1,p2,p3,p4⟩,E,fun c hc=>?_,?_⟩
  ·simp only [List.mem_cons,List.not_mem_nil,or_false] at hc
   rcases hc with rfl | rfl | rfl | rfl | rfl <;> assumption
  ·simp only [Cy,cellsOf,RdL]
   exact ⟨_,_,E,r0,_,_,E,r1,_,_,E,r2,_,_,E,r3,_,_,E,r4,E⟩
def Irb.In (x:Irb):Prop:=wI .i64 x.row ∧ wI .i64 x.domain ∧ wI .i64 x.vrf ∧ wI .u32 x.addr ∧ wI .i64 x.bits
theorem Ao4:OpN enc Tryz.prog W 203 Dl Irb.In 5:=fun n cs y h=>by
 obtain ⟨xs,m,_,_,hlen,hx,hg⟩:=DataW.trod_struct Tryz.underlying203 h
 have hlen:cs.length = 5:=hlen.trans (by kernel_rfl:Tryz.prog.cellsOf 203 = 5)
 have hx:xs.length = 4:=hx
 match cs,hlen with
 | [c0,c1,c2,c3,c4],_ =>
  have g0:DataW.trod enc Tryz.prog W 0 (fun _=>true) true m 3 (([c0,c1,c2,c3,c4].drop 0).take (Tryz.prog.cellsOf 3)) = xs[0]?:=hg 0 _ rfl
  rw [(by kernel_rfl:Tryz.prog.cellsOf 3 = 1),List.getElem?_eq_getElem (by omega)] at g0
  obtain ⟨z0,p0,r0,o0⟩:=Ca Tryz.underlying3 _ _ _ g0
  have g1:DataW.trod enc Tryz.prog W 0 (fun _=>true) true m 3 (([c0,c1,c2,c3,c4].drop 1).take (Tryz.prog.cellsOf 3)) = xs[1]?:=hg 1 _ rfl
  rw [(by kernel_rfl:Tryz.prog.cellsOf 3 = 1),List.getElem?_eq_getElem (by omega)] at g1
  obtain ⟨z1,p1,r1,o1⟩:=Ca Tryz.underlying3 _ _ _ g1
  have g2:DataW.trod enc Tryz.prog W 0 (fun _=>true) true m 3 (([c0,c1,c2,c3,c4].drop 2).take (Tryz.prog.cellsOf 3)) = xs[2]?:=hg 2 _ rfl
  rw [(by kernel_rfl:Tryz.prog.cellsOf 3 = 1),List.getElem?_eq_getElem (by omega)] at g2
  obtain ⟨z2,p2,r2,o2⟩:=Ca Tryz.underlying3 _ _ _ g2
  have g3:DataW.trod enc Tryz.prog W 0 (fun _=>true) true m 201 (([c0,c1,c2,c3,c4].drop 3).take (Tryz.prog.cellsOf 201)) = xs[3]?:=hg 3 _ rfl
  rw [(by kernel_rfl:Tryz.prog.cellsOf 201 = 2),List.getElem?_eq_getElem (by omega)] at g3
  obtain ⟨ys,m',_,_,_,hy,hg'⟩:=DataW.trod_struct Tryz.underlying201 g3
  have hy:ys.length = 2:=hy
  have q0:DataW.trod enc Tryz.prog W 0 (fun _=>true) true m' 90 (([c3,c4].drop 0).take (Tryz.prog.cellsOf 90)) = ys[0]?:=hg' 0 _ rfl
  have q1:DataW.trod enc Tryz.prog W 0 (fun _=>true) true m' 3 (([c3,c4].drop 1).take (Tryz.prog.cellsOf 3)) = ys[1]?:=hg' 1 _ rfl
  rw [(by kernel_rfl:Tryz.prog.cellsOf 90 = 1),List.getElem?_eq_getElem (by omega)] at q0
  rw [(by kernel_rfl:Tryz.prog.cellsOf 3 = 1),List.getElem?_eq_getElem (by omega)] at q1
  obtain ⟨z3,p3,r3,o3⟩:=Ca Tryz.underlying90 _ _ _ q0
  obtain ⟨z4,p4,r4,o4⟩:=Ca Tryz.underlying3 _ _ _ q1
  refine ⟨⟨z0,z1,z2,z3,z4⟩,⟨p0,p1,p2,p3,p4⟩,E,fun c hc=>?_,?_⟩
  ·simp only [List.mem_cons,List.not_mem_nil,or_false] at hc
   rcases hc with rfl | rfl | rfl | rfl | rfl <;> assumption
  ·simp only [Dl,cellsOf,RdL]
   exact ⟨_,_,E,r0,_,_,E,r1,_,_,E,r2,_,_,E,r3,_,_,E,r4,E⟩
structure Net.In (n:Net):Prop where
 devices:(∀ x ∈ n.devices,Device.In x) ∧ n.devices.length ≤ maxLen
 ports:(∀ x ∈ n.ports,Port.In x) ∧ n.ports.length ≤ maxLen
 links:(∀ x ∈ n.links,Link.In x) ∧ n.links.length ≤ maxLen
 domains:(∀ x ∈ n.domains,Domain.In x) ∧ n.domains.length ≤ maxLen
 statics:(∀ x ∈ n.statics,Static.In x) ∧ n.statics.length ≤ maxLen
 floods:(∀ x ∈ n.floods,Flood.In x) ∧ n.floods.length ≤ maxLen
 vrfs:(∀ x ∈ n.vrfs,Vrf.In x) ∧ n.vrfs.length ≤ maxLen
 irbs:(∀ x ∈ n.irbs,Irb.In x) ∧ n.irbs.length ≤ maxLen
theorem Ao3:OpN enc Tryz.prog W 31 Ap Net.In 8:=fun n cs y h=>by
 obtain ⟨xs,m,_,_,hlen,hx,hg⟩:=DataW.trod_struct Tryz.underlying31 h
 have hlen:cs.length = 8:=hlen.trans (by kernel_rfl:Tryz.prog.cellsOf 31 = 8)
 have hx:xs.length = 8:=hx
 match cs,hlen with
 | [c0,c1,c2,c3,c4,c5,c6,c7],_ =>
  have g0:DataW.trod enc Tryz.prog W 0 (fun _=>true) true m 22 (([c0,c1,c2,c3,c4,c5,c6,c7].drop 0).take (Tryz.prog.cellsOf 22)) = xs[0]?:=hg 0 _ rfl
  rw [(by kernel_rfl:Tryz.prog.cellsOf 22 = 1),List.getElem?_eq_getElem (by omega)] at g0
  obtain ⟨z0,p0,r0,o0⟩:=Dq Tryz.underlying22 (by kernel_rfl:Tryz.prog.cellsOf 92 = 5) (by decide) (fun _=>rfl) (fun _=>rfl) Agf _ _ _ g0
  have g1:DataW.trod enc Tryz.prog W 0 (fun _=>true) true m 23 (([c0,c1,c2,c3,c4,c5,c6,c7].drop 1).take (Tryz.prog.cellsOf 23)) = xs[1]?:=hg 1 _ rfl
  rw [(by kernel_rfl:Tryz.prog.cellsOf 23 = 1),List.getElem?_eq_getElem (by omega)] at g1
  obtain ⟨z1,p1,r1,o1⟩:=Dq Tryz.underlying23 (by kernel_rfl:Tryz.prog.cellsOf 81 = 7) (by decide) (fun _=>rfl) (fun _=>rfl) Amq _ _ _ g1
  have g2:DataW.trod enc Tryz.prog W 0 (fun _=>true) true m 24 (([c0,c1,c2,c3,c4,c5,c6,c7].drop 2).take (Tryz.prog.cellsOf 24)) = xs[2]?:=hg 2 _ rfl
  rw [(by kernel_rfl:Tryz.prog.cellsOf 24 = 1),List.getElem?_eq_getElem (by omega)] at g2
  obtain ⟨z2,p2,r2,o2⟩:=Dq Tryz.underlying24 (by kernel_rfl:Tryz.prog.cellsOf 167 = 3) (by decide) (fun _=>rfl) (fun _=>rfl) Amr _ _ _ g2
  have g3:DataW.trod enc Tryz.prog W 0 (fun _=>true) true m 25 (([c0,c1,c2,c3,c4,c5,c6,c7].drop 3).take (Tryz.prog.cellsOf 25)) = xs[3]?:=hg 3 _ rfl
  rw [(by kernel_rfl:Tryz.prog.cellsOf 25 = 1),List.getElem?_eq_getElem (by omega)] at g3
  obtain ⟨z3,p3,r3,o3⟩:=Dq Tryz.underlying25 (by kernel_rfl:Tryz.prog.cellsOf 83 = 6) (by decide) (fun _=>rfl) (fun _=>rfl) Age _ _ _ g3
  have g4:DataW.trod enc Tryz.prog W 0 (fun _=>true) true m 26 (([c0,c1,c2,c3,c4,c5,c6,c7].drop 4).take (Tryz.prog.cellsOf 26)) = xs[4]?:=hg 4 _ rfl
  rw [(by kernel_rfl:Tryz.prog.cellsOf 26 = 1),List.getElem?_eq_getElem (by omega)] at g4
  obtain ⟨z4,p4,r4,o4⟩:=Dq Tryz.underlying26 (by kernel_rfl:Tryz.prog.cellsOf 196 = 4) (by decide) (fun _=>rfl) (fun _=>rfl) Agd _ _ _ g4
  have g5:DataW.trod enc Tryz.prog W 0 (fun _=>true) true m 27 (([c0,c1,c2,c3,c4,c5,c6,c7].drop 5).take (Tryz.prog.cellsOf 27)) = xs[5]?:=hg 5 _ rfl
  rw [(by kernel_rfl:Tryz.prog.cellsOf 27 = 1),List.getElem?_eq_getElem (by omega)] at g5
  obtain ⟨z5,p5,r5,o5⟩:=Dq Tryz.underlying27 (by kernel_rfl:Tryz.prog.cellsOf 86 = 4) (by decide) (fun _=>rfl) (fun _=>rfl) Aj6 _ _ _ g5
  have g6:DataW.trod enc Tryz.prog W 0 (fun _=>true) true m 28 (([c0,c1,c2,c3,c4,c5,c6,c7].drop 6).take (Tryz.prog.cellsOf 28)) = xs[6]?:=hg 6 _ rfl
  rw [(by kernel_rfl:Tryz.prog.cellsOf 28 = 1),List.getElem?_eq_getElem (by omega)] at g6
  obtain ⟨z6,p6,r6,o6⟩:=Dq Tryz.underlying28 (by kernel_rfl:Tryz.prog.cellsOf 88 = 5) (by decide) (fun _=>rfl) (fun _=>rfl) Ao2 _ _ _ g6
  have g7:DataW.trod enc Tryz.prog W 0 (fun _=>true) true m 29 (([c0,c1,c2,c3,c4,c5,c6,c7].drop 7).take (Tryz.prog.cellsOf 29)) = xs[7]?:=hg 7 _ rfl
  rw [(by kernel_rfl:Tryz.prog.cellsOf 29 = 1),List.getElem?_eq_getElem (by omega)] at g7
  obtain ⟨z7,p7,r7,o7⟩:=Dq Tryz.underlying29 (by kernel_rfl:Tryz.prog.cellsOf 203 = 5) (by decide) (fun _=>rfl) (fun _=>rfl) Ao4 _ _ _ g7
  refine ⟨⟨z0,z1,z2,z3,z4,z5,z6,z7⟩,⟨p0,p1,p2,p3,p4,p5,p6,p7⟩,E,fun c hc=>?_,?_⟩
  ·simp only [List.mem_cons,List.not_mem_nil,or_false] at hc
   rcases hc with rfl | rfl | rfl | rfl | rfl | rfl | rfl | rfl <;> assumption
  ·simp only [Ap,cellsOf,RdL]
   exact ⟨_,_,E,r0,_,_,E,r1,_,_,E,r2,_,_,E,r3,_,_,E,r4,_,_,E,r5,_,_,E,r6,_,_,E,r7,E⟩
theorem Ajx {t:TypeId} {fs:Array Field} {α:Type} {e:α → SV} {p:α → Prop} {sz base:Nat} {v:Value} {d:DataW H} {ps:List MemPlace} (ht:Tryz.prog.underlying t = some (.struct fs)) (hO:OpN enc Tryz.prog W t e p sz) (he:∀ x,e x = .agg (cellsOf (e x)))
  (hval:Value.okWide Tryz.prog W .any base t v) (h1:DataW.Trod enc Tryz.prog W 0 (fun _=>true) true t v d ps):∃ x,p x ∧ Rd κ0 W (e x) v:=by
 obtain ⟨cs,rfl,_⟩:=okWide_struct ht hval
 obtain ⟨fuel,hf⟩:=h1
 obtain ⟨x,h1,_,h2,h3⟩:=hO _ _ _ hf
 refine ⟨x,h1,?_⟩
 rw [he x]
 simp only [Rd]
 exact ⟨cs.toList,by simp,by simpa [Value.cells] using h2,by simpa [Value.cells] using h3⟩
theorem rd_net {base:Nat} {v:Value} {d:DataW H} {ps:List MemPlace} (hval:Value.okWide Tryz.prog W .any base 31 v) (h1:DataW.Trod enc Tryz.prog W 0 (fun _=>true) true 31 v d ps):∃ n:Net,n.In ∧ Rd κ0 W (Ap n) v :=
 Ajx Tryz.underlying31 Ao3 (fun _=>rfl) hval h1
theorem Amc {t et:TypeId} {α:Type} {e:α → SV} {p:List α → Prop} {sz base:Nat} {v:Value} {d:DataW H} {ps:List MemPlace} (ht:Tryz.prog.underlying t = some (.slice et)) (hO:Op1 enc Tryz.prog W t (fun l:List α=>.sl sz e l) p)
  (hval:Value.okWide Tryz.prog W .any base t v) (h1:DataW.Trod enc Tryz.prog W 0 (fun _=>true) true t v d ps):∃ l,p l ∧ Rd κ0 W (.sl sz e l) v:=by
 obtain ⟨a,len,cap,rfl⟩:=okWide_slice ht hval
 obtain ⟨fuel,hf⟩:=h1
 obtain ⟨x,h1,h2,_⟩:=hO _ _ _ hf
 exact ⟨x,h1,h2⟩
end
end Go.Sy.YtmelpejjondedaaGreat
namespace Go.Sy.YtmelpejjondedaaGreat
open Go.Proofs
attribute [local irreducible] Go.Sy.G Go.Sy.DR
set_option maxRecDepth 100000
set_option maxHeartbeats 4000000
theorem Aj9 {n:Net} (h:n.In):n.Num:=by
 refine ⟨fun x hx=>?_,fun x hx=>?_⟩
 ·have:=(h.devices.1 x hx).2.2.2.2
  simp only [wI,Lit.wf,decide_eq_true_eq,Bool.and_eq_true] at this
  exact ⟨this.1,Int.lt_of_le_of_lt this.2 (by decide)⟩
 ·have:=(h.irbs.1 x hx).2.2.2.1
  simp only [wI,Lit.wf,decide_eq_true_eq,Bool.and_eq_true] at this
  exact ⟨this.1,Int.lt_of_le_of_lt this.2 (by decide)⟩
def netW33:Net:=⟨[⟨0,0,⟨#[97]⟩,0,0⟩],[⟨0,0,10,1,-1,⟨#[112]⟩,[]⟩,⟨0,0,10,1,-1,⟨#[113]⟩,[]⟩],[],[⟨0,10,0,-1,0,[]⟩],[],[],[],[]⟩
theorem finW33:netW33.Fin:=by
 constructor <;> first | (unfold Aq; decide) | (intro x hx; unfold Aq; simp only [netW33,List.mem_cons,List.not_mem_nil,or_false] at hx; first | (subst hx; decide) | (rcases hx with rfl | rfl <;> decide) | exact hx.elim)
theorem numW33:netW33.Num:=by
 refine ⟨fun x hx=>?_,fun x hx=>?_⟩
 ·simp only [netW33,List.mem_cons,List.not_mem_nil,or_false] at hx
  subst hx
  decide
 ·cases hx
def Oh:FrameM:=⟨281474976710655,5,0,[]⟩
theorem Aea:FrameOK Oh:=by constructor <;> decide
def bytesW33:List UInt8:=Td Oh
def Ml:List StepM:=[⟨1,0,0,0,bytesW33,[]⟩,⟨2,0,0,0,[],[]⟩]
theorem runW33:runT netW33 Ml = ([⟨1,1,bytesW33⟩],0):=by kernel_rfl
theorem Ajb:ScriptOK Ml:=by
 refine ⟨by decide,fun x hx=>?_⟩
 simp only [Ml,List.mem_cons,List.not_mem_nil,or_false] at hx
 rcases hx with rfl | rfl
 ·show bytesW33.length ≤ 2000
  decide +kernel
 ·decide
theorem Mi:Sy.Spec Tryz.prog 12 [] [] (Ad true) []:=Ab Γ hm 100 F12 Tryz.ntmps12 rfl fun F hF=>by
 have q1:=Lg Oh Aea
 rw [show Td Oh = bytesW33 from rfl] at q1
 have q2:=Ahy netW33 finW33 numW33 Ml Ajb
 rw [runW33] at q2
 have hst:Ml = [⟨1,0,0,0,bytesW33,[]⟩,⟨2,0,0,0,[],[]⟩]:=rfl
 rw [hst] at q2
 clear hst
 generalize bytesW33 = bs at *
 have q3:=Aja ⟨0,0,0,0,[],[]⟩
 conv=>whnf
 refine D9 9 Br netW33.devices E E ?_
 refine As 9 E ?_
 refine Ow 12 (netW33.ports.map Bi) E (.cons (.agg (.cons (.refl _) (.cons (.refl _) (.cons (.refl _) (.cons (.refl _) (.cons (.refl _) (.cons (.refl _) (.cons .nil .nil)))))))) (.cons (.agg (.cons (.refl _) (.cons (.refl _) (.cons (.refl _) (.cons (.refl _) (.cons (.refl _) (.cons (.refl _) (.cons .nil .nil)))))))) .nil)) E ?_
 refine D9 12 Bi netW33.ports E E ?_
 refine As 12 E ?_
 refine Ow 14 (netW33.domains.map Ay) E (.cons (.agg (.cons (.refl _) (.cons (.refl _) (.cons (.refl _) (.cons (.refl _) (.cons (.refl _) (.cons .nil .nil))))))) .nil) E ?_
 refine D9 14 Ay netW33.domains E E ?_
 refine As 14 E ?_
 refine Au 1 (Aka netW33) E (.cons (.refl _) (.cons (.refl _) (.cons .nil (.cons (.refl _) (.cons .nil (.cons .nil (.cons .nil (.cons .nil .nil)))))))) ?_
 refine rg ?_;conv=>whnf
 refine G_vw 17 (Bg Oh) (.agg (.cons (.refl _) (.cons (.refl _) (.cons (.refl _) (.cons .nil .nil))))) ?_
 refine Ai (Ak [(0,55)] E F33 q1 E Y E ⟨.inr E,Y⟩) E E ?_
 refine As 55 E ?_
 refine rg ?_;conv=>whnf
 refine Ow 26 [Dp ⟨1,0,0,0,bs,[]⟩,Dp ⟨2,0,0,0,[],[]⟩] E (.cons (.agg (.cons (.refl _) (.cons (.refl _) (.cons (.refl _) (.cons (.refl _) (.cons (.refl _) (.cons .nil .nil))))))) (.cons (.agg (.cons (.refl _) (.cons (.refl _) (.cons (.refl _) (.cons (.refl _) (.cons .nil (.cons .nil .nil))))))) .nil)) E ?_
 refine D9 26 Dp [⟨1,0,0,0,bs,[]⟩,⟨2,0,0,0,[],[]⟩] E E ?_
 refine As 26 E ?_
 refine Ag q2 F13 E E E E E ?_
 refine rg ?_;conv=>whnf
 refine G_vw 31 (Dp ⟨0,0,0,0,[],[]⟩) (.agg (.cons (.refl _) (.cons (.refl _) (.cons (.refl _) (.cons (.refl _) (.cons .nil (.cons .nil .nil))))))) ?_
 refine Ag q3 F21 E E E E E ?_
 (refine rg ?_;(conv=>whnf);refine aT ?_;refine rd (by kernel_rfl) ?_;(conv=>whnf);refine aT ?_;refine rd (by kernel_rfl) ?_;conv=>whnf)
 refine ⟨E,by decide,Nat.zero_lt_one,?_⟩
 ((conv=>whnf);refine aT ?_;refine rd (by kernel_rfl) ?_;conv=>whnf)
 refine ⟨E,by decide,Nat.zero_lt_one,?_⟩
 ((conv=>whnf);refine aT ?_;refine rd (by kernel_rfl) ?_;conv=>whnf)
 refine ⟨E,by decide,Nat.zero_lt_one,?_⟩
 conv=>whnf
 refine Bj (Dh Γ.toTy (bs:=bs) E E E E E E E .sl) (by kernel_rfl) E ?_
 refine rd (by kernel_rfl) ?_;conv=>whnf
 refine Bj (Dh Γ.toTy (bs:=bs) E E E E E E E .sl) (by kernel_rfl) E ?_
 refine rd (by kernel_rfl) ?_;conv=>whnf
 refine ⟨fun _=>?_,fun h=>False.elim (by simp [Om] at h)⟩
 refine rd (by kernel_rfl) ?_;conv=>whnf
 refine ⟨(by kernel_rfl),?_⟩
 conv=>whnf
 exact Ac E (.cons .tmp .nil) E E
theorem Alw (n:Net) (hin:n.In) (l:List StepM):Sy.Spec Tryz.prog 3 [Ap n,.sl 6 Dp l] [] (Ad true) []:=Ab Γ hm 100 F3 Tryz.ntmps3 rfl fun F hF=>by
 have hm1:=Aj9 hin
 conv=>whnf
 refine Ag (greatS n) F10 E E E E E ?_
 refine rg ?_;conv=>whnf
 refine ⟨fun hg=>?_,fun hg=>?_⟩
 ·(refine rg ?_;(conv=>whnf);refine aT ?_;refine rg ?_;conv=>whnf)
  (skip)
  refine Ag Mi F12 E E E E E ?_
  refine rg ?_;conv=>whnf
  exact Ac E (.cons .tmp .nil) E E
 have hn:=Abu hg
 refine rg ?_;conv=>whnf
 refine Ag (Ane l) F11 E E E E E ?_
 refine rg ?_;conv=>whnf
 refine ⟨fun hg=>?_,fun hg=>?_⟩
 ·refine rg ?_;conv=>whnf
  refine Ag Mi F12 E E E E E ?_
  refine rg ?_;conv=>whnf
  exact Ac E (.cons .tmp .nil) E E
 have hf:=Y4 hg
 have hsc:ScriptOK l:=⟨hf.1,fun x hx=>(hf.2 x hx).1⟩
 refine rg ?_;conv=>whnf
 have q1:=Ahy n hn hm1 l hsc
 have hrun:=runT.eq_1 n l
 generalize runT n l = rr at *
 cases hok:okB n (Aam n)
 ·rw [if_neg (by rw [hok]; simp)] at hrun
  subst hrun
  have q2:=Ahg n hn hok
  refine Ag q1 F13 E E E E E ?_
  refine rg ?_;conv=>whnf
  refine Ag q2 F14 E E E E E ?_
  refine rg ?_;conv=>whnf
  refine Am 9 3 A8 E ?_
  refine Av 0 (fun _=>[(1,.sl 6 Dp l),(5,.sl 3 A8 []),(6,Aa 2),(8,Aa 2),(9,.sl 3 A8 []),(10,Aa 0)]) (fun _=>[]) [] ⟨⟨E,E,E,E,E,E,E,E,E,E,E,E,Y⟩,Y,E,E⟩ ?_
  intro j hj
  refine rg ?_;conv=>whnf
  refine ⟨fun h=>?_,fun h=>?_⟩
  ·(refine rg ?_;(conv=>whnf);refine aF ?_;refine rg ?_;conv=>whnf)
   refine Ag (Q7 [] (by decide)) F16 E E E E E ?_
   (refine rg ?_;(conv=>whnf);refine aT ?_;refine rg ?_;(conv=>whnf);refine aT ?_;refine rg ?_;conv=>whnf)
   refine Ag (Ww [] (by decide)) F17 E E E E E ?_
   (refine rg ?_;(conv=>whnf);refine aT ?_;refine rg ?_;conv=>whnf)
   refine Ag Mi F12 E E E E E ?_
   refine rg ?_;conv=>whnf
   exact Ac E (.cons .tmp .nil) E E
  ·(refine rg ?_;(conv=>whnf);refine aF ?_;refine rg ?_;conv=>whnf)
   (skip)
   refine Ag (Q7 [] (by decide)) F16 E E E E E ?_
   (refine rg ?_;(conv=>whnf);refine aT ?_;refine rg ?_;(conv=>whnf);refine aT ?_;refine rg ?_;conv=>whnf)
   refine Ag (Ww [] (by decide)) F17 E E E E E ?_
   (refine rg ?_;(conv=>whnf);refine aT ?_;refine rg ?_;conv=>whnf)
   refine Ag Mi F12 E E E E E ?_
   refine rg ?_;conv=>whnf
   exact Ac E (.cons .tmp .nil) E E
 rw [if_pos hok] at hrun
 subst hrun
 have hrt:=(ok_iff.1 hok).2.1
 have q2:=Apk n hn hok
 have hn0:=Ah9 n
 have hlen:=hsc.few
 have hjl0:=S3 hn l (newT n)
 generalize newT n = m0 at *
 refine Ag q1 F13 E E E E E ?_
 refine rg ?_;conv=>whnf
 refine Ai (Ak [(0,800),(902,802),(903,803)] E F14 q2 E Y E ⟨.inr E,.inr E,.inr E,Y⟩) E E ?_
 refine rg ?_;conv=>whnf
 refine Bs 9 1000 3 A8 E E ?_
 refine Av l.length (fun j=>[(1,.sl 6 Dp l),(5,.sl 3 A8 (Cz n m0 l).2),(6,Aa 0),(7,.ptr 0 0),(8,Aa 0),(9,.osl 1000),(10,Aa j)]) (fun j=>[(0,.box (Ix n (Cz n m0 (l.take j)).1.up (Cz n m0 (l.take j)).1.now (Cz n m0 (l.take j)).1.injected (Cz n m0 (l.take j)).1.drops)),(902,.row 1 J9 (Cz n m0 (l.take j)).1.tables),(903,.row 1 Md (Cz n m0 (l.take j)).1.queues),(1000,.row 3 A8 (Cz n m0 (l.take j)).2)]) [(0,800),(902,802),(903,803)] ⟨⟨E,E,E,E,E,E,E,E,E,E,E,E,E,E,Y⟩,⟨.inl E,E,.inl E,E,.inl E,E,.inl E,E,Y⟩,E,E⟩ ?_
 intro j hj
 refine rg ?_;conv=>whnf
 refine ⟨fun h=>?_,fun h=>?_⟩
 ·have hlt:j < l.length:=by have:=of_decide_eq_true h; omega
  have hj0:((j:Nat):Int).toNat < l.length:=by simpa using hlt
  obtain ⟨x,hoo⟩:∃ x,l[j] = x:=⟨_,rfl⟩
  have e1:l[((j:Nat):Int).toNat]'hj0 = x:=hoo
  have hs:=Zn n m0 l j hlt
  rw [hoo] at hs
  have hxb:=hsc.bytes x (by rw [← hoo]; exact List.getElem_mem hlt)
  have hjo:=Aaw hn hm1 (l.take j) hn0 (Int.le_refl _) (Int.le_refl _)
  have hjl:(l.take j).length = j:=by rw [List.length_take]; omega
  have hjf:=S3 hn (l.take j) m0
  rw [hjl] at hjo hjf
  have q5:=docDoS n hn hm1 hrt (Cz n m0 (l.take j)).1 _ _ hjo (by omega) (by omega) (by omega) x (by omega)
  have hfw:=Aby hn (Cz n m0 (l.take j)).1 x
  clear h
  (refine rg ?_;(conv=>whnf);refine aT ?_;refine rg ?_;conv=>whnf)
  (skip)
  refine ⟨E,by omega,hj0,?_⟩
  rw [e1]
  conv=>whnf
  refine Ai (Ak [] E F15 q5 E ⟨E,E,E,Y⟩ E ⟨.inl E,.inl E,.inl E,Y⟩) E E ?_
  refine rg ?_;conv=>whnf
  refine Ai (Af Γ.toTy 46 E E E E E (.row E) .sl (by simp) (by omega) (by omega)) E E ?_
  refine rg ?_;conv=>whnf
  refine ⟨by unfold I64; omega,?_⟩
  conv=>whnf
  have g1:(Cz n m0 (l.take (j + 1))).1 = (doT n (Cz n m0 (l.take j)).1 x).1:=by rw [hs]
  have g2:(Cz n m0 (l.take (j + 1))).2 = (Cz n m0 (l.take j)).2 ++ (doT n (Cz n m0 (l.take j)).1 x).2:=by rw [hs]
  refine Ar [(1000,46)] hlt ⟨⟨E,E,E,E,E,E,E,E,E,E,E,E,E,E,Y⟩,?_,E,E⟩
  dsimp only
  rw [g1,g2]
  exact ⟨.inl E,E,.inl E,E,.inl E,E,.inl E,E,Y⟩
 ·have hjj:j = l.length:=by have:=of_decide_eq_false h; omega
  subst hjj
  rw [List.take_length]
  clear h
  (refine rg ?_;(conv=>whnf);refine aF ?_;refine rg ?_;conv=>whnf)
  (skip)
  refine As 1000 E ?_
  refine rg ?_;conv=>whnf
  refine Ag (Q7 _ (by omega)) F16 E E E E E ?_
  (refine rg ?_;(conv=>whnf);refine aT ?_;refine rg ?_;(conv=>whnf);refine aT ?_;refine rg ?_;conv=>whnf)
  (skip)
  refine Ag (Ww _ (by omega)) F17 E E E E E ?_
  (refine rg ?_;(conv=>whnf);refine aT ?_;refine rg ?_;conv=>whnf)
  (skip)
  refine Ag Mi F12 E E E E E ?_
  refine rg ?_;conv=>whnf
  exact Ac E (.cons .tmp .nil) E E
end Go.Sy.YtmelpejjondedaaGreat
namespace Go.Sy.YtmelpejjondedaaGreat
open Go.Proofs Go.ChangeShapes Go.WideShapes Go.ChangeAt Go.RowKit
set_option maxRecDepth 100000
section
variable {H:Type} {enc:TypeId × Value → H} {W:World}
theorem Amo {P:Program} {t:TypeId} (ht:P.underlying t = some (.int .u8)):OpN enc P W t Aj (fun _=>True) 1:=fun n cs y h=>by
 obtain ⟨z,h1,h2,h3,h4⟩:=Abd ht n cs y h
 have hz:0 ≤ z ∧ z < 256:=by
  simp only [Lit.wf,Bool.and_eq_true,decide_eq_true_eq] at h1
  have a:=h1.1
  have b:=h1.2
  simp only [IntKind.min,IntKind.max,IntKind.signed,IntKind.bits] at a b
  constructor <;> simp at a b <;> omega
 refine ⟨UInt8.ofNat z.toNat,Y,h2,h3,?_⟩
 have e:Aj (UInt8.ofNat z.toNat) = .val (.int .u8 z):=by
  rw [Aj,UInt8.toNat_ofNat_of_lt' (by show _ < 256; omega),Int.toNat_of_nonneg hz.1]
 rw [e]; exact h4
theorem Aml:Op1 enc Tryz.prog W 44 (fun l:List UInt8=>.sl 1 Aj l) (fun l=>(∀ x ∈ l,True) ∧ l.length ≤ maxLen) :=
 Dq Tryz.underlying44 (by kernel_rfl:Tryz.prog.cellsOf 5 = 1) (by decide) (fun _=>rfl) (fun _=>rfl) (Amo Tryz.underlying5)
theorem Amm:Op1 enc Tryz.prog W 45 (fun l:List Bool=>.sl 1 Ad l) (fun l=>(∀ x ∈ l,True) ∧ l.length ≤ maxLen) :=
 Dq Tryz.underlying45 (by kernel_rfl:Tryz.prog.cellsOf 4 = 1) (by decide) (fun _=>rfl) (fun _=>rfl) (Amp Tryz.underlying4)
def StepM.In (x:StepM):Prop:=wI .i64 x.kind ∧ wI .i64 x.port ∧ wI .i64 x.domain ∧ wI .i64 x.at_ ∧ ((∀ y ∈ x.bytes,True) ∧ x.bytes.length ≤ maxLen) ∧ ((∀ y ∈ x.up,True) ∧ x.up.length ≤ maxLen)
theorem Aj5:OpN enc Tryz.prog W 47 Dp StepM.In 6:=fun n cs y h=>by
 obtain ⟨xs,m,_,_,hlen,hx,hg⟩:=DataW.trod_struct Tryz.underlying47 h
 have hlen:cs.length = 6:=hlen.trans (by kernel_rfl:Tryz.prog.cellsOf 47 = 6)
 have hx:xs.length = 6:=hx
 match cs,hlen with
 | [c0,c1,c2,c3,c4,c5],_ =>
  have g0:DataW.trod enc Tryz.prog W 0 (fun _=>true) true m 3 (([c0,c1,c2,c3,c4,c5].drop 0).take (Tryz.prog.cellsOf 3)) = xs[0]?:=hg 0 _ rfl
  rw [(by kernel_rfl:Tryz.prog.cellsOf 3 = 1),List.getElem?_eq_getElem (by omega)] at g0
  obtain ⟨z0,p0,r0,o0⟩:=Ca Tryz.underlying3 _ _ _ g0
  have g1:DataW.trod enc Tryz.prog W 0 (fun _=>true) true m 3 (([c0,c1,c2,c3,c4,c5].drop 1).take (Tryz.prog.cellsOf 3)) = xs[1]?:=hg 1 _ rfl
  rw [(by kernel_rfl:Tryz.prog.cellsOf 3 = 1),List.getElem?_eq_getElem (by omega)] at g1
  obtain ⟨z1,p1,r1,o1⟩:=Ca Tryz.underlying3 _ _ _ g1
  have g2:DataW.trod enc Tryz.prog W 0 (fun _=>true) true m 3 (([c0,c1,c2,c3,c4,c5].drop 2).take (Tryz.prog.cellsOf 3)) = xs[2]?:=hg 2 _ rfl
  rw [(by kernel_rfl:Tryz.prog.cellsOf 3 = 1),List.getElem?_eq_getElem (by omega)] at g2
  obtain ⟨z2,p2,r2,o2⟩:=Ca Tryz.underlying3 _ _ _ g2
  have g3:DataW.trod enc Tryz.prog W 0 (fun _=>true) true m 3 (([c0,c1,c2,c3,c4,c5].drop 3).take (Tryz.prog.cellsOf 3)) = xs[3]?:=hg 3 _ rfl
  rw [(by kernel_rfl:Tryz.prog.cellsOf 3 = 1),List.getElem?_eq_getElem (by omega)] at g3
  obtain ⟨z3,p3,r3,o3⟩:=Ca Tryz.underlying3 _ _ _ g3
  have g4:DataW.trod enc Tryz.prog W 0 (fun _=>true) true m 44 (([c0,c1,c2,c3,c4,c5].drop 4).take (Tryz.prog.cellsOf 44)) = xs[4]?:=hg 4 _ rfl
  rw [(by kernel_rfl:Tryz.prog.cellsOf 44 = 1),List.getElem?_eq_getElem (by omega)] at g4
  obtain ⟨z4,p4,r4,o4⟩:=Aml _ _ _ g4
  have g5:DataW.trod enc Tryz.prog W 0 (fun _=>true) true m 45 (([c0,c1,c2,c3,c4,c5].drop 5).take (Tryz.prog.cellsOf 45)) = xs[5]?:=hg 5 _ rfl
  rw [(by kernel_rfl:Tryz.prog.cellsOf 45 = 1),List.getElem?_eq_getElem (by omega)] at g5
  obtain ⟨z5,p5,r5,o5⟩:=Amm _ _ _ g5
  refine ⟨⟨z0,z1,z2,z3,z4,z5⟩,⟨p0,p1,p2,p3,p4,p5⟩,E,fun c hc=>?_,?_⟩
  ·simp only [List.mem_cons,List.not_mem_nil,or_false] at hc
   rcases hc with rfl | rfl | rfl | rfl | rfl | rfl <;> assumption
  ·simp only [Dp,cellsOf,RdL]
   exact ⟨_,_,E,r0,_,_,E,r1,_,_,E,r2,_,_,E,r3,_,_,E,r4,_,_,E,r5,E⟩
theorem Amk:Op1 enc Tryz.prog W 32 (fun l:List StepM=>.sl 6 Dp l) (fun l=>(∀ x ∈ l,StepM.In x) ∧ l.length ≤ maxLen) :=
 Dq Tryz.underlying32 (by kernel_rfl:Tryz.prog.cellsOf 47 = 6) (by decide) (fun _=>rfl) (fun _=>rfl) Aj5
def SeenM.In (x:SeenM):Prop:=wI .i64 x.port ∧ wI .i64 x.origin ∧ ((∀ y ∈ x.bytes,True) ∧ x.bytes.length ≤ maxLen)
def EntryM.In (x:EntryM):Prop:=x.mac < 18446744073709551616 ∧ wI .i64 x.where_ ∧ wI .i64 x.seen
end
end Go.Sy.YtmelpejjondedaaGreat
namespace Go.Proofs.YtmelpejjondedaaGreat
open Go.ChangeShapes Go.WideShapes Go.ChangeAt Go.RowKit
set_option maxRecDepth 100000
theorem V4:Tryz.checked.prog.inPlace 3 = Rows.simRunsRow.inPlace:=by kernel_rfl
theorem Q3:Tryz.checked.prog.unfollowed 3 = Rows.simRunsRow.unfollowed:=by kernel_rfl
theorem Uo:Tryz.checked.prog.recurses 3 = Rows.simRunsRow.recurses:=by kernel_rfl
theorem Yo:Tryz.checked.prog.varsNamed 3 = Rows.simRunsRow.named:=by kernel_rfl
theorem Aat:Tryz.checked.prog.liftsFinal = Rows.simRunsRow.lifted:=by kernel_rfl
theorem V3:laidOutB Tryz.checked.prog = true:=by kernel_rfl
theorem Yr:Tryz.checked.prog.mayEnter = true:=by kernel_rfl
theorem Yp:Tryz.checked.prog.stopsHeard = true:=by kernel_rfl
theorem Yq:joinedFacts Tryz.checked.prog 3 Tryz.f3 Rows.simRunsSpec Rows.simRunsRow = true:=by
 unfold joinedFacts
 rw [V4,Q3,Uo,Yo,Aat,V3,Yr,Yp]
 kernel_rfl
end Go.Proofs.YtmelpejjondedaaGreat
