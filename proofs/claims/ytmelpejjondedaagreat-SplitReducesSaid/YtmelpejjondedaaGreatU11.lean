/-
  O1 Y6 Y8 O4 Y9 G1 G2 G3 S0 G4 G5 G6 G7 G8 G9 G10 G11 G14 G15 RS G16 J24: parts of a proof, joined by program.
-/
import Derived.Test.YtmelpejjondedaaGreatU3
import Derived.Test.YtmelpejjondedaaGreatU10
import Derived.Test.YtmelpejjondedaaGreatU5
import Derived.Test.YtmelpejjondedaaGreatU4
import Derived.Test.YtmelpejjondedaaGreatRows
import Derived.ProofKit
namespace Go.Sy.YtmelpejjondedaaGreat
open Go.Proofs Go.ChangeShapes Go.WideShapes Go.ChangeAt Go.RowKit
set_option maxRecDepth 100000
section
variable {H:Type} {enc:TypeId × Value→H} {W:World}
def wI (k:IntKind) (z:Int):Prop:=(Lit.int k z).wf=true
theorem Ui:Op1 enc Tryz.prog W 65 (fun l:List Int=>.sl 1 (fun z=>.val (.int .i64 z)) l) (fun l=>(∀ z∈l,wI .i64 z)∧l.length≤maxLen) :=
 Df Tryz.underlying65 (by kernel_rfl:Tryz.prog.cellsOf 3=1) qz (fun _=>rfl) (fun _=>rfl) (Acy Tryz.underlying3)
theorem Ari:Op1 enc Tryz.prog W 84 (fun l:List Int=>.sl 1 (fun z=>.val (.int .u32 z)) l) (fun l=>(∀ z∈l,wI .u32 z)∧l.length≤maxLen) :=
 Df Tryz.underlying84 (by kernel_rfl:Tryz.prog.cellsOf 90=1) qz (fun _=>rfl) (fun _=>rfl) (Acy Tryz.underlying90)
def Device.In (x:Device):Prop:=wI .i64 x.row∧wI .i64 x.prio∧x.name.size≤maxLen∧wI .u64 x.mac∧wI .u32 x.vtep
theorem Aie:OpN enc Tryz.prog W 92 Bt Device.In 5:=fun n cs y h=>by
 obtain ⟨xs,m,_,_,hlen,hx,hg⟩:=DataW.trod_struct Tryz.underlying92 h
 have hlen:cs.length=5:=hlen.trans (by kernel_rfl:Tryz.prog.cellsOf 92=5)
 have hx:xs.length=5:=hx
 match cs,hlen with
 | [c0,c1,c2,c3,c4],_ =>
  have g0:DataW.trod enc Tryz.prog W 0 (fun _=>true) true m 3 (([c0,c1,c2,c3,c4].drop 0).take (Tryz.prog.cellsOf 3))=xs[0]?:=hg 0 _ rfl
  rw[(by kernel_rfl:Tryz.prog.cellsOf 3=1),List.getElem?_eq_getElem qn]at g0
  obtain ⟨z0,p0,r0,o0⟩:=B7 Tryz.underlying3 _ _ _ g0
  have g1:DataW.trod enc Tryz.prog W 0 (fun _=>true) true m 3 (([c0,c1,c2,c3,c4].drop 1).take (Tryz.prog.cellsOf 3))=xs[1]?:=hg 1 _ rfl
  rw[(by kernel_rfl:Tryz.prog.cellsOf 3=1),List.getElem?_eq_getElem qn]at g1
  obtain ⟨z1,p1,r1,o1⟩:=B7 Tryz.underlying3 _ _ _ g1
  have g2:DataW.trod enc Tryz.prog W 0 (fun _=>true) true m 9 (([c0,c1,c2,c3,c4].drop 2).take (Tryz.prog.cellsOf 9))=xs[2]?:=hg 2 _ rfl
  rw[(by kernel_rfl:Tryz.prog.cellsOf 9=1),List.getElem?_eq_getElem qn]at g2
  obtain ⟨z2,p2,r2,o2⟩:=Ah9 Tryz.underlying9 _ _ _ g2
  have g3:DataW.trod enc Tryz.prog W 0 (fun _=>true) true m 89 (([c0,c1,c2,c3,c4].drop 3).take (Tryz.prog.cellsOf 89))=xs[3]?:=hg 3 _ rfl
  rw[(by kernel_rfl:Tryz.prog.cellsOf 89=1),List.getElem?_eq_getElem qn]at g3
  obtain ⟨z3,p3,r3,o3⟩:=B7 Tryz.underlying89 _ _ _ g3
  have g4:DataW.trod enc Tryz.prog W 0 (fun _=>true) true m 90 (([c0,c1,c2,c3,c4].drop 4).take (Tryz.prog.cellsOf 90))=xs[4]?:=hg 4 _ rfl
  rw[(by kernel_rfl:Tryz.prog.cellsOf 90=1),List.getElem?_eq_getElem qn]at g4
  obtain ⟨z4,p4,r4,o4⟩:=B7 Tryz.underlying90 _ _ _ g4
  refine⟨⟨z0,z1,z2,z3,z4⟩,⟨p0,p1,p2,p3,p4⟩,E,fun c hc=>?_,?_⟩
  ·simp only[List.mem_cons,List.not_mem_nil,or_false]at hc
   rcases hc with rfl | rfl | rfl | rfl | rfl<;>assumption
  ·simp only[Bt,cellsOf,RdL]
   exact⟨_,_,E,r0,_,_,E,r1,_,_,E,r2,_,_,E,r3,_,_,E,r4,E⟩
def Port.In (x:Port):Prop:=wI .i64 x.row∧wI .i64 x.dev∧wI .i64 x.native∧wI .i64 x.cost∧wI .i64 x.link∧x.name.size≤maxLen∧((∀ z∈x.tagged,wI .i64 z)∧x.tagged.length≤maxLen)
theorem Aow:OpN enc Tryz.prog W 81 Bj Port.In 7:=fun n cs y h=>by
 obtain ⟨xs,m,_,_,hlen,hx,hg⟩:=DataW.trod_struct Tryz.underlying81 h
 have hlen:cs.length=7:=hlen.trans (by kernel_rfl:Tryz.prog.cellsOf 81=7)
 have hx:xs.length=7:=hx
 match cs,hlen with
 | [c0,c1,c2,c3,c4,c5,c6],_ =>
  have g0:DataW.trod enc Tryz.prog W 0 (fun _=>true) true m 3 (([c0,c1,c2,c3,c4,c5,c6].drop 0).take (Tryz.prog.cellsOf 3))=xs[0]?:=hg 0 _ rfl
  rw[(by kernel_rfl:Tryz.prog.cellsOf 3=1),List.getElem?_eq_getElem qn]at g0
  obtain ⟨z0,p0,r0,o0⟩:=B7 Tryz.underlying3 _ _ _ g0
  have g1:DataW.trod enc Tryz.prog W 0 (fun _=>true) true m 3 (([c0,c1,c2,c3,c4,c5,c6].drop 1).take (Tryz.prog.cellsOf 3))=xs[1]?:=hg 1 _ rfl
  rw[(by kernel_rfl:Tryz.prog.cellsOf 3=1),List.getElem?_eq_getElem qn]at g1
  obtain ⟨z1,p1,r1,o1⟩:=B7 Tryz.underlying3 _ _ _ g1
  have g2:DataW.trod enc Tryz.prog W 0 (fun _=>true) true m 3 (([c0,c1,c2,c3,c4,c5,c6].drop 2).take (Tryz.prog.cellsOf 3))=xs[2]?:=hg 2 _ rfl
  rw[(by kernel_rfl:Tryz.prog.cellsOf 3=1),List.getElem?_eq_getElem qn]at g2
  obtain ⟨z2,p2,r2,o2⟩:=B7 Tryz.underlying3 _ _ _ g2
  have g3:DataW.trod enc Tryz.prog W 0 (fun _=>true) true m 3 (([c0,c1,c2,c3,c4,c5,c6].drop 3).take (Tryz.prog.cellsOf 3))=xs[3]?:=hg 3 _ rfl
  rw[(by kernel_rfl:Tryz.prog.cellsOf 3=1),List.getElem?_eq_getElem qn]at g3
  obtain ⟨z3,p3,r3,o3⟩:=B7 Tryz.underlying3 _ _ _ g3
  have g4:DataW.trod enc Tryz.prog W 0 (fun _=>true) true m 3 (([c0,c1,c2,c3,c4,c5,c6].drop 4).take (Tryz.prog.cellsOf 3))=xs[4]?:=hg 4 _ rfl
  rw[(by kernel_rfl:Tryz.prog.cellsOf 3=1),List.getElem?_eq_getElem qn]at g4
  obtain ⟨z4,p4,r4,o4⟩:=B7 Tryz.underlying3 _ _ _ g4
  have g5:DataW.trod enc Tryz.prog W 0 (fun _=>true) true m 9 (([c0,c1,c2,c3,c4,c5,c6].drop 5).take (Tryz.prog.cellsOf 9))=xs[5]?:=hg 5 _ rfl
  rw[(by kernel_rfl:Tryz.prog.cellsOf 9=1),List.getElem?_eq_getElem qn]at g5
  obtain ⟨z5,p5,r5,o5⟩:=Ah9 Tryz.underlying9 _ _ _ g5
  have g6:DataW.trod enc Tryz.prog W 0 (fun _=>true) true m 65 (([c0,c1,c2,c3,c4,c5,c6].drop 6).take (Tryz.prog.cellsOf 65))=xs[6]?:=hg 6 _ rfl
  rw[(by kernel_rfl:Tryz.prog.cellsOf 65=1),List.getElem?_eq_getElem qn]at g6
  obtain ⟨z6,p6,r6,o6⟩:=Ui _ _ _ g6
  refine⟨⟨z0,z1,z2,z3,z4,z5,z6⟩,⟨p0,p1,p2,p3,p4,p5,p6⟩,E,fun c hc=>?_,?_⟩
  ·simp only[List.mem_cons,List.not_mem_nil,or_false]at hc
   rcases hc with rfl | rfl | rfl | rfl | rfl | rfl | rfl<;>assumption
  ·simp only[Bj,cellsOf,RdL]
   exact⟨_,_,E,r0,_,_,E,r1,_,_,E,r2,_,_,E,r3,_,_,E,r4,_,_,E,r5,_,_,E,r6,E⟩
def Link.In (x:Link):Prop:=wI .i64 x.row∧wI .i64 x.a∧wI .i64 x.b
theorem Aox:OpN enc Tryz.prog W 167 Cu Link.In 3:=fun n cs y h=>by
 obtain ⟨xs,m,_,_,hlen,hx,hg⟩:=DataW.trod_struct Tryz.underlying167 h
 have hlen:cs.length=3:=hlen.trans (by kernel_rfl:Tryz.prog.cellsOf 167=3)
 have hx:xs.length=3:=hx
 match cs,hlen with
 | [c0,c1,c2],_ =>
  have g0:DataW.trod enc Tryz.prog W 0 (fun _=>true) true m 3 (([c0,c1,c2].drop 0).take (Tryz.prog.cellsOf 3))=xs[0]?:=hg 0 _ rfl
  rw[(by kernel_rfl:Tryz.prog.cellsOf 3=1),List.getElem?_eq_getElem qn]at g0
  obtain ⟨z0,p0,r0,o0⟩:=B7 Tryz.underlying3 _ _ _ g0
  have g1:DataW.trod enc Tryz.prog W 0 (fun _=>true) true m 3 (([c0,c1,c2].drop 1).take (Tryz.prog.cellsOf 3))=xs[1]?:=hg 1 _ rfl
  rw[(by kernel_rfl:Tryz.prog.cellsOf 3=1),List.getElem?_eq_getElem qn]at g1
  obtain ⟨z1,p1,r1,o1⟩:=B7 Tryz.underlying3 _ _ _ g1
  have g2:DataW.trod enc Tryz.prog W 0 (fun _=>true) true m 3 (([c0,c1,c2].drop 2).take (Tryz.prog.cellsOf 3))=xs[2]?:=hg 2 _ rfl
  rw[(by kernel_rfl:Tryz.prog.cellsOf 3=1),List.getElem?_eq_getElem qn]at g2
  obtain ⟨z2,p2,r2,o2⟩:=B7 Tryz.underlying3 _ _ _ g2
  refine⟨⟨z0,z1,z2⟩,⟨p0,p1,p2⟩,E,fun c hc=>?_,?_⟩
  ·simp only[List.mem_cons,List.not_mem_nil,or_false]at hc
   rcases hc with rfl | rfl | rfl<;>assumption
  ·simp only[Cu,cellsOf,RdL]
   exact⟨_,_,E,r0,_,_,E,r1,_,_,E,r2,E⟩
def Domain.In (x:Domain):Prop:=wI .i64 x.dev∧wI .i64 x.vlan∧wI .i64 x.vni∧wI .i64 x.irb∧wI .i64 x.row∧((∀ z∈x.peers,wI .i64 z)∧x.peers.length≤maxLen)
theorem Aid:OpN enc Tryz.prog W 83 A1 Domain.In 6:=fun n cs y h=>by
 obtain ⟨xs,m,_,_,hlen,hx,hg⟩:=DataW.trod_struct Tryz.underlying83 h
 have hlen:cs.length=6:=hlen.trans (by kernel_rfl:Tryz.prog.cellsOf 83=6)
 have hx:xs.length=6:=hx
 match cs,hlen with
 | [c0,c1,c2,c3,c4,c5],_ =>
  have g0:DataW.trod enc Tryz.prog W 0 (fun _=>true) true m 3 (([c0,c1,c2,c3,c4,c5].drop 0).take (Tryz.prog.cellsOf 3))=xs[0]?:=hg 0 _ rfl
  rw[(by kernel_rfl:Tryz.prog.cellsOf 3=1),List.getElem?_eq_getElem qn]at g0
  obtain ⟨z0,p0,r0,o0⟩:=B7 Tryz.underlying3 _ _ _ g0
  have g1:DataW.trod enc Tryz.prog W 0 (fun _=>true) true m 3 (([c0,c1,c2,c3,c4,c5].drop 1).take (Tryz.prog.cellsOf 3))=xs[1]?:=hg 1 _ rfl
  rw[(by kernel_rfl:Tryz.prog.cellsOf 3=1),List.getElem?_eq_getElem qn]at g1
  obtain ⟨z1,p1,r1,o1⟩:=B7 Tryz.underlying3 _ _ _ g1
  have g2:DataW.trod enc Tryz.prog W 0 (fun _=>true) true m 3 (([c0,c1,c2,c3,c4,c5].drop 2).take (Tryz.prog.cellsOf 3))=xs[2]?:=hg 2 _ rfl
  rw[(by kernel_rfl:Tryz.prog.cellsOf 3=1),List.getElem?_eq_getElem qn]at g2
  obtain ⟨z2,p2,r2,o2⟩:=B7 Tryz.underlying3 _ _ _ g2
  have g3:DataW.trod enc Tryz.prog W 0 (fun _=>true) true m 3 (([c0,c1,c2,c3,c4,c5].drop 3).take (Tryz.prog.cellsOf 3))=xs[3]?:=hg 3 _ rfl
  rw[(by kernel_rfl:Tryz.prog.cellsOf 3=1),List.getElem?_eq_getElem qn]at g3
  obtain ⟨z3,p3,r3,o3⟩:=B7 Tryz.underlying3 _ _ _ g3
  have g4:DataW.trod enc Tryz.prog W 0 (fun _=>true) true m 3 (([c0,c1,c2,c3,c4,c5].drop 4).take (Tryz.prog.cellsOf 3))=xs[4]?:=hg 4 _ rfl
  rw[(by kernel_rfl:Tryz.prog.cellsOf 3=1),List.getElem?_eq_getElem qn]at g4
  obtain ⟨z4,p4,r4,o4⟩:=B7 Tryz.underlying3 _ _ _ g4
  have g5:DataW.trod enc Tryz.prog W 0 (fun _=>true) true m 65 (([c0,c1,c2,c3,c4,c5].drop 5).take (Tryz.prog.cellsOf 65))=xs[5]?:=hg 5 _ rfl
  rw[(by kernel_rfl:Tryz.prog.cellsOf 65=1),List.getElem?_eq_getElem qn]at g5
  obtain ⟨z5,p5,r5,o5⟩:=Ui _ _ _ g5
  refine⟨⟨z0,z1,z2,z3,z4,z5⟩,⟨p0,p1,p2,p3,p4,p5⟩,E,fun c hc=>?_,?_⟩
  ·simp only[List.mem_cons,List.not_mem_nil,or_false]at hc
   rcases hc with rfl | rfl | rfl | rfl | rfl | rfl<;>assumption
  ·simp only[A1,cellsOf,RdL]
   exact⟨_,_,E,r0,_,_,E,r1,_,_,E,r2,_,_,E,r3,_,_,E,r4,_,_,E,r5,E⟩
def Static.In (x:Static):Prop:=wI .i64 x.row∧wI .i64 x.domain∧wI .i64 x.port∧wI .u64 x.mac
theorem Aib:OpN enc Tryz.prog W 196 Br Static.In 4:=fun n cs y h=>by
 obtain ⟨xs,m,_,_,hlen,hx,hg⟩:=DataW.trod_struct Tryz.underlying196 h
 have hlen:cs.length=4:=hlen.trans (by kernel_rfl:Tryz.prog.cellsOf 196=4)
 have hx:xs.length=4:=hx
 match cs,hlen with
 | [c0,c1,c2,c3],_ =>
  have g0:DataW.trod enc Tryz.prog W 0 (fun _=>true) true m 3 (([c0,c1,c2,c3].drop 0).take (Tryz.prog.cellsOf 3))=xs[0]?:=hg 0 _ rfl
  rw[(by kernel_rfl:Tryz.prog.cellsOf 3=1),List.getElem?_eq_getElem qn]at g0
  obtain ⟨z0,p0,r0,o0⟩:=B7 Tryz.underlying3 _ _ _ g0
  have g1:DataW.trod enc Tryz.prog W 0 (fun _=>true) true m 3 (([c0,c1,c2,c3].drop 1).take (Tryz.prog.cellsOf 3))=xs[1]?:=hg 1 _ rfl
  rw[(by kernel_rfl:Tryz.prog.cellsOf 3=1),List.getElem?_eq_getElem qn]at g1
  obtain ⟨z1,p1,r1,o1⟩:=B7 Tryz.underlying3 _ _ _ g1
  have g2:DataW.trod enc Tryz.prog W 0 (fun _=>true) true m 3 (([c0,c1,c2,c3].drop 2).take (Tryz.prog.cellsOf 3))=xs[2]?:=hg 2 _ rfl
  rw[(by kernel_rfl:Tryz.prog.cellsOf 3=1),List.getElem?_eq_getElem qn]at g2
  obtain ⟨z2,p2,r2,o2⟩:=B7 Tryz.underlying3 _ _ _ g2
  have g3:DataW.trod enc Tryz.prog W 0 (fun _=>true) true m 89 (([c0,c1,c2,c3].drop 3).take (Tryz.prog.cellsOf 89))=xs[3]?:=hg 3 _ rfl
  rw[(by kernel_rfl:Tryz.prog.cellsOf 89=1),List.getElem?_eq_getElem qn]at g3
  obtain ⟨z3,p3,r3,o3⟩:=B7 Tryz.underlying89 _ _ _ g3
  refine⟨⟨z0,z1,z2,z3⟩,⟨p0,p1,p2,p3⟩,E,fun c hc=>?_,?_⟩
  ·simp only[List.mem_cons,List.not_mem_nil,or_false]at hc
   rcases hc with rfl | rfl | rfl | rfl<;>assumption
  ·simp only[Br,cellsOf,RdL]
   exact⟨_,_,E,r0,_,_,E,r1,_,_,E,r2,_,_,E,r3,E⟩
def Flood.In (x:Flood):Prop:=wI .i64 x.row∧wI .i64 x.dev∧wI .i64 x.vni∧((∀ z∈x.addrs,wI .u32 z)∧x.addrs.length≤maxLen)
theorem Al6:OpN enc Tryz.prog W 86 Ca Flood.In 4:=fun n cs y h=>by
 obtain ⟨xs,m,_,_,hlen,hx,hg⟩:=DataW.trod_struct Tryz.underlying86 h
 have hlen:cs.length=4:=hlen.trans (by kernel_rfl:Tryz.prog.cellsOf 86=4)
 have hx:xs.length=4:=hx
 match cs,hlen with
 | [c0,c1,c2,c3],_ =>
  have g0:DataW.trod enc Tryz.prog W 0 (fun _=>true) true m 3 (([c0,c1,c2,c3].drop 0).take (Tryz.prog.cellsOf 3))=xs[0]?:=hg 0 _ rfl
  rw[(by kernel_rfl:Tryz.prog.cellsOf 3=1),List.getElem?_eq_getElem qn]at g0
  obtain ⟨z0,p0,r0,o0⟩:=B7 Tryz.underlying3 _ _ _ g0
  have g1:DataW.trod enc Tryz.prog W 0 (fun _=>true) true m 3 (([c0,c1,c2,c3].drop 1).take (Tryz.prog.cellsOf 3))=xs[1]?:=hg 1 _ rfl
  rw[(by kernel_rfl:Tryz.prog.cellsOf 3=1),List.getElem?_eq_getElem qn]at g1
  obtain ⟨z1,p1,r1,o1⟩:=B7 Tryz.underlying3 _ _ _ g1
  have g2:DataW.trod enc Tryz.prog W 0 (fun _=>true) true m 3 (([c0,c1,c2,c3].drop 2).take (Tryz.prog.cellsOf 3))=xs[2]?:=hg 2 _ rfl
  rw[(by kernel_rfl:Tryz.prog.cellsOf 3=1),List.getElem?_eq_getElem qn]at g2
  obtain ⟨z2,p2,r2,o2⟩:=B7 Tryz.underlying3 _ _ _ g2
  have g3:DataW.trod enc Tryz.prog W 0 (fun _=>true) true m 84 (([c0,c1,c2,c3].drop 3).take (Tryz.prog.cellsOf 84))=xs[3]?:=hg 3 _ rfl
  rw[(by kernel_rfl:Tryz.prog.cellsOf 84=1),List.getElem?_eq_getElem qn]at g3
  obtain ⟨z3,p3,r3,o3⟩:=Ari _ _ _ g3
  refine⟨⟨z0,z1,z2,z3⟩,⟨p0,p1,p2,p3⟩,E,fun c hc=>?_,?_⟩
  ·simp only[List.mem_cons,List.not_mem_nil,or_false]at hc
   rcases hc with rfl | rfl | rfl | rfl<;>assumption
  ·simp only[Ca,cellsOf,RdL]
   exact⟨_,_,E,r0,_,_,E,r1,_,_,E,r2,_,_,E,r3,E⟩
def Vrf.In (x:Vrf):Prop:=wI .i64 x.row∧wI .i64 x.dev∧x.name.size≤maxLen∧((∀ z∈x.imports,wI .i64 z)∧x.imports.length≤maxLen)∧((∀ z∈x.exports,wI .i64 z)∧x.exports.length≤maxLen)
theorem Ark:OpN enc Tryz.prog W 88 C6 Vrf.In 5:=fun n cs y h=>by
 obtain ⟨xs,m,_,_,hlen,hx,hg⟩:=DataW.trod_struct Tryz.underlying88 h
 have hlen:cs.length=5:=hlen.trans (by kernel_rfl:Tryz.prog.cellsOf 88=5)
 have hx:xs.length=5:=hx
 match cs,hlen with
 | [c0,c1,c2,c3,c4],_ =>
  have g0:DataW.trod enc Tryz.prog W 0 (fun _=>true) true m 3 (([c0,c1,c2,c3,c4].drop 0).take (Tryz.prog.cellsOf 3))=xs[0]?:=hg 0 _ rfl
  rw[(by kernel_rfl:Tryz.prog.cellsOf 3=1),List.getElem?_eq_getElem qn]at g0
  obtain ⟨z0,p0,r0,o0⟩:=B7 Tryz.underlying3 _ _ _ g0
  have g1:DataW.trod enc Tryz.prog W 0 (fun _=>true) true m 3 (([c0,c1,c2,c3,c4].drop 1).take (Tryz.prog.cellsOf 3))=xs[1]?:=hg 1 _ rfl
  rw[(by kernel_rfl:Tryz.prog.cellsOf 3=1),List.getElem?_eq_getElem qn]at g1
  obtain ⟨z1,p1,r1,o1⟩:=B7 Tryz.underlying3 _ _ _ g1
  have g2:DataW.trod enc Tryz.prog W 0 (fun _=>true) true m 9 (([c0,c1,c2,c3,c4].drop 2).take (Tryz.prog.cellsOf 9))=xs[2]?:=hg 2 _ rfl
  rw[(by kernel_rfl:Tryz.prog.cellsOf 9=1),List.getElem?_eq_getElem qn]at g2
  obtain ⟨z2,p2,r2,o2⟩:=Ah9 Tryz.underlying9 _ _ _ g2
  have g3:DataW.trod enc Tryz.prog W 0 (fun _=>true) true m 65 (([c0,c1,c2,c3,c4].drop 3).take (Tryz.prog.cellsOf 65))=xs[3]?:=hg 3 _ rfl
  rw[(by kernel_rfl:Tryz.prog.cellsOf 65=1),List.getElem?_eq_getElem qn]at g3
  obtain ⟨z3,p3,r3,o3⟩:=Ui _ _ _ g3
  have g4:DataW.trod enc Tryz.prog W 0 (fun _=>true) true m 65 (([c0,c1,c2,c3,c4].drop 4).take (Tryz.prog.cellsOf 65))=xs[4]?:=hg 4 _ rfl
  rw[(by kernel_rfl:Tryz.prog.cellsOf 65=1),List.getElem?_eq_getElem qn]at g4
  obtain ⟨z4,p4,r4,o4⟩:=Ui _ _ _ g4
  refine⟨⟨z0,z1,z2,z3,z4⟩,⟨p0,p1,p2,p3,p4⟩,E,fun c hc=>?_,?_⟩
  ·simp only[List.mem_cons,List.not_mem_nil,or_false]at hc
   rcases hc with rfl | rfl | rfl | rfl | rfl<;>assumption
  ·simp only[C6,cellsOf,RdL]
   exact⟨_,_,E,r0,_,_,E,r1,_,_,E,r2,_,_,E,r3,_,_,E,r4,E⟩
def Irb.In (x:Irb):Prop:=wI .i64 x.row∧wI .i64 x.domain∧wI .i64 x.vrf∧wI .u32 x.addr∧wI .i64 x.bits
theorem Arm:OpN enc Tryz.prog W 203 Du Irb.In 5:=fun n cs y h=>by
 obtain ⟨xs,m,_,_,hlen,hx,hg⟩:=DataW.trod_struct Tryz.underlying203 h
 have hlen:cs.length=5:=hlen.trans (by kernel_rfl:Tryz.prog.cellsOf 203=5)
 have hx:xs.length=4:=hx
 match cs,hlen with
 | [c0,c1,c2,c3,c4],_ =>
  have g0:DataW.trod enc Tryz.prog W 0 (fun _=>true) true m 3 (([c0,c1,c2,c3,c4].drop 0).take (Tryz.prog.cellsOf 3))=xs[0]?:=hg 0 _ rfl
  rw[(by kernel_rfl:Tryz.prog.cellsOf 3=1),List.getElem?_eq_getElem qn]at g0
  obtain ⟨z0,p0,r0,o0⟩:=B7 Tryz.underlying3 _ _ _ g0
  have g1:DataW.trod enc Tryz.prog W 0 (fun _=>true) true m 3 (([c0,c1,c2,c3,c4].drop 1).take (Tryz.prog.cellsOf 3))=xs[1]?:=hg 1 _ rfl
  rw[(by kernel_rfl:Tryz.prog.cellsOf 3=1),List.getElem?_eq_getElem qn]at g1
  obtain ⟨z1,p1,r1,o1⟩:=B7 Tryz.underlying3 _ _ _ g1
  have g2:DataW.trod enc Tryz.prog W 0 (fun _=>true) true m 3 (([c0,c1,c2,c3,c4].drop 2).take (Tryz.prog.cellsOf 3))=xs[2]?:=hg 2 _ rfl
  rw[(by kernel_rfl:Tryz.prog.cellsOf 3=1),List.getElem?_eq_getElem qn]at g2
  obtain ⟨z2,p2,r2,o2⟩:=B7 Tryz.underlying3 _ _ _ g2
  have g3:DataW.trod enc Tryz.prog W 0 (fun _=>true) true m 201 (([c0,c1,c2,c3,c4].drop 3).take (Tryz.prog.cellsOf 201))=xs[3]?:=hg 3 _ rfl
  rw[(by kernel_rfl:Tryz.prog.cellsOf 201=2),List.getElem?_eq_getElem qn]at g3
  obtain ⟨ys,m',_,_,_,hy,hg'⟩:=DataW.trod_struct Tryz.underlying201 g3
  have hy:ys.length=2:=hy
  have q0:DataW.trod enc Tryz.prog W 0 (fun _=>true) true m' 90 (([c3,c4].drop 0).take (Tryz.prog.cellsOf 90))=ys[0]?:=hg' 0 _ rfl
  have q1:DataW.trod enc Tryz.prog W 0 (fun _=>true) true m' 3 (([c3,c4].drop 1).take (Tryz.prog.cellsOf 3))=ys[1]?:=hg' 1 _ rfl
  rw[(by kernel_rfl:Tryz.prog.cellsOf 90=1),List.getElem?_eq_getElem qn]at q0
  rw[(by kernel_rfl:Tryz.prog.cellsOf 3=1),List.getElem?_eq_getElem qn]at q1
  obtain ⟨z3,p3,r3,o3⟩:=B7 Tryz.underlying90 _ _ _ q0
  obtain ⟨z4,p4,r4,o4⟩:=B7 Tryz.underlying3 _ _ _ q1
  refine⟨⟨z0,z1,z2,z3,z4⟩,⟨p0,p1,p2,p3,p4⟩,E,fun c hc=>?_,?_⟩
  ·simp only[List.mem_cons,List.not_mem_nil,or_false]at hc
   rcases hc with rfl | rfl | rfl | rfl | rfl<;>assumption
  ·simp only[Du,cellsOf,RdL]
   exact⟨_,_,E,r0,_,_,E,r1,_,_,E,r2,_,_,E,r3,_,_,E,r4,E⟩
structure Net.In (n:Net):Prop where
 devices:(∀ x∈n.devices,Device.In x)∧n.devices.length≤maxLen
 ports:(∀ x∈n.ports,Port.In x)∧n.ports.length≤maxLen
 links:(∀ x∈n.links,Link.In x)∧n.links.length≤maxLen
 domains:(∀ x∈n.domains,Domain.In x)∧n.domains.length≤maxLen
 statics:(∀ x∈n.statics,Static.In x)∧n.statics.length≤maxLen
 floods:(∀ x∈n.floods,Flood.In x)∧n.floods.length≤maxLen
 vrfs:(∀ x∈n.vrfs,Vrf.In x)∧n.vrfs.length≤maxLen
 irbs:(∀ x∈n.irbs,Irb.In x)∧n.irbs.length≤maxLen
theorem Arl:OpN enc Tryz.prog W 31 Ap Net.In 8:=fun n cs y h=>by
 obtain ⟨xs,m,_,_,hlen,hx,hg⟩:=DataW.trod_struct Tryz.underlying31 h
 have hlen:cs.length=8:=hlen.trans (by kernel_rfl:Tryz.prog.cellsOf 31=8)
 have hx:xs.length=8:=hx
 match cs,hlen with
 | [c0,c1,c2,c3,c4,c5,c6,c7],_ =>
  have g0:DataW.trod enc Tryz.prog W 0 (fun _=>true) true m 22 (([c0,c1,c2,c3,c4,c5,c6,c7].drop 0).take (Tryz.prog.cellsOf 22))=xs[0]?:=hg 0 _ rfl
  rw[(by kernel_rfl:Tryz.prog.cellsOf 22=1),List.getElem?_eq_getElem qn]at g0
  obtain ⟨z0,p0,r0,o0⟩:=Df Tryz.underlying22 (by kernel_rfl:Tryz.prog.cellsOf 92=5) qz (fun _=>rfl) (fun _=>rfl) Aie _ _ _ g0
  have g1:DataW.trod enc Tryz.prog W 0 (fun _=>true) true m 23 (([c0,c1,c2,c3,c4,c5,c6,c7].drop 1).take (Tryz.prog.cellsOf 23))=xs[1]?:=hg 1 _ rfl
  rw[(by kernel_rfl:Tryz.prog.cellsOf 23=1),List.getElem?_eq_getElem qn]at g1
  obtain ⟨z1,p1,r1,o1⟩:=Df Tryz.underlying23 (by kernel_rfl:Tryz.prog.cellsOf 81=7) qz (fun _=>rfl) (fun _=>rfl) Aow _ _ _ g1
  have g2:DataW.trod enc Tryz.prog W 0 (fun _=>true) true m 24 (([c0,c1,c2,c3,c4,c5,c6,c7].drop 2).take (Tryz.prog.cellsOf 24))=xs[2]?:=hg 2 _ rfl
  rw[(by kernel_rfl:Tryz.prog.cellsOf 24=1),List.getElem?_eq_getElem qn]at g2
  obtain ⟨z2,p2,r2,o2⟩:=Df Tryz.underlying24 (by kernel_rfl:Tryz.prog.cellsOf 167=3) qz (fun _=>rfl) (fun _=>rfl) Aox _ _ _ g2
  have g3:DataW.trod enc Tryz.prog W 0 (fun _=>true) true m 25 (([c0,c1,c2,c3,c4,c5,c6,c7].drop 3).take (Tryz.prog.cellsOf 25))=xs[3]?:=hg 3 _ rfl
  rw[(by kernel_rfl:Tryz.prog.cellsOf 25=1),List.getElem?_eq_getElem qn]at g3
  obtain ⟨z3,p3,r3,o3⟩:=Df Tryz.underlying25 (by kernel_rfl:Tryz.prog.cellsOf 83=6) qz (fun _=>rfl) (fun _=>rfl) Aid _ _ _ g3
  have g4:DataW.trod enc Tryz.prog W 0 (fun _=>true) true m 26 (([c0,c1,c2,c3,c4,c5,c6,c7].drop 4).take (Tryz.prog.cellsOf 26))=xs[4]?:=hg 4 _ rfl
  rw[(by kernel_rfl:Tryz.prog.cellsOf 26=1),List.getElem?_eq_getElem qn]at g4
  obtain ⟨z4,p4,r4,o4⟩:=Df Tryz.underlying26 (by kernel_rfl:Tryz.prog.cellsOf 196=4) qz (fun _=>rfl) (fun _=>rfl) Aib _ _ _ g4
  have g5:DataW.trod enc Tryz.prog W 0 (fun _=>true) true m 27 (([c0,c1,c2,c3,c4,c5,c6,c7].drop 5).take (Tryz.prog.cellsOf 27))=xs[5]?:=hg 5 _ rfl
  rw[(by kernel_rfl:Tryz.prog.cellsOf 27=1),List.getElem?_eq_getElem qn]at g5
  obtain ⟨z5,p5,r5,o5⟩:=Df Tryz.underlying27 (by kernel_rfl:Tryz.prog.cellsOf 86=4) qz (fun _=>rfl) (fun _=>rfl) Al6 _ _ _ g5
  have g6:DataW.trod enc Tryz.prog W 0 (fun _=>true) true m 28 (([c0,c1,c2,c3,c4,c5,c6,c7].drop 6).take (Tryz.prog.cellsOf 28))=xs[6]?:=hg 6 _ rfl
  rw[(by kernel_rfl:Tryz.prog.cellsOf 28=1),List.getElem?_eq_getElem qn]at g6
  obtain ⟨z6,p6,r6,o6⟩:=Df Tryz.underlying28 (by kernel_rfl:Tryz.prog.cellsOf 88=5) qz (fun _=>rfl) (fun _=>rfl) Ark _ _ _ g6
  have g7:DataW.trod enc Tryz.prog W 0 (fun _=>true) true m 29 (([c0,c1,c2,c3,c4,c5,c6,c7].drop 7).take (Tryz.prog.cellsOf 29))=xs[7]?:=hg 7 _ rfl
  rw[(by kernel_rfl:Tryz.prog.cellsOf 29=1),List.getElem?_eq_getElem qn]at g7
  obtain ⟨z7,p7,r7,o7⟩:=Df Tryz.underlying29 (by kernel_rfl:Tryz.prog.cellsOf 203=5) qz (fun _=>rfl) (fun _=>rfl) Arm _ _ _ g7
  refine⟨⟨z0,z1,z2,z3,z4,z5,z6,z7⟩,⟨p0,p1,p2,p3,p4,p5,p6,p7⟩,E,fun c hc=>?_,?_⟩
  ·simp only[List.mem_cons,List.not_mem_nil,or_false]at hc
   rcases hc with rfl | rfl | rfl | rfl | rfl | rfl | rfl | rfl<;>assumption
  ·simp only[Ap,cellsOf,RdL]
   exact⟨_,_,E,r0,_,_,E,r1,_,_,E,r2,_,_,E,r3,_,_,E,r4,_,_,E,r5,_,_,E,r6,_,_,E,r7,E⟩
theorem Alu {t:TypeId} {fs:Array Field} {α:Type} {e:α→SV} {p:α→Prop} {sz base:Nat} {v:Value} {d:DataW H} {ps:List MemPlace} (ht:Tryz.prog.underlying t=some (.struct fs)) (hO:OpN enc Tryz.prog W t e p sz) (he:∀ x,e x=.agg (cellsOf (e x)))
  (hval:Value.okWide Tryz.prog W .any base t v) (h1:DataW.Trod enc Tryz.prog W 0 (fun _=>true) true t v d ps):∃ x,p x∧Rd κ0 W (e x) v:=by
 obtain ⟨cs,rfl,_⟩:=okWide_struct ht hval
 obtain ⟨fuel,hf⟩:=h1
 obtain ⟨x,h1,_,h2,h3⟩:=hO _ _ _ hf
 refine⟨x,h1,?_⟩
 rw[he x]
 simp only[Rd]
 exact⟨cs.toList,by simp,by simpa [Value.cells] using h2,by simpa [Value.cells] using h3⟩
theorem rd_net {base:Nat} {v:Value} {d:DataW H} {ps:List MemPlace} (hval:Value.okWide Tryz.prog W .any base 31 v) (h1:DataW.Trod enc Tryz.prog W 0 (fun _=>true) true 31 v d ps):∃ n:Net,n.In∧Rd κ0 W (Ap n) v :=
 Alu Tryz.underlying31 Arl (fun _=>rfl) hval h1
theorem Yl {t et:TypeId} {α:Type} {e:α→SV} {p:List α→Prop} {sz base:Nat} {v:Value} {d:DataW H} {ps:List MemPlace} (ht:Tryz.prog.underlying t=some (.slice et)) (hO:Op1 enc Tryz.prog W t (fun l:List α=>.sl sz e l) p)
  (hval:Value.okWide Tryz.prog W .any base t v) (h1:DataW.Trod enc Tryz.prog W 0 (fun _=>true) true t v d ps):∃ l,p l∧Rd κ0 W (.sl sz e l) v:=by
 obtain ⟨a,len,cap,rfl⟩:=okWide_slice ht hval
 obtain ⟨fuel,hf⟩:=h1
 obtain ⟨x,h1,h2,_⟩:=hO _ _ _ hf
 exact⟨x,h1,h2⟩
end
end Go.Sy.YtmelpejjondedaaGreat
namespace Go.Sy.YtmelpejjondedaaGreat
open Go.Proofs
attribute [local irreducible] Go.Sy.G Go.Sy.DR
set_option maxRecDepth 100000
set_option maxHeartbeats 4000000
theorem Al9 {n:Net} (h:n.In):n.Num:=by
 refine⟨fun x hx=>?_,fun x hx=>?_⟩
 ·have:=(h.devices.1 x hx).2.2.2.2
  simp only[wI,Lit.wf,decide_eq_true_eq,Bool.and_eq_true]at this
  exact⟨this.1,Int.lt_of_le_of_lt this.2 qz⟩
 ·have:=(h.irbs.1 x hx).2.2.2.1
  simp only[wI,Lit.wf,decide_eq_true_eq,Bool.and_eq_true]at this
  exact⟨this.1,Int.lt_of_le_of_lt this.2 qz⟩
def netW33:Net:=⟨[⟨0,0,⟨#[97]⟩,0,0⟩],[⟨0,0,10,1,-1,⟨#[112]⟩,[]⟩,⟨0,0,10,1,-1,⟨#[113]⟩,[]⟩],[],[⟨0,10,0,-1,0,[]⟩],[],[],[],[]⟩
theorem Apz:netW33.Fin:=by
 constructor<;>first | (unfold Ar;decide) | (intro x hx;unfold Ar;simp only[netW33,List.mem_cons,List.not_mem_nil,or_false]at hx;first | (subst hx;decide) | (rcases hx with rfl | rfl<;>decide) | exact hx.elim)
theorem Aoy:netW33.Num:=by
 refine⟨fun x hx=>?_,fun x hx=>?_⟩
 ·simp only[netW33,List.mem_cons,List.not_mem_nil,or_false]at hx
  subst hx
  decide
 ·cases hx
end Go.Sy.YtmelpejjondedaaGreat
namespace Go.Sy.YtmelpejjondedaaGreat
open Go.Proofs Go.ChangeShapes Go.WideShapes Go.ChangeAt Go.RowKit
set_option maxRecDepth 100000
section
variable {H:Type} {enc:TypeId × Value→H} {W:World}
theorem Aou {P:Program} {t:TypeId} (ht:P.underlying t=some (.int .u8)):OpN enc P W t Aj (fun _=>True) 1:=fun n cs y h=>by
 obtain ⟨z,h1,h2,h3,h4⟩:=Acy ht n cs y h
 have hz:0≤z∧z<256:=by
  simp only[Lit.wf,Bool.and_eq_true,decide_eq_true_eq]at h1
  have a:=h1.1
  have b:=h1.2
  simp only[IntKind.min,IntKind.max,IntKind.signed,IntKind.bits]at a b
  constructor<;>simp at a b<;>omega
 refine⟨UInt8.ofNat z.toNat,Y,h2,h3,?_⟩
 have e:Aj (UInt8.ofNat z.toNat)=.val (.int .u8 z):=by
  rw[Aj,UInt8.toNat_ofNat_of_lt' (by show _<256;omega),Int.toNat_of_nonneg hz.1]
 rw[e];exact h4
theorem Aor:Op1 enc Tryz.prog W 44 (fun l:List UInt8=>.sl 1 Aj l) (fun l=>(∀ x∈l,True)∧l.length≤maxLen) :=
 Df Tryz.underlying44 (by kernel_rfl:Tryz.prog.cellsOf 5=1) qz (fun _=>rfl) (fun _=>rfl) (Aou Tryz.underlying5)
theorem Aos:Op1 enc Tryz.prog W 45 (fun l:List Bool=>.sl 1 Ad l) (fun l=>(∀ x∈l,True)∧l.length≤maxLen) :=
 Df Tryz.underlying45 (by kernel_rfl:Tryz.prog.cellsOf 4=1) qz (fun _=>rfl) (fun _=>rfl) (Aov Tryz.underlying4)
def StepM.In (x:StepM):Prop:=wI .i64 x.kind∧wI .i64 x.port∧wI .i64 x.domain∧wI .i64 x.at_∧((∀ y∈x.bytes,True)∧x.bytes.length≤maxLen)∧((∀ y∈x.up,True)∧x.up.length≤maxLen)
theorem Al5:OpN enc Tryz.prog W 47 Bu StepM.In 6:=fun n cs y h=>by
 obtain ⟨xs,m,_,_,hlen,hx,hg⟩:=DataW.trod_struct Tryz.underlying47 h
 have hlen:cs.length=6:=hlen.trans (by kernel_rfl:Tryz.prog.cellsOf 47=6)
 have hx:xs.length=6:=hx
 match cs,hlen with
 | [c0,c1,c2,c3,c4,c5],_ =>
  have g0:DataW.trod enc Tryz.prog W 0 (fun _=>true) true m 3 (([c0,c1,c2,c3,c4,c5].drop 0).take (Tryz.prog.cellsOf 3))=xs[0]?:=hg 0 _ rfl
  rw[(by kernel_rfl:Tryz.prog.cellsOf 3=1),List.getElem?_eq_getElem qn]at g0
  obtain ⟨z0,p0,r0,o0⟩:=B7 Tryz.underlying3 _ _ _ g0
  have g1:DataW.trod enc Tryz.prog W 0 (fun _=>true) true m 3 (([c0,c1,c2,c3,c4,c5].drop 1).take (Tryz.prog.cellsOf 3))=xs[1]?:=hg 1 _ rfl
  rw[(by kernel_rfl:Tryz.prog.cellsOf 3=1),List.getElem?_eq_getElem qn]at g1
  obtain ⟨z1,p1,r1,o1⟩:=B7 Tryz.underlying3 _ _ _ g1
  have g2:DataW.trod enc Tryz.prog W 0 (fun _=>true) true m 3 (([c0,c1,c2,c3,c4,c5].drop 2).take (Tryz.prog.cellsOf 3))=xs[2]?:=hg 2 _ rfl
  rw[(by kernel_rfl:Tryz.prog.cellsOf 3=1),List.getElem?_eq_getElem qn]at g2
  obtain ⟨z2,p2,r2,o2⟩:=B7 Tryz.underlying3 _ _ _ g2
  have g3:DataW.trod enc Tryz.prog W 0 (fun _=>true) true m 3 (([c0,c1,c2,c3,c4,c5].drop 3).take (Tryz.prog.cellsOf 3))=xs[3]?:=hg 3 _ rfl
  rw[(by kernel_rfl:Tryz.prog.cellsOf 3=1),List.getElem?_eq_getElem qn]at g3
  obtain ⟨z3,p3,r3,o3⟩:=B7 Tryz.underlying3 _ _ _ g3
  have g4:DataW.trod enc Tryz.prog W 0 (fun _=>true) true m 44 (([c0,c1,c2,c3,c4,c5].drop 4).take (Tryz.prog.cellsOf 44))=xs[4]?:=hg 4 _ rfl
  rw[(by kernel_rfl:Tryz.prog.cellsOf 44=1),List.getElem?_eq_getElem qn]at g4
  obtain ⟨z4,p4,r4,o4⟩:=Aor _ _ _ g4
  have g5:DataW.trod enc Tryz.prog W 0 (fun _=>true) true m 45 (([c0,c1,c2,c3,c4,c5].drop 5).take (Tryz.prog.cellsOf 45))=xs[5]?:=hg 5 _ rfl
  rw[(by kernel_rfl:Tryz.prog.cellsOf 45=1),List.getElem?_eq_getElem qn]at g5
  obtain ⟨z5,p5,r5,o5⟩:=Aos _ _ _ g5
  refine⟨⟨z0,z1,z2,z3,z4,z5⟩,⟨p0,p1,p2,p3,p4,p5⟩,E,fun c hc=>?_,?_⟩
  ·simp only[List.mem_cons,List.not_mem_nil,or_false]at hc
   rcases hc with rfl | rfl | rfl | rfl | rfl | rfl<;>assumption
  ·simp only[Bu,cellsOf,RdL]
   exact⟨_,_,E,r0,_,_,E,r1,_,_,E,r2,_,_,E,r3,_,_,E,r4,_,_,E,r5,E⟩
theorem Aoq:Op1 enc Tryz.prog W 32 (fun l:List StepM=>.sl 6 Bu l) (fun l=>(∀ x∈l,StepM.In x)∧l.length≤maxLen) :=
 Df Tryz.underlying32 (by kernel_rfl:Tryz.prog.cellsOf 47=6) qz (fun _=>rfl) (fun _=>rfl) Al5
def SeenM.In (x:SeenM):Prop:=wI .i64 x.port∧wI .i64 x.origin∧((∀ y∈x.bytes,True)∧x.bytes.length≤maxLen)
theorem op_mac:Op1 enc Tryz.prog W 89 (fun m:Nat=>Az m) (fun m=>m<18446744073709551616):=fun n c y h=>by
 obtain ⟨z,h1,h2,h3⟩:=B7 (k:=.u64) Tryz.underlying89 n c y h
 have hz:0≤z∧z<18446744073709551616:=by
  simp only[Lit.wf,Bool.and_eq_true,decide_eq_true_eq]at h1
  have a:=h1.1
  have b:=h1.2
  simp only[IntKind.min,IntKind.max,IntKind.signed,IntKind.bits]at a b
  constructor<;>simp at a b<;>omega
 refine⟨z.toNat,by omega,?_,h3⟩
 show Rd κ0 W (.val (.int .u64 ((z.toNat:Nat):Int))) c
 rw[show ((z.toNat:Nat):Int)=z by omega]
 exact h2
theorem Aia {t et:TypeId} {α:Type} {e:α→SV} {p:α→Prop} {sz:Nat} (ht:Tryz.prog.underlying t=some (.slice et)) (hO:Op1 enc Tryz.prog W t (fun l:List α=>.sl sz e l) (fun l=>(∀ x∈l,p x)∧l.length≤maxLen)) :
  OpN enc Tryz.prog W t (fun l:List α=>.sl sz e l) (fun l=>(∀ x∈l,p x)∧l.length≤maxLen) 1:=fun n cs y h=>by
 have h1:∃ c,cs=[c]:=by
  rcases DataW.trod_slice ht h with ⟨hcs,_⟩ | ⟨a,len,cap,elems,rest,m,_,hcs,_⟩
  ·exact⟨_,hcs⟩
  ·exact⟨_,hcs⟩
 obtain ⟨c,rfl⟩:=h1
 obtain ⟨x,h2,h3,h4⟩:=hO n c y h
 refine⟨x,h2,E,fun c' hc=>by simp only[List.mem_singleton]at hc;subst hc;exact h4,?_⟩
 simp only[cellsOf,RdL]
 exact⟨_,_,E,h3,E⟩
def EntryM.In (x:EntryM):Prop:=x.mac<18446744073709551616∧wI .i64 x.where_∧wI .i64 x.seen
theorem Aic:OpN enc Tryz.prog W 137 Am EntryM.In 3:=fun n cs y h=>by
 obtain ⟨xs,m,_,_,hlen,hx,hg⟩:=DataW.trod_struct Tryz.underlying137 h
 have hlen:cs.length=3:=hlen.trans (by kernel_rfl:Tryz.prog.cellsOf 137=3)
 have hx:xs.length=3:=hx
 match cs,hlen with
 | [c0,c1,c2],_ =>
  have g0:DataW.trod enc Tryz.prog W 0 (fun _=>true) true m 89 (([c0,c1,c2].drop 0).take (Tryz.prog.cellsOf 89))=xs[0]?:=hg 0 _ rfl
  rw[(by kernel_rfl:Tryz.prog.cellsOf 89=1),List.getElem?_eq_getElem qn]at g0
  obtain ⟨z0,p0,r0,o0⟩:=op_mac _ _ _ g0
  have g1:DataW.trod enc Tryz.prog W 0 (fun _=>true) true m 3 (([c0,c1,c2].drop 1).take (Tryz.prog.cellsOf 3))=xs[1]?:=hg 1 _ rfl
  rw[(by kernel_rfl:Tryz.prog.cellsOf 3=1),List.getElem?_eq_getElem qn]at g1
  obtain ⟨z1,p1,r1,o1⟩:=B7 Tryz.underlying3 _ _ _ g1
  have g2:DataW.trod enc Tryz.prog W 0 (fun _=>true) true m 3 (([c0,c1,c2].drop 2).take (Tryz.prog.cellsOf 3))=xs[2]?:=hg 2 _ rfl
  rw[(by kernel_rfl:Tryz.prog.cellsOf 3=1),List.getElem?_eq_getElem qn]at g2
  obtain ⟨z2,p2,r2,o2⟩:=B7 Tryz.underlying3 _ _ _ g2
  refine⟨⟨z0,z1,z2⟩,⟨p0,p1,p2⟩,E,fun c hc=>?_,?_⟩
  ·simp only[List.mem_cons,List.not_mem_nil,or_false]at hc
   rcases hc with rfl | rfl | rfl<;>assumption
  ·simp only[Am,cellsOf,RdL]
   exact⟨_,_,E,r0,_,_,E,r1,_,_,E,r2,E⟩
theorem Al4:Op1 enc Tryz.prog W 51 (fun l:List (List EntryM)=>.sl 1 (fun t=>.sl 3 Am t) l) (fun l=>(∀ x∈l,(∀ e∈x,EntryM.In e)∧x.length≤maxLen)∧l.length≤maxLen) :=
 Df Tryz.underlying51 (by kernel_rfl:Tryz.prog.cellsOf 55=1) qz (fun _=>rfl) (fun _=>rfl) (Aia Tryz.underlying55 (Df Tryz.underlying55 (by kernel_rfl:Tryz.prog.cellsOf 137=3) qz (fun _=>rfl) (fun _=>rfl) Aic))
end
end Go.Sy.YtmelpejjondedaaGreat
namespace Go.Sy.YtmelpejjondedaaGreat
open Go.Proofs
def Ow (m:MacM) (i:Nat) (t:List EntryM):MacM:=if 60<t.length then m else (loadT m i t).1
def Dg (m0:MacM) (l:List (List EntryM)):Nat→MacM
 | 0=>m0
 | j+1=>Ow (Dg m0 l j) j ((l[j]?).getD [])
def Ajr (l:List (List EntryM)):Prop:=∀ t∈l,(∀ e∈t,EntryM.In e)∧t.length≤maxLen
theorem Xx {t:List EntryM} (h:∀ e∈t,EntryM.In e) (hl:t.length≤60):TabOK t:=by
 refine⟨by unfold Ar;omega,fun e he=>(h e he).1,fun e he=>?_⟩
 have:=(h e he).2.1
 simp only[wI,Lit.wf,Bool.and_eq_true,decide_eq_true_eq,IntKind.max_i64]at this
 have e2:IntKind.min .i64=-9223372036854775808:=by decide
 rw[e2]at this
 unfold I64
 omega
theorem Afp {n:Net} {m:MacM} {J D:Int} (h:MacOK n m J D) (i:Nat) {t:List EntryM} (ht:∀ e∈t,EntryM.In e):MacOK n (Ow m i t) J D:=by
 unfold Ow
 split
 ·exact h
 ·rename_i hl
  unfold loadT
  split
  ·exact Acf h _ (Xx ht qn)
  ·exact h
theorem Jc {n:Net} {m:MacM} {J D:Int} (h:MacOK n m J D) {l:List (List EntryM)} (hl:Ajr l):∀ j,MacOK n (Dg m l j) J D
 | 0=>h
 | j+1=>by
  rw[Dg]
  refine Afp (Jc h hl j) j ?_
  by_cases hj:j<l.length
  ·rw[List.getElem?_eq_getElem hj]
   exact(hl _ (List.getElem_mem hj)).1
  ·rw[List.getElem?_eq_none qn]
   intro e he
   cases he
attribute [local irreducible] Go.Sy.G Go.Sy.DR
set_option maxRecDepth 100000
set_option maxHeartbeats 4000000
end Go.Sy.YtmelpejjondedaaGreat
namespace Go.Sy.YtmelpejjondedaaGreat
open Go.Proofs
def Cs (n:Net) (tabs:List (List EntryM)):MacM:=Dg (newT n) tabs tabs.length
def runTabsT (n:Net) (tabs:List (List EntryM)) (l:List StepM):List SeenM × Int:=if okB n (M7 n)=true then ((B0 n (Cs n tabs) l).2,0) else ([],2)
def ownerI (of:List Int) (port:Int):Int:=if Al port of.length=true then nth of port else -1
def noteL (of by_:List Int) (port:Int):List Int:=if 0≤ownerI of port then by_++[ownerI of port] else by_
def ownB (by_:List Int) (tenant origin:Int):Bool:=Al (origin-1) by_.length && decide (nth by_ (origin-1)=tenant)
def Hw (l:List QueuedM) (by_:List Int) (tenant at_:Int):Int:=((l.take at_.toNat).countP fun q=>ownB by_ tenant q.origin:Nat)
def Kc (m:MacM) (dom:Int):List QueuedM:=if Al dom m.queues.length=true then queueL m dom else []
def Aqh (x:StepM) (at_:Int):StepM:=⟨x.kind,x.port,x.domain,at_,x.bytes,x.up⟩
def keepT (of by_:List Int) (tenant:Int) (m:MacM) (x:StepM):StepM × Bool :=
 if x.kind=1 then (x,decide (ownerI of x.port=tenant) && decide (0≤tenant))
 else if x.kind=2∨x.kind=3 then
  (if Al x.at_ (Kc m x.domain).length && ownB by_ tenant (((Kc m x.domain)[x.at_.toNat]?).getD noQ).origin then (Aqh x (Hw (Kc m x.domain) by_ tenant x.at_),true) else (x,false))
 else (x,true)
def keepL (of by_:List Int) (tenant:Int) (m:MacM) (x:StepM):List StepM:=if (keepT of by_ tenant m x).2=true then [(keepT of by_ tenant m x).1] else []
def byStep (of by_:List Int) (x:StepM):List Int:=if x.kind=1 then noteL of by_ x.port else by_
def byL (of:List Int):List Int→List StepM→List Int
 | by_,[]=>by_
 | by_,x::l=>byL of (byStep of by_ x) l
def Kr (n:Net) (of:List Int) (tenant:Int):MacM→List Int→List StepM→List StepM
 | _,_,[]=>[]
 | m,by_,x::l=>keepL of by_ tenant m x++Kr n of tenant (doT n m x).1 (byStep of by_ x) l
def Ic (n:Net) (of:List Int):Bool :=
 decide (of.length=n.ports.length) && Ag n && (List.range of.length).all fun i=>if (nth n.ports (i:Int)).link<0 then decide (0≤nth of (i:Int)) && decide (nth of (i:Int)≤9) else decide (nth of (i:Int)=-1)
def reduceT (n:Net) (of:List Int) (tabs:List (List EntryM)) (l:List StepM) (tenant:Int):List StepM × Int :=
 if okB n (M7 n)=true∧Ic n of=true then (Kr n of tenant (Cs n tabs) [] l,0) else ([],2)
def V7 (l:List SeenM) (of:List Int) (tenant:Int):List SeenM:=(l.filter fun x=>Al x.port of.length && decide (nth of x.port=tenant)).map fun x=>⟨x.port,0,x.bytes⟩
theorem Zv (of:List Int):∀ (a b:List StepM) (by_:List Int),byL of by_ (a++b)=byL of (byL of by_ a) b
 | [],b,by_=>rfl
 | x::a,b,by_=>by
  rw[List.cons_append,byL,byL,Zv of a b]
theorem Agn (of by_:List Int) (l:List StepM) (j:Nat) (hj:j<l.length):byL of by_ (l.take (j+1))=byStep of (byL of by_ (l.take j)) l[j]:=by
 rw[List.take_succ_eq_append_getElem hj,Zv]
 rfl
theorem Wg (n:Net) (of:List Int) (tenant:Int):∀ (a b:List StepM) (m:MacM) (by_:List Int),Kr n of tenant m by_ (a++b)=Kr n of tenant m by_ a++Kr n of tenant (B0 n m a).1 (byL of by_ a) b
 | [],b,m,by_=>rfl
 | x::a,b,m,by_=>by
  rw[List.cons_append,Kr,Kr,Wg n of tenant a b,B0,byL,List.append_assoc]
theorem Aa3 (n:Net) (of:List Int) (tenant:Int) (m:MacM) (by_:List Int) (l:List StepM) (j:Nat) (hj:j<l.length) :
  Kr n of tenant m by_ (l.take (j+1))=Kr n of tenant m by_ (l.take j)++keepL of (byL of by_ (l.take j)) tenant (B0 n m (l.take j)).1 l[j]:=by
 rw[List.take_succ_eq_append_getElem hj,Wg,Kr,Kr,List.append_nil]
theorem Amg (of by_:List Int) (tenant:Int) (m:MacM) (x:StepM):(keepL of by_ tenant m x).length≤1:=by
 unfold keepL;split<;>simp
theorem Ud (n:Net) (of:List Int) (tenant:Int):∀ (l:List StepM) (m:MacM) (by_:List Int),(Kr n of tenant m by_ l).length≤l.length
 | [],m,by_=>by simp[Kr]
 | x::l,m,by_=>by
  rw[Kr]
  have h1:=Ud n of tenant l (doT n m x).1 (byStep of by_ x)
  have h2:=Amg of by_ tenant m x
  simp only[List.length_append,List.length_cons]
  omega
theorem Aji (of by_:List Int) (x:StepM):(byStep of by_ x).length≤by_.length+1:=by
 unfold byStep noteL
 split
 ·split
  ·simp
  ·omega
 ·omega
theorem Adt (of:List Int):∀ (l:List StepM) (by_:List Int),(byL of by_ l).length≤by_.length+l.length
 | [],by_=>by simp[byL]
 | x::l,by_=>by
  rw[byL]
  have h1:=Adt of l (byStep of by_ x)
  have h2:=Aji of by_ x
  simp only[List.length_cons]
  omega
theorem So (l:List QueuedM) (by_:List Int) (tenant at_:Int) (h:0≤at_):0≤Hw l by_ tenant at_∧Hw l by_ tenant at_≤at_:=by
 unfold Hw
 have h1:=List.countP_le_length (p:=fun q:QueuedM=>ownB by_ tenant q.origin) (l:=l.take at_.toNat)
 rw[List.length_take]at h1
 omega
def D6 (m:MacM):Prop:=0≤m.injected∧∀ l∈m.queues,∀ q∈l,1≤q.origin∧q.origin≤m.injected
theorem S6 {m:MacM} (h:D6 m) (dom:Int):∀ q∈queueL m dom,1≤q.origin∧q.origin≤m.injected:=by
 intro q hq
 unfold queueL at hq
 by_cases hd:dom.toNat<m.queues.length
 ·exact h.2 _ (O7 hd) q hq
 ·rw[List.getElem?_eq_none qn]at hq;cases hq
theorem Afd {m:MacM} (h:D6 m) (dom:Int) {l:List QueuedM} (hl:∀ q∈l,1≤q.origin∧q.origin≤m.injected):D6 (Acg m dom l):=by
 refine⟨h.1,fun x hx=>?_⟩
 rcases Xi hx with rfl | hx
 ·exact hl
 ·exact h.2 x hx
theorem Afc {m:MacM} (h:D6 m) (dom at_:Int):D6 (takeM m dom at_).1∧(takeM m dom at_).1.injected=m.injected∧((takeM m dom at_).2.2=true→1≤(takeM m dom at_).2.1.origin∧(takeM m dom at_).2.1.origin≤m.injected):=by
 have hq:=S6 h dom
 unfold takeM
 split
 ·exact⟨h,rfl,fun h=>by cases h⟩
 ·refine⟨Afd h dom fun q hm=>?_,E,fun ht=>?_⟩
  ·unfold takeT at hm
   split at hm
   ·exact hq q hm
   ·exact hq q (List.mem_of_mem_eraseIdx hm)
  ·dsimp only at ht ⊢
   unfold takeT at ht ⊢
   split at ht
   ·cases ht
   ·rename_i hc
    rw[if_neg hc]
    exact hq _ (O7 qn)
theorem Ug {m:MacM} (h:D6 m) (dom:Int) {q:QueuedM} (hq:1≤q.origin∧q.origin≤m.injected) (e:Int):D6 (comeM m dom q e)∧(comeM m dom q e).injected=m.injected:=by
 unfold comeM
 split
 ·exact⟨h,E⟩
 split
 ·refine⟨Afd h dom fun x hx=>?_,E⟩
  unfold pushT at hx
  split at hx
  ·exact S6 h dom x hx
  ·rcases List.mem_append.1 hx with hx | hx
   ·exact S6 h dom x hx
   ·rw[List.mem_singleton.1 hx];exact hq
 ·exact⟨h,E⟩
theorem Aoo {n:Net} {m:MacM} (h:D6 m) (o:OutM) {org:Int} (ho:1≤org∧org≤m.injected):D6 (goesM n m o org).1∧(goesM n m o org).1.injected=m.injected:=by
 unfold goesM
 split
 ·exact⟨h,E⟩
 split
 ·exact Ug h _ ho _
 split
 ·exact Ug h _ ho _
 split
 ·exact Ug h _ ho _
 ·exact⟨h,E⟩
theorem Aa7 {n:Net} {org:Int}:∀ (l:List OutM) {m:MacM},D6 m→(1≤org∧org≤m.injected)→D6 (Ba n m org l).1∧(Ba n m org l).1.injected=m.injected
 | [],m,h,_=>⟨h,rfl⟩
 | o::l,m,h,ho=>by
  rw[Ba]
  have h1:=Aoo (n:=n) h o ho
  have h2:=Aa7 (n:=n) (org:=org) l h1.1 (by rw[h1.2];exact ho)
  exact⟨h2.1,by rw[h2.2,h1.2]⟩
theorem Al3 {m:MacM} (h:D6 m) (dom:Int) (r:List EntryM × List OutM × Int):D6 (Ib m dom r)∧(Ib m dom r).injected=m.injected:=by
 unfold Ib
 split
 ·exact⟨h,E⟩
 split
 ·exact⟨h,E⟩
 ·exact⟨h,E⟩
theorem Aon {n:Net} {m:MacM} (h:D6 m) (dom at_:Int):D6 (pickT n m dom at_).1∧(pickT n m dom at_).1.injected=m.injected:=by
 have h1:=Afc h dom at_
 unfold pickT
 split
 ·exact⟨h1.1,h1.2.1⟩
 ·rename_i hc
  have h2:=Al3 h1.1 dom (Or n (takeM m dom at_).1 dom (takeM m dom at_).2.1)
  have ht:=h1.2.2 (by simpa using hc)
  have h3:=Aa7 (n:=n) (org:=(takeM m dom at_).2.1.origin) (Or n (takeM m dom at_).1 dom (takeM m dom at_).2.1).2.1 h2.1 (by rw[h2.2,h1.2.1];exact ht)
  exact⟨h3.1,by rw[h3.2,h2.2,h1.2.1]⟩
theorem Ah6 {n:Net} {m:MacM} (h:D6 m) (port:Int) (b:List UInt8) (hp:Al port n.ports.length=true) (hl:(nth n.ports port).link<0) :
  D6 (injectT n m port b)∧(injectT n m port b).injected=m.injected+1:=by
 unfold injectT
 rw[if_neg (by rw[hp];simp;exact hl)]
 have h0:D6 ⟨m.up,m.tables,m.queues,m.now,m.injected+1,m.drops⟩:=⟨by have:=h.1;dsimp only;omega,fun l hl q hq=>by have:=h.2 l hl q hq;dsimp only;omega⟩
 exact Ug h0 _ ⟨by have:=h.1;dsimp only;omega,Int.le_refl _⟩ _
theorem W7 {n:Net} {m:MacM} (port:Int) (b:List UInt8) (hp:¬ (Al port n.ports.length=true∧(nth n.ports port).link<0)):injectT n m port b=m:=by
 unfold injectT
 rw[if_pos]
 by_cases h:Al port n.ports.length=true
 ·exact .inr (Int.not_lt.1 fun x=>hp ⟨h,x⟩)
 ·exact .inl (by simpa using h)
def Arx (n:Net) (x:StepM):Int:=if x.kind=1∧Al x.port n.ports.length=true∧(nth n.ports x.port).link<0 then 1 else 0
theorem Ar6 {n:Net} {m:MacM} (h:D6 m) (x:StepM):D6 (doT n m x).1∧(doT n m x).1.injected=m.injected+Arx n x:=by
 unfold doT
 by_cases hk:x.kind=1
 ·rw[if_pos hk]
  unfold Arx
  by_cases hc:Al x.port n.ports.length=true∧(nth n.ports x.port).link<0
  ·rw[if_pos ⟨hk,hc⟩]
   exact Ah6 h _ _ hc.1 hc.2
  ·rw[if_neg (fun h=>hc h.2),W7 _ _ hc]
   exact⟨h,by simp⟩
 rw[if_neg hk]
 have h0:Arx n x=0:=by unfold Arx;rw[if_neg (fun h=>hk h.1)]
 rw[h0,Int.add_zero]
 split
 ·exact Aon h _ _
 split
 ·have:=Afc h x.domain x.at_
  exact⟨this.1,this.2.1⟩
 split
 ·exact⟨h,E⟩
 split
 ·split
  ·exact⟨h,E⟩
  ·exact⟨h,E⟩
 ·exact⟨h,E⟩
theorem Alz {n:Net} {of:List Int} (h:Ic n of=true):of.length=n.ports.length∧Ag n=true∧∀ p,Al p of.length=true→(if (nth n.ports p).link<0 then 0≤nth of p∧nth of p≤9 else nth of p=-1):=by
 unfold Ic at h
 simp only[Bool.and_eq_true,decide_eq_true_eq,List.all_eq_true,List.mem_range]at h
 refine⟨h.1.1,h.1.2,fun p hp=>?_⟩
 have hp:=Bd hp
 have:=h.2 p.toNat qn
 rw[show ((p.toNat:Nat):Int)=p by omega]at this
 split at this
 ·rename_i hc;rw[if_pos hc];simpa using this
 ·rename_i hc;rw[if_neg hc];simpa using this
theorem Ae3 (n:Net) (of:List Int) (tenant:Int):∀ (l:List StepM) (m:MacM) (by_:List Int),∀ y∈Kr n of tenant m by_ l,∃ x∈l,y.bytes=x.bytes∧y.up=x.up
 | [],m,by_,y,hy=>by cases hy
 | x::l,m,by_,y,hy=>by
  rw[Kr]at hy
  rcases List.mem_append.1 hy with hy | hy
  ·refine⟨x,by simp,?_⟩
   unfold keepL at hy
   split at hy
   ·rw[List.mem_singleton.1 hy]
    unfold keepT
    split
    ·exact⟨E,E⟩
    split
    ·split
     ·exact⟨E,E⟩
     ·exact⟨E,E⟩
    ·exact⟨E,E⟩
   ·cases hy
  ·obtain ⟨z,hz,h⟩:=Ae3 n of tenant l _ _ y hy
   exact⟨z,by simp[hz],h⟩
theorem Ao0 (n:Net):D6 (newT n):=by
 refine⟨by simp[newT],fun l hl q hq=>?_⟩
 have:l=[]:=(List.mem_replicate.1 hl).2
 rw[this]at hq;cases hq
theorem Abb {m:MacM} (h:D6 m) (tabs:List (List EntryM)):∀ j,D6 (Dg m tabs j)∧(Dg m tabs j).injected=m.injected
 | 0=>⟨h,rfl⟩
 | j+1=>by
  have ih:=Abb h tabs j
  rw[Dg]
  unfold Ow
  split
  ·exact ih
  ·unfold loadT
   split
   ·exact ih
   ·exact ih
def An6 (x y:StepM):Prop:=y.kind=x.kind∧y.port=x.port∧y.domain=x.domain∧y.bytes=x.bytes∧y.up.length=x.up.length
instance (x y:StepM):Decidable (An6 x y):=by unfold An6;infer_instance
def Aso (l:List StepM) (x:StepM) (k:Nat):Prop:=∃ h:k<l.length,An6 x l[k]∧0≤l[k].at_∧l[k].at_≤x.at_
instance (l:List StepM) (x:StepM) (k:Nat):Decidable (Aso l x k):=by unfold Aso;infer_instance
end Go.Sy.YtmelpejjondedaaGreat
namespace Go.Sy.YtmelpejjondedaaGreat
open Go.Proofs
attribute [local irreducible] Go.Sy.G Go.Sy.DR
structure Bx (Q:Prop):Prop where out:Q
theorem sE {α:Sort _} {a b:α} {K:Prop} (e:a=b) (h:K):a=b∧K:=⟨e,h⟩
theorem xE {α:Sort _} {a b:α} {K:a=b→Prop} (e:a=b) (h:K e):∃ e:a=b,K e:=⟨e,h⟩
theorem sL {a b:Int} {K:Prop} (e:a≤b) (h:K):a≤b∧K:=⟨e,h⟩
theorem xL {a b:Int} {K:a≤b→Prop} (e:a≤b) (h:K e):∃ e:a≤b,K e:=⟨e,h⟩
theorem sM {a b:Nat} {K:Prop} (e:a≤b) (h:K):a≤b∧K:=⟨e,h⟩
theorem sT {a b:Nat} {K:Prop} (e:a<b) (h:K):a<b∧K:=⟨e,h⟩
theorem xT {a b:Nat} {K:a<b→Prop} (e:a<b) (h:K e):∃ e:a<b,K e:=⟨e,h⟩
theorem sN {a b:Int} {K:Prop} (e:a≠b) (h:K):a≠b∧K:=⟨e,h⟩
theorem sI {a:Int} {K:Prop} (e:I64 a) (h:K):I64 a∧K:=⟨e,h⟩
theorem ct {p q:Prop} {b:Bool} (h:q) (e:b=true→False:=by
 intro _h
 first | exact absurd _h qz | exact Bool.false_ne_true (Eq.trans (Eq.symm (by with_reducible assumption)) _h) | (simp at _h;done) | (simp at _h;omega)):(b=true→p)∧(b=false→q):=⟨fun x=>(e x).elim,fun _=>h⟩
theorem cf {p q:Prop} {b:Bool} (h:p) (e:b=false→False:=by
 intro _h
 first | exact absurd _h qz | exact Bool.false_ne_true (Eq.trans (Eq.symm _h) (by with_reducible assumption)) | (simp at _h;done) | (simp at _h;omega)):(b=true→p)∧(b=false→q):=⟨fun _=>h,fun x=>(e x).elim⟩
theorem S {P Q:Prop} (h:Q) (e:Bx Q→P:=by
 intro hb
 first | refine rg ?_ | refine rd qy ?_ | skip
 conv=>whnf
 repeat (first
  | ((first | refine aF ?_ | refine aT ?_ | refine ct ?_ | refine cf ?_);(first | refine rg ?_ | refine rd qy ?_);(conv=>whnf))
  | ((first | refine⟨(by kernel_rfl:Adi _ _=true),?_⟩ | refine sI (by unfold I64;omega) ?_);(conv=>whnf)))
 exact hb.out):P:=e ⟨h⟩
theorem T {P Q:Prop} (h:Q) (e:Bx Q→P:=by
 intro hb
 refine S ?_
 repeat ((first | refine sE (by exact rfl) ?_ | refine sL (by first | omega | decide) ?_ | refine xL (by first | omega | decide) ?_ | refine sT (by first | omega | decide) ?_ | refine xT (by first | omega | decide) ?_ | refine sM (by first | omega | decide) ?_ | refine sN (by first | omega | decide) ?_ | refine xE (by exact rfl) ?_);refine S ?_)
 exact hb.out):P:=e ⟨h⟩
theorem D {P:Prop} (h:P:=by
 apply Ac
 ·exact E
 ·(repeat (first | exact ResVs.nil | (apply ResVs.cons;(first | exact .tmp | exact .cell rfl rfl rfl rfl))))
 ·exact E
 ·exact E):P:=h
theorem U {P:Prop} (h:P:=by
 refine⟨?_,?_,E,E⟩
 ·repeat (first | exact trivial | exact rfl | refine⟨rfl,rfl,?_⟩)
 ·repeat (first | exact trivial | refine⟨.inl rfl,rfl,?_⟩ | refine⟨.inr rfl,rfl,?_⟩)):P:=h
theorem Uo {P:Prop} (h:P:=by
 repeat (first | exact trivial | refine⟨.inl rfl,rfl,?_⟩ | refine⟨.inr rfl,rfl,?_⟩)):P:=h
theorem doneE {P:Program} {fn:Func} {F:Fr} {R:SV} {H':Obs} {Γ:Go.Sy.Ty P} {n:Nat} {bn:List Nat} {hbn:∀ k,F.k0 k≠.new→k∈bn} {k:List KI} {s:SS} {rs:List ResultVar} (hf:fn.results=rs.toArray) {xs:List SV} (hx:ResVs Γ.get s rs xs)
  (hR:R.ren (A7 [])=Aaq xs) (hRn:R.inn (Obs.keys H')=true) (hsub:Sub ⟨P,Γ,F,n,Ve P fn F R H',bn,hbn⟩ s [] [] H'):G ⟨P,Γ,F,n,Ve P fn F R H',bn,hbn⟩ (.code .ret::k) s:=done hf hx [] H' (fun _ h=>h) hR hRn hsub
theorem doneF {P:Program} {fn:Func} {F:Fr} {R:SV} {H':Obs} {Γ:Go.Sy.Ty P} {n:Nat} {bn:List Nat} {hbn:∀ k,F.k0 k≠.new→k∈bn} {s:SS} {rs:List ResultVar} (hf:fn.results=rs.toArray) {xs:List SV} (hx:ResVs Γ.get s rs xs)
  (hR:R.ren (A7 [])=Aaq xs) (hRn:R.inn (Obs.keys H')=true) (hsub:Sub ⟨P,Γ,F,n,Ve P fn F R H',bn,hbn⟩ s [] [] H'):G ⟨P,Γ,F,n,Ve P fn F R H',bn,hbn⟩ [] s:=Bw hf hx [] H' (fun _ h=>h) hR hRn hsub
theorem E0 {P:Prop} (h:P:=by
 first | apply doneE | apply doneF
 ·exact E
 ·(repeat (first | exact ResVs.nil | (apply ResVs.cons;(first | exact .tmp | exact .cell rfl rfl rfl rfl))))
 ·exact E
 ·exact E
 ·exact U):P:=h
theorem W {P:Prop} (h:P:=by
 repeat (first | exact trivial | exact rfl | refine⟨rfl,?_⟩)):P:=h
theorem V {P:Prop} (h:P:=by
 repeat (first | exact trivial | refine⟨.inl rfl,?_⟩ | refine⟨.inr rfl,?_⟩)):P:=h
theorem C {P:Program} {f:FuncId} {fn:Func} {c:Code} {A:List SV} {R:SV} {Z Q:Prop} (hs:Sy.Spec P f A [] R []) (hf:Fun P f fn c) (h:Q) (e:Sy.Spec P f A [] R []→Fun P f fn c→Bx Q→Z:=by
 intro hs hf hb
 first | refine Ah hs hf rfl rfl rfl rfl rfl ?_ | refine Au hs hf rfl rfl rfl qy rfl ?_
 refine T ?_
 exact hb.out):Z:=e hs hf ⟨h⟩
theorem X {C:Cx} {k:List KI} {s:SS} {all:Array Oper} {o:Oper} {rest:List Oper} {V:Up} {Q:Prop} (hg:Good C.P o s V) (h:Q) (hd:Sn C.n o=true:=by exact rfl) (hw:Ee C.n all o s=some true:=by exact rfl) (e:Bx Q→G C (.ops all rest::k) (s.upd o.dst V):=by
 intro hb
 refine T ?_
 exact hb.out):G C (.ops all (o::rest)::k) s:=Ai hg hd hw (e ⟨h⟩)
theorem Xd {C:Cx} {k:List KI} {s:SS} {all:Array Oper} {done:List Stp} {o:Oper} {rest:List Oper} {V:Up} {Q:Prop} (hg:Good C.P o s V) (h:Q) (hi:all[done.length]? = some o:=by kernel_rfl) (hw:Ee C.n all o s=some true:=by exact rfl) (hn:(Hy o || Le o)=false:=by exact rfl) (e:Bx Q→DR C k all (done++[⟨done.length,o,V,true⟩]) rest (s.upd o.dst V):=by
 intro hb
 refine T ?_
 exact hb.out):DR C k all done (o::rest) s:=Bn hg hi hw (e ⟨h⟩) hn
theorem Xe {C:Cx} {k:List KI} {s:SS} {all:Array Oper} {done:List Stp} {o:Oper} {rest:List Oper} {V:Up} {Q:Prop} (hg:Good C.P o s V) (h:Q) (hk:KeepL s V.objs:=by exact W) (hi:all[done.length]? = some o:=by kernel_rfl) (hw:Ee C.n all o s=some true:=by exact rfl) (hn:(Hy o || Le o)=false:=by exact rfl) (e:Bx Q→DR C k all (done++[⟨done.length,o,⟨V.v,V.rd++V.ws,[]⟩,true⟩]) rest (s.upd o.dst ⟨V.v,V.rd++V.ws,[]⟩):=by
 intro hb
 refine T ?_
 exact hb.out):DR C k all done (o::rest) s:=stepD2 hg hk hi hw (e ⟨h⟩) hn
end Go.Sy.YtmelpejjondedaaGreat
namespace Go.Sy.YtmelpejjondedaaGreat
open Go.Proofs
attribute [local irreducible] Go.Sy.G Go.Sy.DR
set_option maxRecDepth 100000
set_option maxHeartbeats 4000000
def Art (of:List Int) (tenant:Int):List SV:=[.sl 1 Aa of,Aa tenant,.osl 11]
def Ail (of by_:List Int) (tenant:Int):Obs:=[(10,.box (Art of tenant)),(11,.row 1 Aa by_)]
def ledN (of by_:List Int) (tenant:Int):Obs:=[(10,.box [.sl 1 Aa of,Aa tenant,.osl 12]),(11,.non),(12,.row 1 Aa by_)]
theorem Abf (of by_:List Int) (tenant port:Int) :
  Sy.Spec Tryz.prog 110 [.ptr 10 0,Aa port] (Ail of by_ tenant) (Aa (ownerI of port)) (Ail of by_ tenant):=Ab Γ hm 100 F110 Tryz.ntmps110 rfl fun F hF=>by
 have hres:=ownerI.eq_1 of port
 generalize ownerI of port=res at *
 refine T ?_
 refine⟨fun h=>?_,fun h=>?_⟩
 ·rw[if_neg (by rw[Cn (by have:=of_decide_eq_true h;omega)];simp)]at hres
  subst hres
  refine T ?_
  exact E0
 refine T ?_
 refine⟨fun h2=>?_,fun h2=>?_⟩
 ·rw[if_neg (by rw[Cn (by have:=of_decide_eq_true h2;omega)];simp)]at hres
  subst hres
  refine T ?_
  exact E0
 have h0:=of_decide_eq_false h
 have h1:=of_decide_eq_false h2
 have hk:port.toNat<of.length:=by omega
 rw[if_pos (Cg qn),Ao hk]at hres
 subst hres
 refine T ?_
 exact E0
theorem Ao9 (of by_:List Int) (tenant port:Int) (hl:by_.length<1000000) :
  Sy.Spec Tryz.prog 66 [.ptr 10 0,Aa port] (Ail of by_ tenant) (.tup []) (ledN of (noteL of by_ port) tenant):=Ab Γ hm 100 F66 Tryz.ntmps66 rfl fun F hF=>by
 have hres:=noteL.eq_1 of by_ port
 generalize noteL of by_ port=res at *
 have q:=Abf of by_ tenant port
 generalize ownerI of port=w at *
 refine T ?_
 refine X (Ak [] E F110 q E W E V) ?_
 refine⟨fun h=>?_,fun h=>?_⟩
 ·rw[if_pos (by have:=of_decide_eq_true h;omega)]at hres
  subst hres
  refine T ?_
  refine Xe (Ak [] E F110 q E W E V) ?_
  refine Xd (Ae Γ.toTy 17 rfl rfl rfl rfl rfl (.row rfl) (.lit (e:=Aa) (l:=[w]) rfl rfl) (fun j hj=>by cases hj;decide) (by simp;omega) (by simp;omega)) ?_
  exact Bw E .nil [(12,17)] (ledN of (by_++[w]) tenant) (fun _ h=>h) E E U
 ·rw[if_neg (by have:=of_decide_eq_false h;omega)]at hres
  subst hres
  refine T ?_
  refine Aqp 11 12 E E qz ?_
  exact E0
theorem Ars (of by_:List Int) (tenant origin:Int) (hl:by_.length<1000000) :
  Sy.Spec Tryz.prog 111 [.ptr 10 0,Aa origin] (Ail of by_ tenant) (Ad (ownB by_ tenant origin)) (Ail of by_ tenant):=Ab Γ hm 100 F111 Tryz.ntmps111 rfl fun F hF=>by
 have hres:=ownB.eq_1 by_ tenant origin
 generalize ownB by_ tenant origin=res at *
 refine T ?_
 refine⟨fun h=>?_,fun h=>?_⟩
 ·have h0:=of_decide_eq_true h
  refine T ?_
  refine⟨fun h2=>?_,fun h2=>?_⟩
  ·have h1:=of_decide_eq_true h2
   have hk:(origin-1).toNat<by_.length:=by omega
   rw[Cg qn,Bool.true_and,Ao hk]at hres
   subst hres
   refine T ?_
   exact E0
  ·rw[Cn (by have:=of_decide_eq_false h2;omega),Bool.false_and]at hres
   subst hres
   refine T ?_
   exact E0
 ·rw[Cn (by have:=of_decide_eq_false h;omega),Bool.false_and]at hres
  subst hres
  refine T ?_
  exact E0
theorem Ao5 {α β:Type} (f:α→β) (l:List α) (j:Nat) (hj:j<l.length):(l.take (j+1)).map f=(l.take j).map f++[f l[j]]:=by
 rw[List.take_succ_eq_append_getElem hj,List.map_append];rfl
theorem Wy {α:Type} (f:α→Bool) (l:List α) (j:Nat) (hj:j<l.length):(l.take (j+1)).countP f=(l.take j).countP f+(if f l[j] then 1 else 0):=by
 rw[List.take_succ_eq_append_getElem hj,List.countP_append];simp[List.countP_cons]
theorem Apa (of by_:List Int) (tenant:Int) (hl:by_.length<1000000) :
  Sy.Spec Tryz.prog 113 [.ptr 10 0] (Ail of by_ tenant) (.sl 1 Ad (by_.map fun t=>t == tenant)) (Ail of by_ tenant):=Ab Γ hm 100 F113 Tryz.ntmps113 rfl fun F hF=>by
 refine T ?_
 refine Bm 3 1000 1 Ad E E ?_
 refine At by_.length (fun j=>[(0,.ptr 10 0),(3,.osl 1000),(9,.osl 11),(10,Aa by_.length),(11,Aa j)]) (fun j=>[(10,.box (Art of tenant)),(11,.row 1 Aa by_),(1000,.row 1 Ad ((by_.take j).map fun t=>t == tenant))]) [] U ?_
 intro j hj
 refine T ?_
 refine⟨fun h=>?_,fun h=>?_⟩
 ·have hlt:j<by_.length:=by have:=of_decide_eq_true h;omega
  have hs:=Ao5 (fun t=>t == tenant) by_ j hlt
  refine T ?_
  refine X (Ae Γ.toTy 23 E E E E E (.row E) (.lit (e:=Ad) (l:=[by_[((j:Nat):Int).toNat]'qn == tenant]) E E) za (by simp;omega) (by simp;omega)) ?_
  exact Aq [(1000,23)] hlt ⟨⟨E,E,E,E,E,E,E,E,E,E,Y⟩,⟨.inl E,E,.inl E,E,.inl (congrArg (Ob.row 1 Ad) hs),E,Y⟩,E,E⟩
 ·have hjj:j=by_.length:=by have:=of_decide_eq_false h;omega
  subst hjj
  rw[List.take_length]
  refine T ?_
  refine As 1000 E ?_
  exact E0
theorem Ae6 (l:List QueuedM) (by_:List Int) (tenant at_:Int) (hl:l.length<1000000) (hb:by_.length<1000000) :
  Sy.Spec Tryz.prog 112 [.sl 7 Ay l,Aa at_,.sl 1 Ad (by_.map fun t=>t == tenant)] [] (Aa (Hw l by_ tenant at_)) []:=Ab Γ hm 100 F112 Tryz.ntmps112 rfl fun F hF=>by
 obtain ⟨v,hv⟩:∃ v:Int,(if (l.length:Int)<at_ then (l.length:Int) else at_)=v:=⟨_,rfl⟩
 have hkl:v.toNat≤l.length:=by split at hv<;>omega
 have hres:Hw l by_ tenant at_=((l.take v.toNat).countP fun q=>ownB by_ tenant q.origin:Nat):=by
  unfold Hw
  split at hv
  ·subst hv
   rw[Int.toNat_natCast,List.take_length,List.take_of_length_le qn]
  ·rw[hv]
 generalize Hw l by_ tenant at_=res at *
 generalize hk:v.toNat=k at *
 refine T ?_
 refine At k (fun j=>[(0,.sl 7 Ay l),(1,Aa at_),(2,.sl 1 Ad (by_.map fun t=>t == tenant)),(7,Aa ((l.take j).countP fun q=>ownB by_ tenant q.origin:Nat)),(8,Aa j)]) (fun _=>[]) [] U ?_
 intro j hj
 refine T ?_
 refine X (Abs hv E E E) ?_
 refine⟨fun h=>?_,fun h=>?_⟩
 ·have hlt:j<l.length:=by have:=of_decide_eq_true h;omega
  have hlk:j<k:=by have:=of_decide_eq_true h;omega
  have hs:=Wy (fun q=>ownB by_ tenant q.origin) l j hlt
  obtain ⟨q,hq⟩:∃ q,l[((j:Nat):Int).toNat]'qn=q:=⟨_,rfl⟩
  have hq':l[j]=q:=hq
  rw[hq']at hs
  have hc:=List.countP_le_length (p:=fun q=>ownB by_ tenant q.origin) (l:=l.take j)
  rw[List.length_take]at hc
  have hown:=ownB.eq_1 by_ tenant q.origin
  generalize ownB by_ tenant q.origin=w at *
  refine S ?_
  refine⟨E,by omega,by omega,?_⟩
  rw[hq]
  refine T ?_
  refine⟨fun h1=>?_,fun h1=>?_⟩
  ·refine T ?_
   refine⟨fun h2=>?_,fun h2=>?_⟩
   ·have h1:=of_decide_eq_true h1
    have h2:=of_decide_eq_true h2
    rw[List.length_map]at h2
    have hk:(q.origin-1).toNat<by_.length:=by omega
    rw[Cg qn,Bool.true_and,Ao hk]at hown
    have hm:(q.origin-1).toNat<(by_.map fun t=>t == tenant).length:=by rw[List.length_map];omega
    have he:(by_.map fun t=>t == tenant)[(q.origin-1).toNat]'hm=w:=by rw[List.getElem_map,hown];rfl
    refine T ?_
    rw[he]
    cases w
    ·refine T ?_
     exact Aq [] hlk ⟨⟨E,E,E,E,E,E,congrArg (fun z:Nat=>Aa z) hs,E,E,E,Y⟩,Y,E,E⟩
    ·refine T ?_
     exact Aq [] hlk ⟨⟨E,E,E,E,E,E,congrArg (fun z:Nat=>Aa z) hs,E,E,E,Y⟩,Y,E,E⟩
   ·have h1:=of_decide_eq_true h1
    have h2:=of_decide_eq_false h2
    rw[List.length_map]at h2
    rw[Cn qn,Bool.false_and]at hown
    subst hown
    refine T ?_
    exact Aq [] hlk ⟨⟨E,E,E,E,E,E,congrArg (fun z:Nat=>Aa z) hs,E,E,E,Y⟩,Y,E,E⟩
  ·rw[Cn (by have:=of_decide_eq_false h1;omega),Bool.false_and]at hown
   subst hown
   refine T ?_
   exact Aq [] hlk ⟨⟨E,E,E,E,E,E,congrArg (fun z:Nat=>Aa z) hs,E,E,E,Y⟩,Y,E,E⟩
 ·have hjj:j=k:=by have:=of_decide_eq_false h;omega
  subst hjj
  subst hres
  refine T ?_
  exact D
def Anz (n:Net) (m:MacM) (d:Bool) (of by_:List Int) (tenant:Int):Obs:=[(0,.box (T0 n 1 m.now m.injected m.drops)),(1,.box (Kx n m.up d)),(2,.row 1 C7 m.tables),(3,.row 1 I8 m.queues),(10,.box (Art of tenant)),(11,.row 1 Aa by_)]
theorem Apb (n:Net) (m:MacM) (d:Bool) (of by_:List Int) (tenant:Int) (x:StepM) (hq:∀ dom,Ei (queueL m dom)) (hb:by_.length<1000000) (hx1:x.bytes.length<100000) (hx2:x.up.length<100000) :
  Sy.Spec Tryz.prog 65 [.ptr 10 0,.ptr 0 0,Bu x] (Anz n m d of by_ tenant) (.tup [Bu (keepT of by_ tenant m x).1,Ad (keepT of by_ tenant m x).2]) (Anz n m d of by_ tenant):=Ab Γ hm 100 F65 Tryz.ntmps65 rfl fun F hF=>by
 have hres:=keepT.eq_1 of by_ tenant m x
 generalize keepT of by_ tenant m x=res at *
 refine T ?_
 refine C (Ix x.bytes qn) F63 ?_
 refine C (Zt x.up qn) F55 ?_
 refine⟨fun h=>?_,fun h=>?_⟩
 ·have h1:x.kind=1:=by simpa using h
  rw[if_pos h1]at hres
  subst hres
  have q:=Abf of by_ tenant x.port
  generalize ownerI of x.port=w at *
  refine T ?_
  refine Xe (Ak [] E F110 q E W E V) ?_
  by_cases hw:w=tenant
  ·rw[decide_eq_true hw,Bool.true_and]
   refine⟨fun h2=>?_,fun h2=>absurd (hw:w=tenant) (by simpa using h2)⟩
   refine T ?_
   exact E0
  ·rw[decide_eq_false hw,Bool.false_and]
   refine⟨fun h2=>absurd (by simpa using h2) hw,fun h2=>?_⟩
   refine T ?_
   exact E0
 have h1:¬ x.kind=1:=by simpa using h
 rw[if_neg h1]at hres
 clear h
 by_cases h23:x.kind=2∨x.kind=3
 ·rw[if_pos h23]at hres
  have hqo:=hq x.domain
  have q1:Sy.Spec Tryz.prog 57 [.ptr 0 0,Aa x.domain] (Cw n m d) (.sl 7 Ay (Kc m x.domain)) (Cw n m d):=Ak7 n m d x.domain hqo
  have hql:(Kc m x.domain).length≤64:=by
   unfold Kc
   split
   ·exact hqo.1
   ·exact Nat.zero_le _
  generalize Kc m x.domain=l at *
  have q4:=Apa of by_ tenant hb
  have q5:=Ae6 l by_ tenant x.at_ qn hb
  refine T ?_
  refine⟨fun h=>?_,fun h=>?_⟩
  rotate_left
  have h2:¬ x.kind=2:=by simpa using h
  clear h
  refine T ?_
  rotate_left
  all_goals
   refine T ?_
   refine X (Ak [] E F57 q1 E W E V) ?_
   refine⟨fun h=>?_,fun h=>?_⟩
   ·have h0:=of_decide_eq_true h
    rw[Cn qn,Bool.false_and,if_neg za]at hres
    subst hres
    refine T ?_
    exact E0
   have h0:=of_decide_eq_false h
   refine T ?_
   refine⟨fun h=>?_,fun h=>?_⟩
   ·have h1:=of_decide_eq_true h
    rw[Cn qn,Bool.false_and,if_neg za]at hres
    subst hres
    refine T ?_
    exact E0
   have h1:=of_decide_eq_false h
   have hlt:x.at_.toNat<l.length:=by omega
   rw[Cg qn,Bool.true_and,List.getElem?_eq_getElem hlt,Option.getD_some]at hres
   obtain ⟨q,hqq⟩:∃ q,l[x.at_.toNat]'hlt=q:=⟨_,rfl⟩
   rw[hqq]at hres
   have q3:=Ars of by_ tenant q.origin hb
   generalize ownB by_ tenant q.origin=w at *
   refine S ?_
   refine⟨E,by omega,hlt,?_⟩
   rw[hqq]
   refine T ?_
   refine X (C5 [] (Hv E E F111) q3 E W E V) ?_
   cases w
   ·rw[if_neg za]at hres
    subst hres
    refine T ?_
    exact E0
   rw[if_pos rfl]at hres
   subst hres
   refine T ?_
   refine Xe (Ak [] E F113 q4 E W E V) ?_
   refine C q5 F112 ?_
   exact E0
 ·rw[if_neg h23]at hres
  subst hres
  refine T ?_
  exact E0
structure TabsOK (tabs:List (List EntryM)):Prop where
 few:tabs.length≤60
 tab:∀ t∈tabs,t.length≤60
 ok:Ajr tabs
theorem S8 {n:Net} {tabs:List (List EntryM)} (h:TabsOK tabs) (m:MacM) (j:Nat) (hj:j<tabs.length):Dg m tabs (j+1)=(loadT (Dg m tabs j) j tabs[j]).1:=by
 rw[Dg,Jx hj,Ow,if_neg (by have:=h.tab _ (List.getElem_mem hj);omega)]
theorem Aba {m:MacM} {j:Nat} {t:List EntryM} (h:¬ j<m.queues.length):(loadT m j t).1=m:=by
 unfold loadT
 rw[if_neg]
 intro hc
 have:=(placeB_iff.1 hc.1).2
 omega
theorem Mz (n:Net) (hn:n.Fin) (tabs:List (List EntryM)) (hok:okB n (M7 n)=false) :
  Sy.Spec Tryz.prog 64 [Ap n,.sl 1 C7 tabs] [] (.tup [.val (.pointer none),Aa 2]) []:=Ab Γ hm 100 F64 Tryz.ntmps64 rfl fun F hF=>by
 refine T ?_
 refine C (Ag6 n hn hok) F18 ?_
 exact D
theorem Tz (n:Net) (hn:n.Fin) (tabs:List (List EntryM)) (ht:TabsOK tabs) (hok:okB n (M7 n)=true) :
  Sy.Spec Tryz.prog 64 [Ap n,.sl 1 C7 tabs] [] (.tup [.ptr 0 0,Aa 0]) (Cw n (Cs n tabs) false):=Ab Γ hm 100 F64 Tryz.ntmps64 rfl fun F hF=>by
 have q1:=Aq7 n hn hok
 have hn0:=Qt n
 unfold Cs
 generalize newT n=m0 at *
 have htl:=ht.few
 have hds:=hn.domains
 unfold Ar at hds
 refine T ?_
 refine X (Ak [(0,800),(1,801),(2,802),(3,803)] E F18 q1 E W E V) ?_
 refine Iz 2 902 E E qz ?_
 refine At tabs.length (fun j=>[(2,.ptr 902 0),(6,.ptr 0 0),(18,.sl 1 C7 tabs),(19,Aa tabs.length),(20,Aa j)]) (fun j=>[(0,.box (T0 n 1 (Dg m0 tabs j).now (Dg m0 tabs j).injected (Dg m0 tabs j).drops)),(1,.box (Kx n (Dg m0 tabs j).up false)),(2,.row 1 C7 (Dg m0 tabs j).tables),(3,.row 1 I8 (Dg m0 tabs j).queues),(902,.box (Z8 n))]) [(0,800),(1,801),(2,802),(3,803)] U ?_
 intro j hj
 have hok0:=Jc hn0 ht.ok j
 refine T ?_
 refine⟨fun h=>?_,fun h=>?_⟩
 ·have hlt:j<tabs.length:=by have:=of_decide_eq_true h;omega
  have hj0:((j:Nat):Int).toNat<tabs.length:=by simpa using hlt
  obtain ⟨t,hoo⟩:∃ t,tabs[j]=t:=⟨_,rfl⟩
  have e1:tabs[((j:Nat):Int).toNat]'hj0=t:=hoo
  have hs:=S8 (n:=n) ht m0 j hlt
  rw[hoo]at hs
  have hti:=ht.ok t (by rw[← hoo];exact List.getElem_mem hlt)
  have htt:=ht.tab t (by rw[← hoo];exact List.getElem_mem hlt)
  have hto:=Xx hti.1 htt
  have hqd:=hok0.ques
  have q2:=Any n (Dg m0 tabs j) false j t (by rw[hok0.tabs,hok0.ques]) hto.short hto.mac
  have hout:=Aba (m:=Dg m0 tabs j) (j:=j) (t:=t)
  rw[← hs]at q2 hout
  clear h
  refine S ?_
  refine⟨E,by omega,hj0,?_⟩
  rw[e1]
  refine T ?_
  refine⟨fun h=>?_,fun h=>?_⟩
  ·refine T ?_
   refine X (Ak [] E F19 q2 E W E V) ?_
   exact Aq [] hlt U
  ·have hm:=hout (by have:=of_decide_eq_false h;omega)
   refine T ?_
   refine Aq [] hlt ⟨⟨E,E,E,E,E,E,E,E,E,E,Y⟩,?_,E,E⟩
   dsimp only
   rw[hm]
   exact Uo
 ·have hjj:j=tabs.length:=by have:=of_decide_eq_false h;omega
  subst hjj
  refine T ?_
  exact E0
theorem Ak4 (n:Net) (hn:n.Fin) (hm1:n.Num) (tabs:List (List EntryM)) (ht:TabsOK tabs) (l:List StepM) (hl:ScriptOK l) :
  Sy.Spec Tryz.prog 30 [Ap n,.sl 1 C7 tabs,.sl 6 Bu l] [] (.tup [.sl 3 A9 (runTabsT n tabs l).1,Aa (runTabsT n tabs l).2]) []:=Ab Γ hm 100 F30 Tryz.ntmps30 rfl fun F hF=>by
 have hres:=runTabsT.eq_1 n tabs l
 generalize runTabsT n tabs l=res at *
 have hlen:=hl.few
 cases hok:okB n (M7 n)
 ·rw[if_neg (by rw[hok];simp)]at hres
  subst hres
  refine T ?_
  refine C (Mz n hn tabs hok) F64 ?_
  refine An 6 3 A9 E ?_
  exact D
 ·rw[if_pos hok]at hres
  subst hres
  have q1:=Tz n hn tabs ht hok
  have hn0:MacOK n (Cs n tabs) 0 0:=Jc (Qt n) ht.ok _
  generalize Cs n tabs=m0 at *
  refine T ?_
  refine X (Ak [(0,800),(1,801),(2,802),(3,803)] E F64 q1 E W E V) ?_
  refine Bm 10 1000 3 A9 E E ?_
  refine At l.length (fun j=>[(8,.ptr 0 0),(10,.osl 1000),(24,.sl 6 Bu l),(25,Aa l.length),(26,Aa j)]) (fun j=>runO n (B0 n m0 (l.take j)).1 (runD n m0 false (l.take j)) (B0 n m0 (l.take j)).2) [(0,800),(1,801),(2,802),(3,803)] U ?_
  intro j hj
  refine T ?_
  refine⟨fun h=>?_,fun h=>?_⟩
  ·have hlt:j<l.length:=by have:=of_decide_eq_true h;omega
   have hj0:((j:Nat):Int).toNat<l.length:=by simpa using hlt
   obtain ⟨x,hoo⟩:∃ x,l[j]=x:=⟨_,rfl⟩
   have e1:l[((j:Nat):Int).toNat]'hj0=x:=hoo
   have hs:=Qn n m0 l j hlt
   have hds:=Aay n m0 false l j hlt
   rw[hoo]at hs hds
   have hxb:=hl.bytes x (by rw[← hoo];exact List.getElem_mem hlt)
   have hjo:=T4 hn hm1 (l.take j) hn0 (Int.le_refl _) (Int.le_refl _)
   have hjl:(l.take j).length=j:=by rw[List.length_take];omega
   have hjf:=T5 hn (l.take j) m0
   rw[hjl]at hjo hjf
   have q5:=An2 n hn hm1 (B0 n m0 (l.take j)).1 (runD n m0 false (l.take j)) _ _ hjo qn qn qn x qn
   have hfw:=Adk hn (B0 n m0 (l.take j)).1 x
   have g1:(B0 n m0 (l.take (j+1))).1=(doT n (B0 n m0 (l.take j)).1 x).1:=by rw[hs]
   have g2:(B0 n m0 (l.take (j+1))).2=(B0 n m0 (l.take j)).2++(doT n (B0 n m0 (l.take j)).1 x).2:=by rw[hs]
   clear h
   refine S ?_
   refine⟨E,by omega,hj0,?_⟩
   rw[e1]
   refine T ?_
   refine X (Ak [(4,33)] E F21 q5 E W E V) ?_
   refine X (Ae Γ.toTy 38 E E E E E (.row E) .sl za qn qn) ?_
   refine Aq [(1,33),(1000,38)] hlt ⟨⟨E,E,E,E,E,E,E,E,E,E,Y⟩,?_,E,E⟩
   dsimp only
   rw[g1,g2,hds]
   exact Uo
  ·have hjj:j=l.length:=by have:=of_decide_eq_false h;omega
   subst hjj
   rw[List.take_length]
   clear h
   refine T ?_
   refine As 1000 E ?_
   exact D
def ownAt (n:Net) (of:List Int) (i:Nat):Bool:=if (nth n.ports (i:Int)).link<0 then decide (0≤nth of (i:Int)) && decide (nth of (i:Int)≤9) else decide (nth of (i:Int)=-1)
theorem Yt (n:Net) (of:List Int):Ic n of=(decide (of.length=n.ports.length) && Ag n && (List.range of.length).all (ownAt n of)):=rfl
theorem Aa5 {k:Nat} {p:Nat→Bool} (h:∀ i,i<k→p i=true):(List.range k).all p=true:=by
 rw[List.all_eq_true]
 intro i hi
 exact h i (List.mem_range.1 hi)
theorem Aa4 {k j:Nat} {p:Nat→Bool} (hj:j<k) (h:p j=false):(List.range k).all p=false:=by
 rw[Bool.eq_false_iff]
 intro ha
 have:=List.all_eq_true.1 ha j (List.mem_range.2 hj)
 rw[h]at this;cases this
theorem Acw (n:Net) (hn:n.Fin) (of:List Int):Sy.Spec Tryz.prog 28 [Ap n,.sl 1 Aa of] [] (Ad (Ic n of)) []:=Ab Γ hm 100 F28 Tryz.ntmps28 rfl fun F hF=>by
 have hres:=Yt n of
 generalize Ic n of=res at *
 have qr:=B5 n hn
 have hps:=hn.ports
 unfold Ar at hps
 generalize Ag n=nr at *
 refine T ?_
 refine⟨fun h=>?_,fun h=>?_⟩
 ·rw[decide_eq_false (show ¬ of.length=n.ports.length by simp at h;omega),Bool.false_and,Bool.false_and]at hres
  subst hres
  refine T ?_
  exact D
 have hlen:of.length=n.ports.length:=by simp at h;omega
 rw[decide_eq_true hlen,Bool.true_and]at hres
 refine T ?_
 refine C qr F67 ?_
 cases nr
 ·rw[Bool.false_and]at hres
  subst hres
  refine T ?_
  exact D
 rw[Bool.true_and]at hres
 refine T ?_
 refine A2 of.length (fun j=>∀ i,i<j→ownAt n of i=true) (fun j=>[(2,.ptr 2 0),(19,.sl 1 Aa of),(20,Aa of.length),(21,Aa j)]) (fun _=>[(2,.box (Z8 n))]) [] (fun i hi=>absurd hi (Nat.not_lt_zero i)) U ?_
 intro j hj hI
 refine T ?_
 refine⟨fun h=>?_,fun h=>?_⟩
 ·have hlt:j<of.length:=by have:=of_decide_eq_true h;omega
  have hj0:((j:Nat):Int).toNat<of.length:=by simpa using hlt
  have hj1:((j:Nat):Int).toNat<n.ports.length:=by rw[← hlen];exact hj0
  have hat:=ownAt.eq_1 n of j
  rw[Ao hj1,Ao hj0]at hat
  obtain ⟨w,hw⟩:∃ w,of[((j:Nat):Int).toNat]'hj0=w:=⟨_,rfl⟩
  obtain ⟨p,hp⟩:∃ p,n.ports[((j:Nat):Int).toNat]'hj1=p:=⟨_,rfl⟩
  rw[hw,hp]at hat
  have bad:ownAt n of j=false→res=false:=fun hb=>by rw[hres];exact Aa4 hlt hb
  have good:ownAt n of j=true→∀ i,i<j+1→ownAt n of i=true:=fun hb i hi=>by
   by_cases he:i=j
   ·subst he;exact hb
   ·exact hI i qn
  generalize ownAt n of j=g at *
  clear h
  refine S ?_
  refine⟨E,by omega,hj0,?_⟩
  rw[hw]
  refine S ?_
  refine⟨E,by omega,hj1,?_⟩
  rw[hp]
  refine T ?_
  refine⟨fun h1=>?_,fun h1=>?_⟩
  ·have hl:=of_decide_eq_true h1
   rw[if_neg qn]at hat
   refine T ?_
   refine⟨fun h2=>?_,fun h2=>?_⟩
   ·have hr:=bad (by rw[hat];simp at h2;simp;omega)
    subst hr
    refine T ?_
    exact D
   ·have hx:=good (by rw[hat];simp at h2;simp;omega)
    refine T ?_
    refine Aw [] hI hlt hx ?_
    exact U
  ·have hl:=of_decide_eq_false h1
   rw[if_pos qn,← Bool.decide_and]at hat
   refine T ?_
   refine⟨fun h2=>?_,fun h2=>?_⟩
   ·have hr:=bad (by rw[hat];exact decide_eq_false (by have:=of_decide_eq_true h2;omega))
    subst hr
    refine T ?_
    exact D
   refine T ?_
   refine⟨fun h3=>?_,fun h3=>?_⟩
   ·have hr:=bad (by rw[hat];exact decide_eq_false (by have:=of_decide_eq_true h3;omega))
    subst hr
    refine T ?_
    exact D
   have hx:=good (by rw[hat];exact decide_eq_true (by have:=of_decide_eq_false h2;have:=of_decide_eq_false h3;omega))
   refine T ?_
   refine Aw [] hI hlt hx ?_
   exact U
 ·have hjj:j=of.length:=by have:=of_decide_eq_false h;omega
  subst hjj
  have hr:res=true:=by rw[hres];exact Aa5 hI
  subst hr
  refine T ?_
  exact D
def redO (n:Net) (of:List Int) (tenant:Int) (m:MacM) (d:Bool) (by_:List Int) (out:List StepM):Obs :=
 [(0,.box (T0 n 1 m.now m.injected m.drops)),(1,.box (Kx n m.up d)),(2,.row 1 C7 m.tables),(3,.row 1 I8 m.queues),(10,.box (Art of tenant)),(11,.row 1 Aa by_),(1000,.row 6 Bu out)]
theorem Mc (n:Net) (hn:n.Fin) (hm1:n.Num) (of:List Int) (tabs:List (List EntryM)) (ht:TabsOK tabs) (l:List StepM) (hl:ScriptOK l) (hu:∀ x∈l,x.up.length<100000) (tenant:Int) :
  Sy.Spec Tryz.prog 27 [Ap n,.sl 1 Aa of,.sl 1 C7 tabs,.sl 6 Bu l,Aa tenant] [] (.tup [.sl 6 Bu (reduceT n of tabs l tenant).1,Aa (reduceT n of tabs l tenant).2]) []:=Ab Γ hm 100 F27 Tryz.ntmps27 rfl fun F hF=>by
 have hres:=reduceT.eq_1 n of tabs l tenant
 generalize reduceT n of tabs l tenant=res at *
 have hlen:=hl.few
 cases hok:okB n (M7 n)
 ·rw[if_neg (by rw[hok];simp)]at hres
  subst hres
  refine T ?_
  refine C (Mz n hn tabs hok) F64 ?_
  refine An 10 6 Bu E ?_
  exact D
 have q1:=Tz n hn tabs ht hok
 have q2:=Acw n hn of
 have hn0:MacOK n (Cs n tabs) 0 0:=Jc (Qt n) ht.ok _
 generalize Cs n tabs=m0 at *
 refine T ?_
 refine X (Ak [(0,800),(1,801),(2,802),(3,803)] E F64 q1 E W E V) ?_
 refine C q2 F28 ?_
 cases how:Ic n of
 ·rw[if_neg (by rw[how];simp)]at hres
  subst hres
  refine T ?_
  refine An 10 6 Bu E ?_
  exact D
 rw[if_pos ⟨hok,how⟩]at hres
 subst hres
 refine T ?_
 refine Bm 15 1000 6 Bu E E ?_
 refine Qj 37 2 1001 1 Aa E E E E ?_
 refine At l.length (fun j=>[(12,.ptr 0 0),(14,.ptr 10 0),(15,.osl 1000),(38,.sl 6 Bu l),(39,Aa l.length),(40,Aa j)]) (fun j=>redO n of tenant (B0 n m0 (l.take j)).1 (runD n m0 false (l.take j)) (byL of [] (l.take j)) (Kr n of tenant m0 [] (l.take j))) [(0,800),(1,801),(2,802),(3,803),(10,37),(11,1001)] U ?_
 intro j hj
 refine T ?_
 refine⟨fun h=>?_,fun h=>?_⟩
 ·have hlt:j<l.length:=by have:=of_decide_eq_true h;omega
  have hj0:((j:Nat):Int).toNat<l.length:=by simpa using hlt
  obtain ⟨x,hoo⟩:∃ x,l[j]=x:=⟨_,rfl⟩
  have e1:l[((j:Nat):Int).toNat]'hj0=x:=hoo
  have hs:=Qn n m0 l j hlt
  have hds:=Aay n m0 false l j hlt
  have hbs:=Agn of [] l j hlt
  have hrs:=Aa3 n of tenant m0 [] l j hlt
  rw[hoo]at hs hds hbs hrs
  have hxb:=hl.bytes x (by rw[← hoo];exact List.getElem_mem hlt)
  have hxu:=hu x (by rw[← hoo];exact List.getElem_mem hlt)
  have hjo:=T4 hn hm1 (l.take j) hn0 (Int.le_refl _) (Int.le_refl _)
  have hjl:(l.take j).length=j:=by rw[List.length_take];omega
  have hbl:=Adt of (l.take j) []
  have hrl:=Ud n of tenant (l.take j) m0 []
  rw[hjl]at hjo hbl hrl
  rw[List.length_nil]at hbl
  have q5:=An2 n hn hm1 (B0 n m0 (l.take j)).1 (runD n m0 false (l.take j)) _ _ hjo qn qn qn x qn
  have g1:(B0 n m0 (l.take (j+1))).1=(doT n (B0 n m0 (l.take j)).1 x).1:=by rw[hs]
  have q3:=Apb n (B0 n m0 (l.take j)).1 (runD n m0 false (l.take j)) of (byL of [] (l.take j)) tenant x (fun dom=>Cz hjo dom) qn qn hxu
  have q4:=Ao9 of (byL of [] (l.take j)) tenant x.port qn
  have hkl:keepL of (byL of [] (l.take j)) tenant (B0 n m0 (l.take j)).1 x=if (keepT of (byL of [] (l.take j)) tenant (B0 n m0 (l.take j)).1 x).2=true then [(keepT of (byL of [] (l.take j)) tenant (B0 n m0 (l.take j)).1 x).1] else []:=rfl
  generalize keepT of (byL of [] (l.take j)) tenant (B0 n m0 (l.take j)).1 x=yb at *
  obtain ⟨y,b⟩:=yb
  have hb1:=byStep.eq_1 of (byL of [] (l.take j)) x
  clear h hs
  refine S ?_
  refine⟨E,by omega,hj0,?_⟩
  rw[e1]
  refine T ?_
  refine X (Ak [] E F65 q3 E W E V) ?_
  cases b
  ·rw[hkl,if_neg za,List.append_nil]at hrs
   refine T ?_
   refine⟨fun h=>?_,fun h=>?_⟩
   ·rw[if_pos (by simpa using h)]at hb1
    refine T ?_
    refine X (Ak [(12,62)] E F66 q4 E W E V) ?_
    refine X (Ak [(4,65)] E F21 q5 E W E V) ?_
    refine Aq [(1,65),(11,62)] hlt ⟨⟨E,E,E,E,E,E,E,E,E,E,E,E,Y⟩,?_,E,E⟩
    dsimp only
    rw[g1,hds,hbs,hrs,hb1]
    exact Uo
   ·rw[if_neg (by simpa using h)]at hb1
    refine T ?_
    refine X (Ak [(4,65)] E F21 q5 E W E V) ?_
    refine Aq [(1,65)] hlt ⟨⟨E,E,E,E,E,E,E,E,E,E,E,E,Y⟩,?_,E,E⟩
    dsimp only
    rw[g1,hds,hbs,hrs,hb1]
    exact Uo
  ·rw[hkl,if_pos rfl]at hrs
   refine T ?_
   refine X (Ae Γ.toTy 55 rfl rfl rfl rfl rfl (.row rfl) (.lit (e:=Bu) (l:=[y]) rfl rfl) (fun j hj=>by cases hj;decide) (by simp;omega) (by simp;omega)) ?_
   refine⟨fun h=>?_,fun h=>?_⟩
   ·rw[if_pos (by simpa using h)]at hb1
    refine T ?_
    refine X (Ak [(12,62)] E F66 q4 E W E V) ?_
    refine X (Ak [(4,65)] E F21 q5 E W E V) ?_
    refine Aq [(1,65),(11,62),(1000,55)] hlt ⟨⟨E,E,E,E,E,E,E,E,E,E,E,E,Y⟩,?_,E,E⟩
    dsimp only
    rw[g1,hds,hbs,hrs,hb1]
    exact Uo
   ·rw[if_neg (by simpa using h)]at hb1
    refine T ?_
    refine X (Ak [(4,65)] E F21 q5 E W E V) ?_
    refine Aq [(1,65),(1000,55)] hlt ⟨⟨E,E,E,E,E,E,E,E,E,E,E,E,Y⟩,?_,E,E⟩
    dsimp only
    rw[g1,hds,hbs,hrs,hb1]
    exact Uo
 ·have hjj:j=l.length:=by have:=of_decide_eq_false h;omega
  subst hjj
  rw[List.take_length]
  refine T ?_
  refine As 1000 E ?_
  exact D
theorem Ko {κ:Ka} {w:World} {a a':SV} {l l':List SV} (h1:∀ v,Rd κ w a' v→Rd κ w a v) (h2:∀ vs,RdL κ w l' vs→RdL κ w l vs):∀ vs,RdL κ w (a'::l') vs→RdL κ w (a::l) vs:=by
 intro vs h
 simp only[RdL]at h ⊢
 obtain ⟨v,r,e1,e2,e3⟩:=h
 exact⟨v,r,e1,h1 v e2,h2 r e3⟩
structure SeensOK (l:List SeenM):Prop where
 few:l.length≤200
 bytes:∀ x∈l,x.bytes.length≤2000
def viewX (of:List Int) (tenant:Int) (x:SeenM):List SeenM:=if (Al x.port of.length && decide (nth of x.port=tenant))=true then [⟨x.port,0,x.bytes⟩] else []
theorem Agy (of:List Int) (tenant:Int) (l:List SeenM) (j:Nat) (hj:j<l.length):V7 (l.take (j+1)) of tenant=V7 (l.take j) of tenant++viewX of tenant l[j]:=by
 unfold V7 viewX
 rw[List.take_succ_eq_append_getElem hj,List.filter_append,List.map_append]
 congr 1
 by_cases h:(Al l[j].port of.length && decide (nth of l[j].port=tenant))=true
 ·rw[if_pos h,List.filter_cons_of_pos (p:=fun x:SeenM=>Al x.port of.length && decide (nth of x.port=tenant)) h];rfl
 ·rw[if_neg h,List.filter_cons_of_neg (p:=fun x:SeenM=>Al x.port of.length && decide (nth of x.port=tenant)) h];rfl
theorem Akw (of:List Int) (tenant:Int) (l:List SeenM):(V7 l of tenant).length≤l.length:=by
 unfold V7
 rw[List.length_map]
 exact List.length_filter_le _ _
theorem Ag3 (l:List SeenM) (hl:SeensOK l) (of:List Int) (tenant:Int) :
  Sy.Spec Tryz.prog 24 [.sl 3 A9 l,.sl 1 Aa of,Aa tenant] [] (.sl 3 A9 (V7 l of tenant)) []:=Ab Γ hm 100 F24 Tryz.ntmps24 rfl fun F hF=>by
 have hlen:=hl.few
 refine T ?_
 refine Bm 7 1000 3 A9 E E ?_
 refine At l.length (fun j=>[(1,.sl 1 Aa of),(2,Aa tenant),(7,.osl 1000),(10,.sl 3 A9 l),(11,Aa l.length),(12,Aa j)]) (fun j=>[(1000,.row 3 A9 (V7 (l.take j) of tenant))]) [] U ?_
 intro j hj
 refine T ?_
 refine⟨fun h=>?_,fun h=>?_⟩
 ·have hlt:j<l.length:=by have:=of_decide_eq_true h;omega
  have hj0:((j:Nat):Int).toNat<l.length:=by simpa using hlt
  obtain ⟨x,hoo⟩:∃ x,l[j]=x:=⟨_,rfl⟩
  have e1:l[((j:Nat):Int).toNat]'hj0=x:=hoo
  have hs:=Agy of tenant l j hlt
  have hvl:=Akw of tenant (l.take j)
  rw[List.length_take]at hvl
  have hxb:=hl.bytes x (by rw[← hoo];exact List.getElem_mem hlt)
  rw[hoo]at hs
  have hv:=viewX.eq_1 of tenant x
  generalize viewX of tenant x=v at *
  clear h
  refine S ?_
  refine⟨E,by omega,hj0,?_⟩
  rw[e1]
  refine T ?_
  refine⟨fun h1=>?_,fun h1=>?_⟩
  ·have h1:=of_decide_eq_true h1
   refine T ?_
   refine⟨fun h2=>?_,fun h2=>?_⟩
   ·have h2:=of_decide_eq_true h2
    have hk:x.port.toNat<of.length:=by omega
    rw[Cg qn,Bool.true_and,Ao hk]at hv
    refine T ?_
    refine⟨fun h3=>?_,fun h3=>?_⟩
    ·rw[if_pos (decide_eq_true (by simpa using h3))]at hv
     subst hv
     refine T ?_
     refine C (Ix x.bytes qn) F63 ?_
     refine Xd (Ae Γ.toTy 43 rfl rfl rfl rfl rfl (.row rfl) (.lit (e:=A9) (l:=[⟨x.port,0,x.bytes⟩]) rfl rfl) (fun j hj=>by cases hj;decide) (by simp;omega) (by simp;omega)) ?_
     refine Aq [(1000,43)] hlt ⟨⟨E,E,E,E,E,E,E,E,E,E,E,E,Y⟩,⟨.inl (congrArg (Ob.row 3 A9) hs),E,Y⟩,E,E⟩
    ·rw[if_neg (by simpa using h3),]at hv
     subst hv
     rw[List.append_nil]at hs
     refine T ?_
     refine Aq [] hlt ⟨⟨E,E,E,E,E,E,E,E,E,E,E,E,Y⟩,⟨.inl (congrArg (Ob.row 3 A9) hs),E,Y⟩,E,E⟩
   ·rw[Cn (by have:=of_decide_eq_false h2;omega),Bool.false_and,if_neg za]at hv
    subst hv
    rw[List.append_nil]at hs
    refine T ?_
    refine Aq [] hlt ⟨⟨E,E,E,E,E,E,E,E,E,E,E,E,Y⟩,⟨.inl (congrArg (Ob.row 3 A9) hs),E,Y⟩,E,E⟩
  ·rw[Cn (by have:=of_decide_eq_false h1;omega),Bool.false_and,if_neg za]at hv
   subst hv
   rw[List.append_nil]at hs
   refine T ?_
   refine Aq [] hlt ⟨⟨E,E,E,E,E,E,E,E,E,E,E,E,Y⟩,⟨.inl (congrArg (Ob.row 3 A9) hs),E,Y⟩,E,E⟩
 ·have hjj:j=l.length:=by have:=of_decide_eq_false h;omega
  subst hjj
  rw[List.take_length]
  refine T ?_
  refine As 1000 E ?_
  exact D
def great34B (n:Net) (tabs:List (List EntryM)) (l:List StepM):Bool:=Hb n || great33B l || decide (60<tabs.length) || tabs.any fun t=>decide (60<t.length)
theorem Aae {n:Net} {tabs:List (List EntryM)} {l:List StepM} (h:great34B n tabs l=false):Hb n=false∧great33B l=false∧tabs.length≤60∧∀ t∈tabs,t.length≤60:=by
 unfold great34B at h
 simp only[Bool.or_eq_false_iff,decide_eq_false_iff_not,List.any_eq_false,decide_eq_true_eq]at h
 exact⟨h.1.1.1,h.1.1.2,by omega,fun t ht=>by have:=h.2 t ht;omega⟩
theorem Apq (n:Net) (tabs:List (List EntryM)) (l:List StepM):Sy.Spec Tryz.prog 26 [Ap n,.sl 1 C7 tabs,.sl 6 Bu l] [] (Ad (great34B n tabs l)) []:=Ab Γ hm 100 F26 Tryz.ntmps26 rfl fun F hF=>by
 have hres:=great34B.eq_1 n tabs l
 generalize great34B n tabs l=res at *
 have q1:=greatS n
 have q2:=Apr l
 generalize Hb n=a at *
 generalize great33B l=b at *
 refine T ?_
 refine C q1 F10 ?_
 cases a
 rotate_left
 ·simp only[Bool.true_or]at hres
  subst hres
  refine T ?_
  exact D
 refine T ?_
 refine C q2 F11 ?_
 cases b
 rotate_left
 ·simp only[Bool.true_or,Bool.or_true]at hres
  subst hres
  refine T ?_
  exact D
 simp only[Bool.false_or]at hres
 refine T ?_
 refine⟨fun h=>?_,fun h=>?_⟩
 ·rw[decide_eq_true (by have:=of_decide_eq_true h;omega),Bool.true_or]at hres
  subst hres
  refine T ?_
  exact D
 have h1:=of_decide_eq_false h
 rw[decide_eq_false qn,Bool.false_or]at hres
 refine T ?_
 refine A2 tabs.length (fun j=>Dd (fun _ t=>!(decide (60<t.length))) tabs j) (fun j=>[(1,.sl 1 C7 tabs),(7,Aa j)]) (fun _=>[]) [] (A5 _ _) U ?_
 intro j hj hI
 refine T ?_
 refine⟨fun h=>?_,fun h=>?_⟩
 ·have hlt:j<tabs.length:=by have:=of_decide_eq_true h;omega
  have hj0:((j:Nat):Int).toNat<tabs.length:=by simpa using hlt
  have hat:=fun h=>@any_at3 _ (fun t:List EntryM=>decide (60<t.length)) tabs j hlt h
  have hnx:=fun h=>A3 (p:=fun _ (t:List EntryM)=>!(decide (60<t.length))) hI hlt h
  obtain ⟨x,hx⟩:∃ x,tabs[((j:Nat):Int).toNat]'hj0=x:=⟨_,rfl⟩
  have hx':tabs[j]=x:=hx
  rw[hx']at hat hnx
  refine S ?_
  refine⟨E,by omega,hj0,?_⟩
  rw[hx]
  refine T ?_
  refine⟨fun h=>?_,fun h=>?_⟩
  ·rw[hat (decide_eq_true (by have:=of_decide_eq_true h;omega))]at hres
   subst hres
   refine T ?_
   exact D
  ·have hn:=hnx (by rw[decide_eq_false (by have:=of_decide_eq_false h;omega)];rfl)
   refine T ?_
   refine Aw [] hI hlt hn ?_
   exact U
 ·rw[Ab3 hI (by have:=of_decide_eq_false h;omega)]at hres
  subst hres
  refine T ?_
  exact D
def stepsW34:List StepM:=[⟨1,0,0,0,[],[]⟩,⟨1,1,0,0,[],[]⟩,⟨4,0,0,0,[],[]⟩]
theorem redW34:reduceT netW33 [0,1] [] stepsW34 1=([⟨1,1,0,0,[],[]⟩,⟨4,0,0,0,[],[]⟩],0):=by kernel_rfl
theorem Arc:reduceT netW33 [] [] [] 1=([],2):=by kernel_rfl
theorem Aqx:V7 [⟨0,3,[]⟩,⟨1,3,[]⟩] [0,1] 1=[⟨1,0,[]⟩]:=by kernel_rfl
theorem scriptW34:ScriptOK stepsW34∧∀ x∈stepsW34,x.up.length<100000:=by
 refine⟨⟨by decide,fun x hx=>?_⟩,fun x hx=>?_⟩
 all_goals
  simp only[stepsW34,List.mem_cons,List.not_mem_nil,or_false]at hx
  rcases hx with rfl | rfl | rfl<;>decide
theorem Aec:TabsOK []:=⟨by decide,fun t h=>(by cases h),fun t h=>(by cases h)⟩
theorem script_nil:ScriptOK []∧∀ x∈([]:List StepM),x.up.length<100000:=⟨⟨by decide,fun x h=>(by cases h)⟩,fun x h=>(by cases h)⟩
theorem An5:SeensOK [⟨0,3,[]⟩,⟨1,3,[]⟩]:=by
 refine⟨by decide,fun x hx=>?_⟩
 simp only[List.mem_cons,List.not_mem_nil,or_false]at hx
 rcases hx with rfl | rfl<;>decide
theorem M6:Sy.Spec Tryz.prog 23 [] [] (Ad true) []:=Ab Γ hm 100 F23 Tryz.ntmps23 rfl fun F hF=>by
 have q1:=Mc netW33 Apz Aoy [0,1] [] Aec stepsW34 scriptW34.1 scriptW34.2 1
 have q2:=Mc netW33 Apz Aoy [] [] Aec [] script_nil.1 script_nil.2 1
 have q3:=Ag3 [⟨0,3,[]⟩,⟨1,3,[]⟩] An5 [0,1] 1
 rw[redW34]at q1
 rw[Arc]at q2
 rw[Aqx]at q3
 have q1:=q1.view (A':=[Ap netW33,.sl 1 Aa [0,1],.val (.slice none 0 0),.sl 6 Bu stepsW34,Aa 1]) fun κ w=>Ko (fun _ h=>h) (Ko (fun _ h=>h) (Ko (fun _=>Q2) (fun _ h=>h)))
 have q2:=q2.view (A':=[Ap netW33,.val (.slice none 0 0),.val (.slice none 0 0),.val (.slice none 0 0),Aa 1]) fun κ w=>Ko (fun _ h=>h) (Ko (fun _=>Q2) (Ko (fun _=>Q2) (Ko (fun _=>Q2) (fun _ h=>h))))
 refine T ?_
 refine Dm 8 Bt netW33.devices E E ?_
 refine As 8 E ?_
 refine Mw 11 (netW33.ports.map Bj) E (.cons (.agg (.cons (.refl _) (.cons (.refl _) (.cons (.refl _) (.cons (.refl _) (.cons (.refl _) (.cons (.refl _) (.cons .nil .nil)))))))) (.cons (.agg (.cons (.refl _) (.cons (.refl _) (.cons (.refl _) (.cons (.refl _) (.cons (.refl _) (.cons (.refl _) (.cons .nil .nil)))))))) .nil)) E ?_
 refine Dm 11 Bj netW33.ports E E ?_
 refine As 11 E ?_
 refine Mw 13 (netW33.domains.map A1) E (.cons (.agg (.cons (.refl _) (.cons (.refl _) (.cons (.refl _) (.cons (.refl _) (.cons (.refl _) (.cons .nil .nil))))))) .nil) E ?_
 refine Dm 13 A1 netW33.domains E E ?_
 refine As 13 E ?_
 refine Av 1 (Z8 netW33) E (.cons (.refl _) (.cons (.refl _) (.cons .nil (.cons (.refl _) (.cons .nil (.cons .nil (.cons .nil (.cons .nil .nil)))))))) ?_
 refine Dm 17 Aa [0,1] E E ?_
 refine As 17 E ?_
 refine Mw 21 (stepsW34.map Bu) E (.cons (.agg (.cons (.refl _) (.cons (.refl _) (.cons (.refl _) (.cons (.refl _) (.cons .nil (.cons .nil .nil))))))) (.cons (.agg (.cons (.refl _) (.cons (.refl _) (.cons (.refl _) (.cons (.refl _) (.cons .nil (.cons .nil .nil))))))) (.cons (.agg (.cons (.refl _) (.cons (.refl _) (.cons (.refl _) (.cons (.refl _) (.cons .nil (.cons .nil .nil))))))) .nil))) E ?_
 refine Dm 21 Bu stepsW34 E E ?_
 refine As 21 E ?_
 refine G_vw 16 (Ap netW33) (.agg (.cons (.refl _) (.cons (.refl _) (.cons .nil (.cons (.refl _) (.cons .nil (.cons .nil (.cons .nil (.cons .nil .nil))))))))) ?_
 refine C q1 F27 ?_
 refine C q2 F27 ?_
 refine Mw 32 ([⟨0,3,[]⟩,⟨1,3,[]⟩].map A9) E (.cons (.agg (.cons (.refl _) (.cons (.refl _) (.cons .nil .nil)))) (.cons (.agg (.cons (.refl _) (.cons (.refl _) (.cons .nil .nil)))) .nil)) E ?_
 refine Dm 32 A9 [⟨0,3,[]⟩,⟨1,3,[]⟩] E E ?_
 refine As 32 E ?_
 refine Dm 33 Aa [0,1] E E ?_
 refine As 33 E ?_
 refine C q3 F24 ?_
 exact D
theorem Aex (n:Net) (hn:n.Fin) (of:List Int):Sy.Spec Tryz.prog 69 [Ap n,.sl 1 Aa of] [] (Ad (Ic n of)) []:=Ab Γ hm 100 F69 Tryz.ntmps69 rfl fun F hF=>by
 have hres:=Yt n of
 generalize Ic n of=res at *
 have qr:=Dq n hn
 have hps:=hn.ports
 unfold Ar at hps
 have hpl:=fun (h:Ag n=true) i hi=>Dy (n:=n) h (i:=i) hi
 generalize Ag n=nr at *
 refine T ?_
 refine⟨fun h=>?_,fun h=>?_⟩
 ·rw[decide_eq_false (show ¬ of.length=n.ports.length by simp at h;omega),Bool.false_and,Bool.false_and]at hres
  subst hres
  refine T ?_
  exact D
 have hlen:of.length=n.ports.length:=by simp at h;omega
 rw[decide_eq_true hlen,Bool.true_and]at hres
 refine T ?_
 refine C qr F74 ?_
 cases nr
 ·rw[Bool.false_and]at hres
  subst hres
  refine T ?_
  exact D
 rw[Bool.true_and]at hres
 have hpl:=hpl rfl
 refine T ?_
 refine A2 of.length (fun j=>∀ i,i<j→ownAt n of i=true) (fun j=>[(1,.sl 1 Aa of),(2,.ptr 2 0),(5,Aa j)]) (fun _=>[(2,.box (Z8 n))]) [] (fun i hi=>absurd hi (Nat.not_lt_zero i)) U ?_
 intro j hj hI
 refine T ?_
 refine⟨fun h=>?_,fun h=>?_⟩
 ·have hlt:j<of.length:=by have:=of_decide_eq_true h;omega
  have hj0:((j:Nat):Int).toNat<of.length:=by simpa using hlt
  have hj1:((j:Nat):Int).toNat<n.ports.length:=by rw[← hlen];exact hj0
  have hat:=ownAt.eq_1 n of j
  rw[Ao hj1,Ao hj0]at hat
  have hlk:=hpl _ hj1
  obtain ⟨w,hw⟩:∃ w,of[((j:Nat):Int).toNat]'hj0=w:=⟨_,rfl⟩
  obtain ⟨p,hp⟩:∃ p,n.ports[((j:Nat):Int).toNat]'hj1=p:=⟨_,rfl⟩
  rw[hw,hp]at hat
  rw[hp]at hlk
  have bad:ownAt n of j=false→res=false:=fun hb=>by rw[hres];exact Aa4 hlt hb
  have good:ownAt n of j=true→∀ i,i<j+1→ownAt n of i=true:=fun hb i hi=>by
   by_cases he:i=j
   ·subst he;exact hb
   ·exact hI i qn
  generalize ownAt n of j=g at *
  clear h
  refine S ?_
  refine⟨E,by omega,hj1,?_⟩
  rw[hp]
  by_cases hl:p.link<0
  ·rw[if_pos hl,← Bool.decide_and]at hat
   refine S ?_
   refine⟨E,by omega,hj1,?_⟩
   rw[hp]
   refine S ?_
   refine⟨E,by omega,hj0,?_⟩
   rw[hw]
   refine S ?_
   refine⟨fun h2=>?_,fun h2=>?_⟩
   ·have hr:=bad (by rw[hat];exact decide_eq_false (by have:=of_decide_eq_true h2;omega))
    subst hr
    refine T ?_
    exact D
   refine S ?_
   refine⟨E,by omega,hj0,?_⟩
   rw[hw]
   refine S ?_
   refine⟨fun h3=>?_,fun h3=>?_⟩
   ·have hr:=bad (by rw[hat];exact decide_eq_false (by have:=of_decide_eq_true h3;omega))
    subst hr
    refine T ?_
    exact D
   have hx:=good (by rw[hat];exact decide_eq_true (by have:=of_decide_eq_false h2;have:=of_decide_eq_false h3;omega))
   refine T ?_
   refine Aw [] hI hlt hx ?_
   exact U
  ·rw[if_neg hl]at hat
   refine S ?_
   refine⟨E,by omega,hj0,?_⟩
   rw[hw]
   refine S ?_
   refine⟨fun h2=>?_,fun h2=>?_⟩
   ·have hr:=bad (by rw[hat];simp at h2;simp;omega)
    subst hr
    refine T ?_
    exact D
   ·have hx:=good (by rw[hat];simp at h2;simp;omega)
    refine S ?_
    refine⟨E,by omega,hj1,?_⟩
    rw[hp]
    refine T ?_
    refine Aw [] hI hlt hx ?_
    exact U
 ·have hjj:j=of.length:=by have:=of_decide_eq_false h;omega
  subst hjj
  have hr:res=true:=by rw[hres];exact Aa5 hI
  subst hr
  refine T ?_
  exact D
theorem Yv {n:Net} {tabs:List (List EntryM)} (h:TabsOK tabs) (m:MacM) (hm:MacOK n m 0 0):∀ j,n.domains.length≤j→j≤tabs.length→∀ k,j+k≤tabs.length→Dg m tabs (j+k)=Dg m tabs j
 | j,h1,h2,0,_=>rfl
 | j,h1,h2,k+1,hk=>by
  rw[show j+(k+1)=(j+k)+1 by omega,S8 (n:=n) h m (j+k) qn,Aba,Yv h m hm j h1 h2 k qn]
  rw[(Jc hm h.ok (j+k)).ques]
  omega
theorem Sb (n:Net) (hn:n.Fin) (tabs:List (List EntryM)) (hok:okB n (M7 n)=false) :
  Sy.Spec Tryz.prog 68 [Ap n,.sl 1 C7 tabs] [] (.tup [.val (.pointer none),Aa 2]) []:=Ab Γ hm 100 F68 Tryz.ntmps68 rfl fun F hF=>by
 refine T ?_
 refine C (Ajd n hn hok) F14 ?_
 exact D
theorem X8 (n:Net) (hn:n.Fin) (tabs:List (List EntryM)) (ht:TabsOK tabs) (hok:okB n (M7 n)=true) :
  Sy.Spec Tryz.prog 68 [Ap n,.sl 1 C7 tabs] [] (.tup [.ptr 0 0,Aa 0]) (Ep n (Cs n tabs)):=Ab Γ hm 100 F68 Tryz.ntmps68 rfl fun F hF=>by
 have q1:=Ar5 n hn hok
 have hn0:=Qt n
 unfold Cs
 generalize newT n=m0 at *
 have htl:=ht.few
 refine T ?_
 refine X (Ak [(0,800),(902,812),(903,813)] E F14 q1 E W E V) ?_
 refine At tabs.length (fun j=>[(1,.sl 1 C7 tabs),(6,.ptr 0 0),(8,Aa j)]) (fun j=>[(0,.box (Im n (Dg m0 tabs j).up (Dg m0 tabs j).now (Dg m0 tabs j).injected (Dg m0 tabs j).drops)),(902,.row 1 C7 (Dg m0 tabs j).tables),(903,.row 1 I8 (Dg m0 tabs j).queues)]) [(0,800),(902,812),(903,813)] U ?_
 intro j hj
 have hok0:=Jc hn0 ht.ok j
 have hstop:=Yv ht m0 hn0 j
 refine T ?_
 refine⟨fun h=>?_,fun h=>?_⟩
 ·have hlt:j<tabs.length:=by have:=of_decide_eq_true h;omega
  have hj0:((j:Nat):Int).toNat<tabs.length:=by simpa using hlt
  obtain ⟨t,hoo⟩:∃ t,tabs[j]=t:=⟨_,rfl⟩
  have e1:tabs[((j:Nat):Int).toNat]'hj0=t:=hoo
  have hs:=S8 (n:=n) ht m0 j hlt
  rw[hoo]at hs
  have hti:=ht.ok t (by rw[← hoo];exact List.getElem_mem hlt)
  have htt:=ht.tab t (by rw[← hoo];exact List.getElem_mem hlt)
  have hto:=Xx hti.1 htt
  have q2:=Kv t hto.short hto.mac
  have htq:(Dg m0 tabs j).tables.length=(Dg m0 tabs j).queues.length:=by rw[hok0.tabs,hok0.ques]
  have hdt:=hok0.tabs
  rw[loadT]at hs
  refine T ?_
  refine⟨fun h2=>?_,fun h2=>?_⟩
  ·have hjt:j<(Dg m0 tabs j).tables.length:=by have:=of_decide_eq_true h2;omega
   have hj2:((j:Nat):Int).toNat<(Dg m0 tabs j).tables.length:=by simpa using hjt
   rw[show Al (j:Int) (Dg m0 tabs j).queues.length=true from Cg ⟨by omega,by rw[← htq];omega⟩]at hs
   generalize tableB t=tb at *
   clear h h2
   refine S ?_
   refine⟨E,by omega,hj0,?_⟩
   rw[e1]
   refine T ?_
   refine C q2 F20 ?_
   cases tb
   ·rw[if_neg za]at hs
    refine T ?_
    refine Aq [] hlt ⟨⟨E,E,E,E,E,E,Y⟩,?_,E,E⟩
    dsimp only
    rw[hs]
    exact Uo
   rw[if_pos ⟨rfl,rfl⟩]at hs
   refine S ?_
   refine⟨E,by omega,hj0,?_⟩
   rw[e1]
   refine T ?_
   refine Xd (Good.dataT (Ae Γ.toTy 47 E E E E E (.lit (e:=Am) (l:=[]) E E) .sl za (by simp;omega) (by simp;omega))) ?_
   refine⟨t,E,E,?_⟩
   refine T ?_
   refine Aq [] hlt ⟨⟨E,E,E,E,E,E,Y⟩,?_,E,E⟩
   dsimp only
   rw[hs]
   exact Uo
  ·have hfin:=hstop (by have:=of_decide_eq_false h2;omega) hj (tabs.length-j) qn
   rw[show j+(tabs.length-j)=tabs.length by omega]at hfin
   rw[hfin]
   refine T ?_
   exact E0
 ·have hjj:j=tabs.length:=by have:=of_decide_eq_false h;omega
  subst hjj
  refine T ?_
  exact E0
theorem Aq8 (n:Net) (hn:n.Fin) (hm1:n.Num) (tabs:List (List EntryM)) (ht:TabsOK tabs) (l:List StepM) (hl:ScriptOK l) :
  Sy.Spec Tryz.prog 31 [Ap n,.sl 1 C7 tabs,.sl 6 Bu l] [] (.tup [.sl 3 A9 (runTabsT n tabs l).1,Aa (runTabsT n tabs l).2]) []:=Ab Γ hm 100 F31 Tryz.ntmps31 rfl fun F hF=>by
 have hres:=runTabsT.eq_1 n tabs l
 generalize runTabsT n tabs l=res at *
 have hlen:=hl.few
 cases hok:okB n (M7 n)
 ·rw[if_neg (by rw[hok];simp)]at hres
  subst hres
  refine T ?_
  refine C (Sb n hn tabs hok) F68 ?_
  refine An 6 3 A9 E ?_
  exact D
 ·rw[if_pos hok]at hres
  subst hres
  have hrt:=(ok_iff.1 hok).2.1
  have q1:=X8 n hn tabs ht hok
  have hn0:MacOK n (Cs n tabs) 0 0:=Jc (Qt n) ht.ok _
  generalize Cs n tabs=m0 at *
  refine T ?_
  refine X (Ak [(0,800),(902,812),(903,813)] E F68 q1 E W E V) ?_
  refine Bm 10 1000 3 A9 E E ?_
  refine At l.length (fun j=>[(2,.sl 6 Bu l),(8,.ptr 0 0),(10,.osl 1000),(11,Aa j)]) (fun j=>[(0,.box (Im n (B0 n m0 (l.take j)).1.up (B0 n m0 (l.take j)).1.now (B0 n m0 (l.take j)).1.injected (B0 n m0 (l.take j)).1.drops)),(902,.row 1 C7 (B0 n m0 (l.take j)).1.tables),(903,.row 1 I8 (B0 n m0 (l.take j)).1.queues),(1000,.row 3 A9 (B0 n m0 (l.take j)).2)]) [(0,800),(902,812),(903,813)] U ?_
  intro j hj
  refine T ?_
  refine⟨fun h=>?_,fun h=>?_⟩
  ·have hlt:j<l.length:=by have:=of_decide_eq_true h;omega
   have hj0:((j:Nat):Int).toNat<l.length:=by simpa using hlt
   obtain ⟨x,hoo⟩:∃ x,l[j]=x:=⟨_,rfl⟩
   have e1:l[((j:Nat):Int).toNat]'hj0=x:=hoo
   have hs:=Qn n m0 l j hlt
   rw[hoo]at hs
   have hxb:=hl.bytes x (by rw[← hoo];exact List.getElem_mem hlt)
   have hjo:=T4 hn hm1 (l.take j) hn0 (Int.le_refl _) (Int.le_refl _)
   have hjl:(l.take j).length=j:=by rw[List.length_take];omega
   have hjf:=T5 hn (l.take j) m0
   rw[hjl]at hjo hjf
   have q5:=Ap8 n hn hm1 hrt (B0 n m0 (l.take j)).1 _ _ hjo qn qn qn x qn
   have hfw:=Adk hn (B0 n m0 (l.take j)).1 x
   have g1:(B0 n m0 (l.take (j+1))).1=(doT n (B0 n m0 (l.take j)).1 x).1:=by rw[hs]
   have g2:(B0 n m0 (l.take (j+1))).2=(B0 n m0 (l.take j)).2++(doT n (B0 n m0 (l.take j)).1 x).2:=by rw[hs]
   clear h
   refine S ?_
   refine⟨E,by omega,hj0,?_⟩
   rw[e1]
   refine T ?_
   refine X (Ak [] E F15 q5 E W E V) ?_
   refine X (Ae Γ.toTy 34 E E E E E (.row E) .sl za qn qn) ?_
   refine Aq [(1000,34)] hlt ⟨⟨E,E,E,E,E,E,E,E,Y⟩,?_,E,E⟩
   dsimp only
   rw[g1,g2]
   exact Uo
  ·have hjj:j=l.length:=by have:=of_decide_eq_false h;omega
   subst hjj
   rw[List.take_length]
   refine T ?_
   refine As 1000 E ?_
   exact D
theorem Aj1 (by_:List Int) (origin tenant:Int) (ho:I64 (origin-1)) :
  Sy.Spec Tryz.prog 71 [.sl 1 Aa by_,Aa origin,Aa tenant] [] (Ad (ownB by_ tenant origin)) []:=Ab Γ hm 100 F71 Tryz.ntmps71 rfl fun F hF=>by
 have hres:=ownB.eq_1 by_ tenant origin
 generalize ownB by_ tenant origin=res at *
 have q:=A6 (origin-1) by_.length
 unfold I64 at ho
 refine T ?_
 refine C q F35 ?_
 cases hp:Al (origin-1) by_.length
 ·rw[hp,Bool.false_and]at hres
  subst hres
  refine T ?_
  exact D
 ·have hpi:=Bd hp
  have hk:(origin-1).toNat<by_.length:=by omega
  rw[hp,Bool.true_and,Ao hk]at hres
  subst hres
  refine T ?_
  exact D
def Asp (n:Net) (m:MacM) (by_:List Int) (out:List StepM):Obs :=
 [(0,.box (Im n m.up m.now m.injected m.drops)),(902,.row 1 C7 m.tables),(903,.row 1 I8 m.queues),(5,.box (Z8 n)),(1001,.row 1 Aa by_),(1000,.row 6 Bu out)]
def stepL (x:StepM) (at_:Int):List SV:=[Aa x.kind,Aa x.port,Aa x.domain,Aa at_,.sl 1 Aj x.bytes,.sl 1 Ad x.up]
theorem Agt (l:List QueuedM) (by_:List Int) (tenant:Int) (k:Nat) (hk:k<l.length):Hw l by_ tenant ((k+1:Nat):Int)=Hw l by_ tenant (k:Int)+(if ownB by_ tenant l[k].origin then 1 else 0):=by
 unfold Hw
 rw[Int.toNat_natCast,Int.toNat_natCast,Wy _ _ _ hk]
 split<;>simp
theorem Aek {n:Net}:∀ (l:List StepM) {m:MacM},D6 m→D6 (B0 n m l).1
 | [],m,h=>h
 | x::l,m,h=>by
  rw[B0]
  exact Aek l (Ar6 (n:=n) h x).1
theorem Ank {l:List QueuedM} {at_:Int} (h:at_.toNat<l.length) (h0:0≤at_):takeT l at_=(l[at_.toNat],l.eraseIdx at_.toNat,true):=by
 unfold takeT
 rw[if_neg qn,List.getElem?_eq_getElem h]
 rfl
theorem Akx {l:List QueuedM} {at_:Int} (h:Al at_ l.length=false):takeT l at_=(noQ,l,false):=by
 unfold takeT
 rw[if_pos]
 by_cases h1:at_<0
 ·exact .inl h1
 ·by_cases h2:(l.length:Int)≤at_
  ·exact .inr h2
  ·rw[Cg ⟨by omega,by omega⟩]at h;cases h
theorem Ahi (n:Net) (hn:n.Fin) (hm1:n.Num) (of:List Int) (tabs:List (List EntryM)) (ht:TabsOK tabs) (l:List StepM) (hl:ScriptOK l) (tenant:Int) :
  Sy.Spec Tryz.prog 29 [Ap n,.sl 1 Aa of,.sl 1 C7 tabs,.sl 6 Bu l,Aa tenant] [] (.tup [.sl 6 Bu (reduceT n of tabs l tenant).1,Aa (reduceT n of tabs l tenant).2]) []:=Ab Γ hm 100 F29 Tryz.ntmps29 rfl fun F hF=>by
 have hres:=reduceT.eq_1 n of tabs l tenant
 generalize reduceT n of tabs l tenant=res at *
 have hlen:=hl.few
 cases hok:okB n (M7 n)
 ·rw[if_neg (by rw[hok];simp)]at hres
  subst hres
  refine T ?_
  refine C (Sb n hn tabs hok) F68 ?_
  refine An 10 6 Bu E ?_
  exact D
 have hrt:=(ok_iff.1 hok).2.1
 have q1:=X8 n hn tabs ht hok
 have q2:=Aex n hn of
 have hn0:MacOK n (Cs n tabs) 0 0:=Jc (Qt n) ht.ok _
 have ho0:D6 (Cs n tabs):=(Abb (Ao0 n) tabs tabs.length).1
 generalize Cs n tabs=m0 at *
 refine T ?_
 refine X (Ak [(0,800),(902,812),(903,813)] E F68 q1 E W E V) ?_
 refine C q2 F69 ?_
 cases how:Ic n of
 ·rw[if_neg (by rw[how];simp)]at hres
  subst hres
  refine T ?_
  refine An 10 6 Bu E ?_
  exact D
 rw[if_pos ⟨hok,how⟩]at hres
 subst hres
 have hoa:=Alz how
 refine T ?_
 refine Bm 15 1000 6 Bu E E ?_
 refine Bm 14 1001 1 Aa E E ?_
 refine At l.length (fun j=>[(1,.sl 1 Aa of),(3,.sl 6 Bu l),(4,Aa tenant),(5,.ptr 5 0),(12,.ptr 0 0),(14,.osl 1001),(15,.osl 1000),(16,Aa j)]) (fun j=>Asp n (B0 n m0 (l.take j)).1 (byL of [] (l.take j)) (Kr n of tenant m0 [] (l.take j))) [(0,800),(902,812),(903,813)] U ?_
 intro j hj
 refine T ?_
 refine⟨fun h=>?_,fun h=>?_⟩
 rotate_left
 ·have hjj:j=l.length:=by have:=of_decide_eq_false h;omega
  subst hjj
  rw[List.take_length]
  refine T ?_
  refine As 1000 E ?_
  exact D
 have hlt:j<l.length:=by have:=of_decide_eq_true h;omega
 have hj0:((j:Nat):Int).toNat<l.length:=by simpa using hlt
 obtain ⟨x,hoo⟩:∃ x,l[j]=x:=⟨_,rfl⟩
 have e1:l[((j:Nat):Int).toNat]'hj0=x:=hoo
 have hs:=Qn n m0 l j hlt
 have hbs:=Agn of [] l j hlt
 have hrs:=Aa3 n of tenant m0 [] l j hlt
 rw[hoo]at hs hbs hrs
 have hxb:=hl.bytes x (by rw[← hoo];exact List.getElem_mem hlt)
 have hjo:=T4 hn hm1 (l.take j) hn0 (Int.le_refl _) (Int.le_refl _)
 have hjr:=Aek (n:=n) (l.take j) ho0
 have hjl:(l.take j).length=j:=by rw[List.length_take];omega
 have hbl:=Adt of (l.take j) []
 have hrl:=Ud n of tenant (l.take j) m0 []
 rw[hjl]at hjo hbl hrl
 rw[List.length_nil]at hbl
 have q5:=Ap8 n hn hm1 hrt (B0 n m0 (l.take j)).1 _ _ hjo qn qn qn x qn
 have g1:(B0 n m0 (l.take (j+1))).1=(doT n (B0 n m0 (l.take j)).1 x).1:=by rw[hs]
 have hkl:=keepL.eq_1 of (byL of [] (l.take j)) tenant (B0 n m0 (l.take j)).1 x
 have hkt:=keepT.eq_1 of (byL of [] (l.take j)) tenant (B0 n m0 (l.take j)).1 x
 have hb1:=byStep.eq_1 of (byL of [] (l.take j)) x
 rw[← hbs]at hb1
 rw[hkl]at hrs
 clear h hs hbs hkl hoo
 refine S ?_
 refine⟨E,by omega,hj0,?_⟩
 rw[e1]
 by_cases hk1:x.kind=1
 ·have hpp:=A6 x.port of.length
  have hw:=hoa.2.2 x.port
  rw[if_pos hk1]at hkt hb1
  rw[hkt]at hrs
  unfold noteL ownerI at hb1
  unfold ownerI at hrs
  dsimp only at hrs
  cases hp:Al x.port of.length
  ·rw[hp]at hpp hrs hb1
   rw[if_neg za]at hb1
   rw[if_neg (show ¬ ((false=true)) by simp),if_neg (by simp;omega),List.append_nil]at hrs
   refine T ?_
   refine C hpp F35 ?_
   refine C hpp F35 ?_
   rw[e1]
   refine X (Ak [] E F15 q5 E W E V) ?_
   refine Aq [] hlt ⟨⟨E,E,E,E,E,E,E,E,E,E,E,E,E,E,E,E,Y⟩,?_,E,E⟩
   dsimp only
   rw[g1,hb1,hrs]
   exact Uo
  have hpi:=Bd hp
  have hw:=hw hp
  have hk:x.port.toNat<of.length:=by omega
  have hk2:x.port.toNat<n.ports.length:=by have:=hoa.1;omega
  have hlk:=Dy hrt hk2
  rw[Ao hk2,Ao hk]at hw
  rw[hp,if_pos rfl,Ao hk]at hb1 hrs
  rw[hp]at hpp
  have hkeep:(decide (of[x.port.toNat]'hk=tenant) && decide (0≤tenant))=true∨(of[x.port.toNat]'hk=tenant∧tenant<0)∨¬ of[x.port.toNat]'hk=tenant:=by
   by_cases h1:of[x.port.toNat]'hk=tenant
   ·by_cases h2:0≤tenant
    ·exact .inl (by rw[decide_eq_true h1,decide_eq_true h2];rfl)
    ·exact .inr (.inl ⟨h1,by omega⟩)
   ·exact .inr (.inr h1)
  have hlink:(n.ports[x.port.toNat]'hk2).link=-1∨0≤(n.ports[x.port.toNat]'hk2).link:=by omega
  refine T ?_
  refine C hpp F35 ?_
  rcases hlink with hlink | hlink
  ·rw[if_pos qn]at hw
   rw[if_pos hw.1]at hb1
   rcases hkeep with hkeep | ⟨hk3,hk4⟩ | hk3
   ·rw[if_pos hkeep]at hrs
    simp only[Bool.and_eq_true,decide_eq_true_eq]at hkeep
    obtain ⟨hk3,hk4⟩:=hkeep
    refine T ?_
    refine C hpp F35 ?_
    refine X (Ae Γ.toTy 91 rfl rfl rfl rfl rfl (.row rfl) (.lit (e:=Aa) (l:=[of[x.port.toNat]'hk]) rfl rfl) (fun j hj=>by cases hj;decide) (by simp;omega) (by simp;omega)) ?_
    refine X (Ae Γ.toTy 162 rfl rfl rfl rfl rfl (.row rfl) (.lit (e:=Bu) (l:=[x]) rfl rfl) (fun j hj=>by cases hj;decide) (by simp;omega) (by simp;omega)) ?_
    rw[e1]
    refine X (Ak [] E F15 q5 E W E V) ?_
    refine Aq [(1001,91),(1000,162)] hlt ⟨⟨E,E,E,E,E,E,E,E,E,E,E,E,E,E,E,E,Y⟩,?_,E,E⟩
    dsimp only
    rw[g1,hb1,hrs]
    exact Uo
   ·exact absurd hk4 qn
   ·rw[if_neg (by rw[decide_eq_false hk3,Bool.false_and];simp),List.append_nil]at hrs
    refine T ?_
    refine C hpp F35 ?_
    refine X (Ae Γ.toTy 91 rfl rfl rfl rfl rfl (.row rfl) (.lit (e:=Aa) (l:=[of[x.port.toNat]'hk]) rfl rfl) (fun j hj=>by cases hj;decide) (by simp;omega) (by simp;omega)) ?_
    rw[e1]
    refine X (Ak [] E F15 q5 E W E V) ?_
    refine Aq [(1001,91)] hlt ⟨⟨E,E,E,E,E,E,E,E,E,E,E,E,E,E,E,E,Y⟩,?_,E,E⟩
    dsimp only
    rw[g1,hb1,hrs]
    exact Uo
  ·rw[if_neg qn]at hw
   rw[if_neg qn]at hb1
   rcases hkeep with hkeep | ⟨hk3,hk4⟩ | hk3
   ·simp only[Bool.and_eq_true,decide_eq_true_eq]at hkeep
    omega
   ·rw[if_neg (by rw[decide_eq_false (show ¬ 0≤tenant by omega),Bool.and_false];simp),List.append_nil]at hrs
    refine T ?_
    refine C hpp F35 ?_
    rw[e1]
    refine X (Ak [] E F15 q5 E W E V) ?_
    refine Aq [] hlt ⟨⟨E,E,E,E,E,E,E,E,E,E,E,E,E,E,E,E,Y⟩,?_,E,E⟩
    dsimp only
    rw[g1,hb1,hrs]
    exact Uo
   ·rw[if_neg (by rw[decide_eq_false hk3,Bool.false_and];simp),List.append_nil]at hrs
    refine T ?_
    refine C hpp F35 ?_
    rw[e1]
    refine X (Ak [] E F15 q5 E W E V) ?_
    refine Aq [] hlt ⟨⟨E,E,E,E,E,E,E,E,E,E,E,E,E,E,E,E,Y⟩,?_,E,E⟩
    dsimp only
    rw[g1,hb1,hrs]
    exact Uo
 rw[if_neg hk1]at hkt hb1
 by_cases hk23:x.kind=2∨x.kind=3
 rotate_left
 ·rw[if_neg hk23]at hkt
  rw[hkt,if_pos rfl]at hrs
  refine T ?_
  refine X (Ae Γ.toTy 162 rfl rfl rfl rfl rfl (.row rfl) (.lit (e:=Bu) (l:=[x]) rfl rfl) (fun j hj=>by cases hj;decide) (by simp;omega) (by simp;omega)) ?_
  rw[e1]
  refine X (Ak [] E F15 q5 E W E V) ?_
  refine Aq [(1000,162)] hlt ⟨⟨E,E,E,E,E,E,E,E,E,E,E,E,E,E,E,E,Y⟩,?_,E,E⟩
  dsimp only
  rw[g1,hb1,hrs]
  exact Uo
 rw[if_pos hk23]at hkt
 have hpd:=A6 x.domain (B0 n m0 (l.take j)).1.queues.length
 cases hd:Al x.domain (B0 n m0 (l.take j)).1.queues.length
 ·have hqd:Kc (B0 n m0 (l.take j)).1 x.domain=[]:=by unfold Kc;rw[hd];rfl
  rw[hqd,show Al x.at_ ([]:List QueuedM).length=false from Cn za,Bool.false_and,if_neg za]at hkt
  rw[hkt,if_neg za,List.append_nil]at hrs
  rw[hd]at hpd
  rcases hk23 with hk2 | hk2
  all_goals
   refine T ?_
   refine C hpd F35 ?_
   rw[e1]
   refine X (Ak [] E F15 q5 E W E V) ?_
   refine Aq [] hlt ⟨⟨E,E,E,E,E,E,E,E,E,E,E,E,E,E,E,E,Y⟩,?_,E,E⟩
   dsimp only
   rw[g1,hb1,hrs]
   exact Uo
 have hdi:=Bd hd
 have hd0:x.domain.toNat<(B0 n m0 (l.take j)).1.queues.length:=by omega
 have hqd:Kc (B0 n m0 (l.take j)).1 x.domain=(B0 n m0 (l.take j)).1.queues[x.domain.toNat]'hd0:=by unfold Kc queueL;rw[hd,if_pos rfl,Jx hd0]
 rw[hqd]at hkt
 rw[hd]at hpd
 have hqo:=hjo.que _ (List.getElem_mem hd0)
 have hqr:=hjr.2 _ (List.getElem_mem hd0)
 have hinj:=hjo.inj
 have q6:=Yb ((B0 n m0 (l.take j)).1.queues[x.domain.toNat]'hd0) x.at_ (by have:=hqo.1;omega)
 obtain ⟨Q,hQ⟩:∃ Q,(B0 n m0 (l.take j)).1.queues[x.domain.toNat]'hd0=Q:=⟨_,rfl⟩
 rw[hQ]at hkt hqo hqr
 cases ha:Al x.at_ Q.length
 ·rw[ha,Bool.false_and,if_neg za]at hkt
  rw[hkt,if_neg za,List.append_nil]at hrs
  rw[hQ,Akx ha,← hQ]at q6
  rcases hk23 with hk2 | hk2
  all_goals
   refine T ?_
   refine C hpd F35 ?_
   refine C q6 F70 ?_
   rw[e1]
   refine X (Ak [] E F15 q5 E W E V) ?_
   refine Aq [] hlt ⟨⟨E,E,E,E,E,E,E,E,E,E,E,E,E,E,E,E,Y⟩,?_,E,E⟩
   dsimp only
   rw[g1,hb1,hrs]
   exact Uo
 have hai:=Bd ha
 have ha0:x.at_.toNat<Q.length:=by omega
 have hor:=hqr _ (List.getElem_mem ha0)
 rw[ha,Bool.true_and,List.getElem?_eq_getElem ha0,Option.getD_some]at hkt
 rw[hQ,Ank ha0 hai.1]at q6
 have q7:=Aj1 (byL of [] (l.take j)) (Q[x.at_.toNat]'ha0).origin tenant (by unfold I64;omega)
 generalize hw:ownB (byL of [] (l.take j)) tenant (Q[x.at_.toNat]'ha0).origin=w at *
 generalize Q[x.at_.toNat]'ha0=qq at *
 rw[← hQ]at q6
 cases w
 ·rw[if_neg za]at hkt
  rw[hkt,if_neg za,List.append_nil]at hrs
  rcases hk23 with hk2 | hk2
  all_goals
   refine T ?_
   refine C hpd F35 ?_
   refine C q6 F70 ?_
   refine Zu [1001] q7 F71 E (.cons (.row E E) (.cons (.refl _) (.cons (.refl _) .nil))) E E E ?_
   refine T ?_
   rw[e1]
   refine X (Ak [] E F15 q5 E W E V) ?_
   refine Aq [] hlt ⟨⟨E,E,E,E,E,E,E,E,E,E,E,E,E,E,E,E,Y⟩,?_,E,E⟩
   dsimp only
   rw[g1,hb1,hrs]
   exact Uo
 rw[if_pos rfl]at hkt
 rw[hkt,if_pos rfl]at hrs
 have hah:=So Q (byL of [] (l.take j)) tenant x.at_ hai.1
 have hql:=hqo.1
 have hfa:Hw Q (byL of [] (l.take j)) tenant ((x.at_.toNat:Nat):Int)=Hw Q (byL of [] (l.take j)) tenant x.at_:=by rw[Int.toNat_of_nonneg hai.1]
 rcases hk23 with hk2 | hk2
 all_goals
  refine T ?_
  refine C hpd F35 ?_
  refine C q6 F70 ?_
  refine Zu [1001] q7 F71 E (.cons (.row E E) (.cons (.refl _) (.cons (.refl _) .nil))) E E E ?_
  refine T ?_
  refine At x.at_.toNat (fun k=>[(1,.sl 1 Aa of),(3,.sl 6 Bu l),(4,Aa tenant),(5,.ptr 5 0),(12,.ptr 0 0),(14,.osl 1001),(15,.osl 1000),(16,Aa j),(17,.ptr 17 0),(18,.val (.bool true)),(22,Aa (Hw Q (byL of [] (l.take j)) tenant (k:Int))),(23,Aa k)]) (fun k=>Asp n (B0 n m0 (l.take j)).1 (byL of [] (l.take j)) (Kr n of tenant m0 [] (l.take j))++[(17,.box (stepL x x.at_))]) [] U ?_
  intro k hk
  refine T ?_
  refine⟨fun h=>?_,fun h=>?_⟩
  ·have hk3:k<x.at_.toNat:=by have:=of_decide_eq_true h;omega
   have hk0:((k:Nat):Int).toNat<((B0 n m0 (l.take j)).1.queues[x.domain.toNat]'hd0).length:=by rw[hQ];omega
   have hk1:k<Q.length:=by omega
   have hke:((B0 n m0 (l.take j)).1.queues[x.domain.toNat]'hd0)[((k:Nat):Int).toNat]'hk0=Q[k]'hk1:=by subst hQ;rfl
   have hoo:=hqr _ (List.getElem_mem hk1)
   have hstep:=Agt Q (byL of [] (l.take j)) tenant k hk1
   have hab:=So Q (byL of [] (l.take j)) tenant (k:Int) qn
   have q8:=Aj1 (byL of [] (l.take j)) (((B0 n m0 (l.take j)).1.queues[x.domain.toNat]'hd0)[((k:Nat):Int).toNat]'hk0).origin tenant (by rw[hke];unfold I64;omega)
   have hwk:ownB (byL of [] (l.take j)) tenant (((B0 n m0 (l.take j)).1.queues[x.domain.toNat]'hd0)[((k:Nat):Int).toNat]'hk0).origin=ownB (byL of [] (l.take j)) tenant (Q[k]'hk1).origin:=by rw[hke]
   rw[hwk]at q8
   generalize ownB (byL of [] (l.take j)) tenant (Q[k]'hk1).origin=wk at *
   clear h
   cases wk
   ·rw[if_neg za,Int.add_zero]at hstep
    refine T ?_
    refine Ads [1001] q8 F71 E (.cons (.row E E) (.cons (.refl _) (.cons (.refl _) .nil))) E qy E ?_
    refine T ?_
    refine Aq [] hk3 ⟨⟨E,E,E,E,E,E,E,E,E,E,E,E,E,E,E,E,E,E,E,E,congrArg Aa hstep,E,E,E,Y⟩,?_,E,E⟩
    exact Uo
   ·rw[if_pos rfl]at hstep
    refine T ?_
    refine Ads [1001] q8 F71 E (.cons (.row E E) (.cons (.refl _) (.cons (.refl _) .nil))) E qy E ?_
    refine T ?_
    refine Aq [] hk3 ⟨⟨E,E,E,E,E,E,E,E,E,E,E,E,E,E,E,E,E,E,E,E,congrArg Aa hstep,E,E,E,Y⟩,?_,E,E⟩
    exact Uo
  ·have hkk:k=x.at_.toNat:=by have:=of_decide_eq_false h;omega
   subst hkk
   rw[hfa]
   refine T ?_
   refine X (Ae Γ.toTy 162 rfl rfl rfl rfl rfl (.row rfl) (.lit (e:=Bu) (l:=[Aqh x (Hw Q (byL of [] (l.take j)) tenant x.at_)]) rfl rfl) (fun j hj=>by cases hj;decide) (by simp;omega) (by simp;omega)) ?_
   rw[e1]
   refine X (Ak [] E F15 q5 E W E V) ?_
   refine Aq [(1000,162)] hlt ⟨⟨E,E,E,E,E,E,E,E,E,E,E,E,E,E,E,E,Y⟩,?_,E,E⟩
   dsimp only
   rw[g1,hb1,hrs]
   exact Uo
theorem bytes_beq (b:ByteArray):(b == b)=true:=by
 show (b.data == b.data)=true
 simp
def StepShort (x:StepM):Prop:=x.up.length<100000
theorem Anu (l:List StepM) (hl:l.length<100000) (hs:∀ x∈l,StepShort x):Sy.Spec Tryz.prog 32 [.sl 6 Bu l,.sl 6 Bu l] [] (Ad true) []:=Ab Γ hm 100 F32 Tryz.ntmps32 rfl fun F hF=>by
 ((conv=>whnf);repeat((first|refine aF ?_|refine aT ?_);(first|refine rG Γ hm ?_|refine rD Γ hm qy ?_);conv=>whnf))
 refine⟨fun h=>False.elim (by simp at h),fun _=>?_⟩
 ((first|refine rG Γ hm ?_|refine rD Γ hm qy ?_);(conv=>whnf);repeat((first|refine aF ?_|refine aT ?_);(first|refine rG Γ hm ?_|refine rD Γ hm qy ?_);conv=>whnf))
 refine At l.length (fun j=>[(0,.sl 6 Bu l),(1,.sl 6 Bu l),(5,Aa j)]) (fun _=>[]) []
  ⟨⟨rfl,rfl,rfl,rfl,rfl,rfl,trivial⟩,trivial,rfl,rfl⟩ ?_
 intro j hj
 ((first|refine rG Γ hm ?_|refine rD Γ hm qy ?_);(conv=>whnf);repeat((first|refine aF ?_|refine aT ?_);(first|refine rG Γ hm ?_|refine rD Γ hm qy ?_);conv=>whnf))
 refine⟨fun h=>?_,fun h=>?_⟩
 ·have hlt:j<l.length:=by simpa using h
  obtain ⟨x,hx⟩:∃ x,l[(j:Int).toNat]'qn=x:=⟨_,rfl⟩
  have hxs:x.up.length<100000:=by rw[← hx];exact hs _ (List.getElem_mem _)
  ((first|refine rG Γ hm ?_|refine rD Γ hm qy ?_);(conv=>whnf);repeat((first|refine aF ?_|refine aT ?_);(first|refine rG Γ hm ?_|refine rD Γ hm qy ?_);conv=>whnf))
  refine⟨E,by omega,by omega,?_⟩
  rw[hx]
  ((conv=>whnf);repeat((first|refine aF ?_|refine aT ?_);(first|refine rG Γ hm ?_|refine rD Γ hm qy ?_);conv=>whnf))
  refine⟨E,by omega,by omega,?_⟩
  rw[hx]
  ((conv=>whnf);repeat((first|refine aF ?_|refine aT ?_);(first|refine rG Γ hm ?_|refine rD Γ hm qy ?_);conv=>whnf))
  refine⟨qy,?_⟩
  ((conv=>whnf);repeat((first|refine aF ?_|refine aT ?_);(first|refine rG Γ hm ?_|refine rD Γ hm qy ?_);conv=>whnf))
  refine⟨fun h=>False.elim (by simp at h),fun _=>?_⟩
  ((first|refine rG Γ hm ?_|refine rD Γ hm qy ?_);(conv=>whnf);repeat((first|refine aF ?_|refine aT ?_);(first|refine rG Γ hm ?_|refine rD Γ hm qy ?_);conv=>whnf))
  refine⟨fun h=>False.elim (by simp at h),fun _=>?_⟩
  ((first|refine rG Γ hm ?_|refine rD Γ hm qy ?_);(conv=>whnf);repeat((first|refine aF ?_|refine aT ?_);(first|refine rG Γ hm ?_|refine rD Γ hm qy ?_);conv=>whnf))
  refine⟨fun h=>False.elim (by simp at h),fun _=>?_⟩
  ((first|refine rG Γ hm ?_|refine rD Γ hm qy ?_);(conv=>whnf);repeat((first|refine aF ?_|refine aT ?_);(first|refine rG Γ hm ?_|refine rD Γ hm qy ?_);conv=>whnf))
  refine⟨fun h=>False.elim (by simp at h),fun _=>?_⟩
  ((first|refine rG Γ hm ?_|refine rD Γ hm qy ?_);(conv=>whnf);repeat((first|refine aF ?_|refine aT ?_);(first|refine rG Γ hm ?_|refine rD Γ hm qy ?_);conv=>whnf))
  refine Ai (E3 Γ.toTy (bs:=x.bytes) E E E E E E E .sl) E E ?_
  ((first|refine rG Γ hm ?_|refine rD Γ hm qy ?_);(conv=>whnf);repeat((first|refine aF ?_|refine aT ?_);(first|refine rG Γ hm ?_|refine rD Γ hm qy ?_);conv=>whnf))
  refine Ai (E3 Γ.toTy (bs:=x.bytes) E E E E E E E .sl) E E ?_
  ((first|refine rG Γ hm ?_|refine rD Γ hm qy ?_);(conv=>whnf);repeat((first|refine aF ?_|refine aT ?_);(first|refine rG Γ hm ?_|refine rD Γ hm qy ?_);conv=>whnf))
  refine⟨fun h=>False.elim (by simp[bytes_beq]at h),fun _=>?_⟩
  ((first|refine rG Γ hm ?_|refine rD Γ hm qy ?_);(conv=>whnf);repeat((first|refine aF ?_|refine aT ?_);(first|refine rG Γ hm ?_|refine rD Γ hm qy ?_);conv=>whnf))
  refine⟨fun h=>False.elim (by simp at h),fun _=>?_⟩
  ((first|refine rG Γ hm ?_|refine rD Γ hm qy ?_);(conv=>whnf);repeat((first|refine aF ?_|refine aT ?_);(first|refine rG Γ hm ?_|refine rD Γ hm qy ?_);conv=>whnf))
  refine At x.up.length (fun k=>[(0,.sl 6 Bu l),(1,.sl 6 Bu l),(5,Aa j),(6,.ptr 6 0),(7,.ptr 7 0),(8,Aa k)]) (fun _=>[(6,.box [Aa x.kind,Aa x.port,Aa x.domain,Aa x.at_,.sl 1 Aj x.bytes,.sl 1 Ad x.up]),(7,.box [Aa x.kind,Aa x.port,Aa x.domain,Aa x.at_,.sl 1 Aj x.bytes,.sl 1 Ad x.up])]) []
   ⟨⟨rfl,rfl,rfl,rfl,rfl,rfl,rfl,rfl,rfl,rfl,rfl,rfl,trivial⟩,⟨.inl rfl,rfl,.inl rfl,rfl,trivial⟩,rfl,rfl⟩ ?_
  intro k hk
  ((first|refine rG Γ hm ?_|refine rD Γ hm qy ?_);(conv=>whnf);repeat((first|refine aF ?_|refine aT ?_);(first|refine rG Γ hm ?_|refine rD Γ hm qy ?_);conv=>whnf))
  refine⟨fun h=>?_,fun h=>?_⟩
  ·have hlt2:k<x.up.length:=by simpa using h
   obtain ⟨b,hb⟩:∃ b,x.up[(k:Int).toNat]'qn=b:=⟨_,rfl⟩
   ((first|refine rG Γ hm ?_|refine rD Γ hm qy ?_);(conv=>whnf);repeat((first|refine aF ?_|refine aT ?_);(first|refine rG Γ hm ?_|refine rD Γ hm qy ?_);conv=>whnf))
   refine⟨E,by omega,by omega,?_⟩
   rw[hb]
   ((conv=>whnf);repeat((first|refine aF ?_|refine aT ?_);(first|refine rG Γ hm ?_|refine rD Γ hm qy ?_);conv=>whnf))
   refine⟨E,by omega,by omega,?_⟩
   rw[hb]
   ((conv=>whnf);repeat((first|refine aF ?_|refine aT ?_);(first|refine rG Γ hm ?_|refine rD Γ hm qy ?_);conv=>whnf))
   refine⟨qy,?_⟩
   ((conv=>whnf);repeat((first|refine aF ?_|refine aT ?_);(first|refine rG Γ hm ?_|refine rD Γ hm qy ?_);conv=>whnf))
   refine⟨fun h=>False.elim (by simp at h),fun _=>?_⟩
   ((first|refine rG Γ hm ?_|refine rD Γ hm qy ?_);(conv=>whnf);repeat((first|refine aF ?_|refine aT ?_);(first|refine rG Γ hm ?_|refine rD Γ hm qy ?_);conv=>whnf))
   refine⟨by unfold I64;omega,?_⟩
   ((conv=>whnf);repeat((first|refine aF ?_|refine aT ?_);(first|refine rG Γ hm ?_|refine rD Γ hm qy ?_);conv=>whnf))
   exact Aq [] hlt2 ⟨⟨E,E,E,E,E,E,E,E,E,E,E,E,Y⟩,⟨.inl E,E,.inl E,E,Y⟩,E,E⟩
  ·((first|refine rG Γ hm ?_|refine rD Γ hm qy ?_);(conv=>whnf);repeat((first|refine aF ?_|refine aT ?_);(first|refine rG Γ hm ?_|refine rD Γ hm qy ?_);conv=>whnf))
   refine⟨by unfold I64;omega,?_⟩
   ((conv=>whnf);repeat((first|refine aF ?_|refine aT ?_);(first|refine rG Γ hm ?_|refine rD Γ hm qy ?_);conv=>whnf))
   exact Aq [] hlt ⟨⟨E,E,E,E,E,E,Y⟩,Y,E,E⟩
 ·((first|refine rG Γ hm ?_|refine rD Γ hm qy ?_);(conv=>whnf);repeat((first|refine aF ?_|refine aT ?_);(first|refine rG Γ hm ?_|refine rD Γ hm qy ?_);conv=>whnf))
  exact Ac E (.cons .tmp .nil) E E
theorem Z0 (n:Net) (hin:n.In) (of:List Int) (tabs:List (List EntryM)) (htabs:Ajr tabs) (l:List StepM) (tenant:Int) :
  Sy.Spec Tryz.prog 8 [Ap n,.sl 1 Aa of,.sl 1 C7 tabs,.sl 6 Bu l,Aa tenant] [] (Ad true) []:=Ab Γ hm 100 F8 Tryz.ntmps8 rfl fun F hF=>by
 have hm1:=Al9 hin
 have q1:=Apq n tabs l
 refine T ?_
 cases hg:great34B n tabs l
 rotate_left
 ·rw[hg]at q1
  refine C q1 F26 ?_
  refine C M6 F23 ?_
  exact D
 rw[hg]at q1
 have hgf:=Aae hg
 have hn:=Adf hgf.1
 have hf:=Aaf hgf.2.1
 have hsc:ScriptOK l:=⟨hf.1,fun x hx=>(hf.2 x hx).1⟩
 have hu:∀ x∈l,x.up.length<100000:=fun x hx=>by have:=(hf.2 x hx).2;omega
 have ht:TabsOK tabs:=⟨hgf.2.2.1,hgf.2.2.2,htabs⟩
 have hlen:=hsc.few
 refine C q1 F26 ?_
 refine⟨fun h=>?_,fun h=>?_⟩
 ·refine T ?_
  refine C M6 F23 ?_
  exact D
 clear h q1
 have q2:=Mc n hn hm1 of tabs ht l hsc hu tenant
 have q3:=Ahi n hn hm1 of tabs ht l hsc tenant
 have q4:=Ak4 n hn hm1 tabs ht l hsc
 have q5:=Aq8 n hn hm1 tabs ht l hsc
 have r2:=reduceT.eq_1 n of tabs l tenant
 have r3:=runTabsT.eq_1 n tabs l
 have hrl:=Ud n of tenant l (Cs n tabs) []
 have hrm:=Ae3 n of tenant l (Cs n tabs) []
 have hfw:=T5 hn l (Cs n tabs)
 have hru:∀ y∈Kr n of tenant (Cs n tabs) [] l,StepShort y:=fun y hy=>by
  obtain ⟨x,hx,_,e⟩:=hrm y hy
  have:=hu x hx
  unfold StepShort
  rw[e];exact this
 have q6:=Anu (Kr n of tenant (Cs n tabs) [] l) qn hru
 have q7:=Ya (B0 n (Cs n tabs) l).2 qn
 have q8:=Anu [] qz (fun x h=>by cases h)
 have q9:=Ya [] qz
 clear hru hrm hrl hfw hu hf hgf hg
 generalize Kr n of tenant (Cs n tabs) [] l=rl at *
 generalize (B0 n (Cs n tabs) l).2=sl at *
 cases hok:okB n (M7 n)
 ·rw[if_neg (by rw[hok];simp)]at r2 r3
  rw[r2]at q2 q3
  rw[r3]at q4 q5
  refine T ?_
  refine C q2 F27 ?_
  refine C q3 F29 ?_
  refine C q4 F30 ?_
  refine C q5 F31 ?_
  refine C q8 F32 ?_
  refine C q9 F16 ?_
  refine C M6 F23 ?_
  exact D
 rw[if_pos hok]at r3
 rw[r3]at q4 q5
 cases how:Ic n of
 ·rw[if_neg (by rw[how];simp)]at r2
  rw[r2]at q2 q3
  refine T ?_
  refine C q2 F27 ?_
  refine C q3 F29 ?_
  refine C q4 F30 ?_
  refine C q5 F31 ?_
  refine C q8 F32 ?_
  refine C q7 F16 ?_
  refine C M6 F23 ?_
  exact D
 ·rw[if_pos ⟨hok,how⟩]at r2
  rw[r2]at q2 q3
  refine T ?_
  refine C q2 F27 ?_
  refine C q3 F29 ?_
  refine C q4 F30 ?_
  refine C q5 F31 ?_
  refine C q6 F32 ?_
  refine C q7 F16 ?_
  refine C M6 F23 ?_
  exact D
end Go.Sy.YtmelpejjondedaaGreat
namespace Go.Proofs.YtmelpejjondedaaGreat
open Go.ChangeShapes Go.WideShapes Go.ChangeAt Go.RowKit
set_option maxRecDepth 100000
theorem Oe:Tryz.checked.prog.inPlace 8=Rows.splitReducesRow.inPlace:=by kernel_rfl
theorem Lm:Tryz.checked.prog.unfollowed 8=Rows.splitReducesRow.unfollowed:=by kernel_rfl
theorem M4:Tryz.checked.prog.recurses 8=Rows.splitReducesRow.recurses:=by kernel_rfl
theorem Sv:Tryz.checked.prog.varsNamed 8=Rows.splitReducesRow.named:=by kernel_rfl
theorem Tx:Tryz.checked.prog.liftsFinal=Rows.splitReducesRow.lifted:=by kernel_rfl
theorem Od:laidOutB Tryz.checked.prog=true:=by kernel_rfl
theorem Sz:Tryz.checked.prog.mayEnter=true:=by kernel_rfl
theorem Sw:Tryz.checked.prog.stopsHeard=true:=by kernel_rfl
theorem Sx:joinedFacts Tryz.checked.prog 8 Tryz.f8 Rows.splitReducesSpec Rows.splitReducesRow=true:=by
 unfold joinedFacts
 rw[Oe,Lm,M4,Sv,Tx,Od,Sz,Sw]
 kernel_rfl
end Go.Proofs.YtmelpejjondedaaGreat
