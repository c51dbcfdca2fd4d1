/-
  O1 Y6 Y8 O4 Y9 G1 G2 G3 S0 G4 G5 G6 G7 G8 G9 G10 G11 G12 G13 J22: parts of a proof, joined by program.
-/
import Derived.Test.YtmelpejjondedaaGreatW3
import Derived.Test.YtmelpejjondedaaGreatW7
import Derived.Test.YtmelpejjondedaaGreatW4
import Derived.Test.YtmelpejjondedaaGreatRows
import Derived.ProofKit
namespace Go.Sy.YtmelpejjondedaaGreat
open Go.Proofs Go.ChangeShapes Go.WideShapes Go.ChangeAt Go.RowKit
set_option maxRecDepth 100000
section
variable {H:Type} {enc:TypeId × Value→H} {W:World}
def wI (k:IntKind) (z:Int):Prop:=(Lit.int k z).wf=true
theorem Or:Op1 enc Tryz.prog W 65 (fun l:List Int=>.sl 1 (fun z=>.val (.int .i64 z)) l) (fun l=>(∀ z∈l,wI .i64 z)∧l.length≤maxLen) :=
 Ck Tryz.underlying65 (by kernel_rfl:Tryz.prog.cellsOf 3=1) qx (fun _=>rfl) (fun _=>rfl) (X5 Tryz.underlying3)
theorem Aku:Op1 enc Tryz.prog W 84 (fun l:List Int=>.sl 1 (fun z=>.val (.int .u32 z)) l) (fun l=>(∀ z∈l,wI .u32 z)∧l.length≤maxLen) :=
 Ck Tryz.underlying84 (by kernel_rfl:Tryz.prog.cellsOf 90=1) qx (fun _=>rfl) (fun _=>rfl) (X5 Tryz.underlying90)
def Device.In (x:Device):Prop:=wI .i64 x.row∧wI .i64 x.prio∧x.name.size≤maxLen∧wI .u64 x.mac∧wI .u32 x.vtep
theorem Acl:OpN enc Tryz.prog W 92 Bh Device.In 5:=fun n cs y h=>by
 obtain ⟨xs,m,_,_,hlen,hx,hg⟩:=DataW.trod_struct Tryz.underlying92 h
 have hlen:cs.length=5:=hlen.trans (by kernel_rfl:Tryz.prog.cellsOf 92=5)
 have hx:xs.length=5:=hx
 match cs,hlen with
 | [c0,c1,c2,c3,c4],_ =>
  have g0:DataW.trod enc Tryz.prog W 0 (fun _=>true) true m 3 (([c0,c1,c2,c3,c4].drop 0).take (Tryz.prog.cellsOf 3))=xs[0]?:=hg 0 _ rfl
  rw[(by kernel_rfl:Tryz.prog.cellsOf 3=1),List.getElem?_eq_getElem qn]at g0
  obtain ⟨z0,p0,r0,o0⟩:=Bn Tryz.underlying3 _ _ _ g0
  have g1:DataW.trod enc Tryz.prog W 0 (fun _=>true) true m 3 (([c0,c1,c2,c3,c4].drop 1).take (Tryz.prog.cellsOf 3))=xs[1]?:=hg 1 _ rfl
  rw[(by kernel_rfl:Tryz.prog.cellsOf 3=1),List.getElem?_eq_getElem qn]at g1
  obtain ⟨z1,p1,r1,o1⟩:=Bn Tryz.underlying3 _ _ _ g1
  have g2:DataW.trod enc Tryz.prog W 0 (fun _=>true) true m 9 (([c0,c1,c2,c3,c4].drop 2).take (Tryz.prog.cellsOf 9))=xs[2]?:=hg 2 _ rfl
  rw[(by kernel_rfl:Tryz.prog.cellsOf 9=1),List.getElem?_eq_getElem qn]at g2
  obtain ⟨z2,p2,r2,o2⟩:=Acg Tryz.underlying9 _ _ _ g2
  have g3:DataW.trod enc Tryz.prog W 0 (fun _=>true) true m 89 (([c0,c1,c2,c3,c4].drop 3).take (Tryz.prog.cellsOf 89))=xs[3]?:=hg 3 _ rfl
  rw[(by kernel_rfl:Tryz.prog.cellsOf 89=1),List.getElem?_eq_getElem qn]at g3
  obtain ⟨z3,p3,r3,o3⟩:=Bn Tryz.underlying89 _ _ _ g3
  have g4:DataW.trod enc Tryz.prog W 0 (fun _=>true) true m 90 (([c0,c1,c2,c3,c4].drop 4).take (Tryz.prog.cellsOf 90))=xs[4]?:=hg 4 _ rfl
  rw[(by kernel_rfl:Tryz.prog.cellsOf 90=1),List.getElem?_eq_getElem qn]at g4
  obtain ⟨z4,p4,r4,o4⟩:=Bn Tryz.underlying90 _ _ _ g4
  refine⟨⟨z0,z1,z2,z3,z4⟩,⟨p0,p1,p2,p3,p4⟩,E,fun c hc=>?_,?_⟩
  ·simp only[List.mem_cons,List.not_mem_nil,or_false]at hc
   rcases hc with rfl | rfl | rfl | rfl | rfl<;>assumption
  ·simp only[Bh,cellsOf,RdL]
   exact⟨_,_,E,r0,_,_,E,r1,_,_,E,r2,_,_,E,r3,_,_,E,r4,E⟩
def Port.In (x:Port):Prop:=wI .i64 x.row∧wI .i64 x.dev∧wI .i64 x.native∧wI .i64 x.cost∧wI .i64 x.link∧x.name.size≤maxLen∧((∀ z∈x.tagged,wI .i64 z)∧x.tagged.length≤maxLen)
theorem Aii:OpN enc Tryz.prog W 81 A9 Port.In 7:=fun n cs y h=>by
 obtain ⟨xs,m,_,_,hlen,hx,hg⟩:=DataW.trod_struct Tryz.underlying81 h
 have hlen:cs.length=7:=hlen.trans (by kernel_rfl:Tryz.prog.cellsOf 81=7)
 have hx:xs.length=7:=hx
 match cs,hlen with
 | [c0,c1,c2,c3,c4,c5,c6],_ =>
  have g0:DataW.trod enc Tryz.prog W 0 (fun _=>true) true m 3 (([c0,c1,c2,c3,c4,c5,c6].drop 0).take (Tryz.prog.cellsOf 3))=xs[0]?:=hg 0 _ rfl
  rw[(by kernel_rfl:Tryz.prog.cellsOf 3=1),List.getElem?_eq_getElem qn]at g0
  obtain ⟨z0,p0,r0,o0⟩:=Bn Tryz.underlying3 _ _ _ g0
  have g1:DataW.trod enc Tryz.prog W 0 (fun _=>true) true m 3 (([c0,c1,c2,c3,c4,c5,c6].drop 1).take (Tryz.prog.cellsOf 3))=xs[1]?:=hg 1 _ rfl
  rw[(by kernel_rfl:Tryz.prog.cellsOf 3=1),List.getElem?_eq_getElem qn]at g1
  obtain ⟨z1,p1,r1,o1⟩:=Bn Tryz.underlying3 _ _ _ g1
  have g2:DataW.trod enc Tryz.prog W 0 (fun _=>true) true m 3 (([c0,c1,c2,c3,c4,c5,c6].drop 2).take (Tryz.prog.cellsOf 3))=xs[2]?:=hg 2 _ rfl
  rw[(by kernel_rfl:Tryz.prog.cellsOf 3=1),List.getElem?_eq_getElem qn]at g2
  obtain ⟨z2,p2,r2,o2⟩:=Bn Tryz.underlying3 _ _ _ g2
  have g3:DataW.trod enc Tryz.prog W 0 (fun _=>true) true m 3 (([c0,c1,c2,c3,c4,c5,c6].drop 3).take (Tryz.prog.cellsOf 3))=xs[3]?:=hg 3 _ rfl
  rw[(by kernel_rfl:Tryz.prog.cellsOf 3=1),List.getElem?_eq_getElem qn]at g3
  obtain ⟨z3,p3,r3,o3⟩:=Bn Tryz.underlying3 _ _ _ g3
  have g4:DataW.trod enc Tryz.prog W 0 (fun _=>true) true m 3 (([c0,c1,c2,c3,c4,c5,c6].drop 4).take (Tryz.prog.cellsOf 3))=xs[4]?:=hg 4 _ rfl
  rw[(by kernel_rfl:Tryz.prog.cellsOf 3=1),List.getElem?_eq_getElem qn]at g4
  obtain ⟨z4,p4,r4,o4⟩:=Bn Tryz.underlying3 _ _ _ g4
  have g5:DataW.trod enc Tryz.prog W 0 (fun _=>true) true m 9 (([c0,c1,c2,c3,c4,c5,c6].drop 5).take (Tryz.prog.cellsOf 9))=xs[5]?:=hg 5 _ rfl
  rw[(by kernel_rfl:Tryz.prog.cellsOf 9=1),List.getElem?_eq_getElem qn]at g5
  obtain ⟨z5,p5,r5,o5⟩:=Acg Tryz.underlying9 _ _ _ g5
  have g6:DataW.trod enc Tryz.prog W 0 (fun _=>true) true m 65 (([c0,c1,c2,c3,c4,c5,c6].drop 6).take (Tryz.prog.cellsOf 65))=xs[6]?:=hg 6 _ rfl
  rw[(by kernel_rfl:Tryz.prog.cellsOf 65=1),List.getElem?_eq_getElem qn]at g6
  obtain ⟨z6,p6,r6,o6⟩:=Or _ _ _ g6
  refine⟨⟨z0,z1,z2,z3,z4,z5,z6⟩,⟨p0,p1,p2,p3,p4,p5,p6⟩,E,fun c hc=>?_,?_⟩
  ·simp only[List.mem_cons,List.not_mem_nil,or_false]at hc
   rcases hc with rfl | rfl | rfl | rfl | rfl | rfl | rfl<;>assumption
  ·simp only[A9,cellsOf,RdL]
   exact⟨_,_,E,r0,_,_,E,r1,_,_,E,r2,_,_,E,r3,_,_,E,r4,_,_,E,r5,_,_,E,r6,E⟩
def Link.In (x:Link):Prop:=wI .i64 x.row∧wI .i64 x.a∧wI .i64 x.b
theorem Aij:OpN enc Tryz.prog W 167 Cf Link.In 3:=fun n cs y h=>by
 obtain ⟨xs,m,_,_,hlen,hx,hg⟩:=DataW.trod_struct Tryz.underlying167 h
 have hlen:cs.length=3:=hlen.trans (by kernel_rfl:Tryz.prog.cellsOf 167=3)
 have hx:xs.length=3:=hx
 match cs,hlen with
 | [c0,c1,c2],_ =>
  have g0:DataW.trod enc Tryz.prog W 0 (fun _=>true) true m 3 (([c0,c1,c2].drop 0).take (Tryz.prog.cellsOf 3))=xs[0]?:=hg 0 _ rfl
  rw[(by kernel_rfl:Tryz.prog.cellsOf 3=1),List.getElem?_eq_getElem qn]at g0
  obtain ⟨z0,p0,r0,o0⟩:=Bn Tryz.underlying3 _ _ _ g0
  have g1:DataW.trod enc Tryz.prog W 0 (fun _=>true) true m 3 (([c0,c1,c2].drop 1).take (Tryz.prog.cellsOf 3))=xs[1]?:=hg 1 _ rfl
  rw[(by kernel_rfl:Tryz.prog.cellsOf 3=1),List.getElem?_eq_getElem qn]at g1
  obtain ⟨z1,p1,r1,o1⟩:=Bn Tryz.underlying3 _ _ _ g1
  have g2:DataW.trod enc Tryz.prog W 0 (fun _=>true) true m 3 (([c0,c1,c2].drop 2).take (Tryz.prog.cellsOf 3))=xs[2]?:=hg 2 _ rfl
  rw[(by kernel_rfl:Tryz.prog.cellsOf 3=1),List.getElem?_eq_getElem qn]at g2
  obtain ⟨z2,p2,r2,o2⟩:=Bn Tryz.underlying3 _ _ _ g2
  refine⟨⟨z0,z1,z2⟩,⟨p0,p1,p2⟩,E,fun c hc=>?_,?_⟩
  ·simp only[List.mem_cons,List.not_mem_nil,or_false]at hc
   rcases hc with rfl | rfl | rfl<;>assumption
  ·simp only[Cf,cellsOf,RdL]
   exact⟨_,_,E,r0,_,_,E,r1,_,_,E,r2,E⟩
def Domain.In (x:Domain):Prop:=wI .i64 x.dev∧wI .i64 x.vlan∧wI .i64 x.vni∧wI .i64 x.irb∧wI .i64 x.row∧((∀ z∈x.peers,wI .i64 z)∧x.peers.length≤maxLen)
theorem Ack:OpN enc Tryz.prog W 83 Au Domain.In 6:=fun n cs y h=>by
 obtain ⟨xs,m,_,_,hlen,hx,hg⟩:=DataW.trod_struct Tryz.underlying83 h
 have hlen:cs.length=6:=hlen.trans (by kernel_rfl:Tryz.prog.cellsOf 83=6)
 have hx:xs.length=6:=hx
 match cs,hlen with
 | [c0,c1,c2,c3,c4,c5],_ =>
  have g0:DataW.trod enc Tryz.prog W 0 (fun _=>true) true m 3 (([c0,c1,c2,c3,c4,c5].drop 0).take (Tryz.prog.cellsOf 3))=xs[0]?:=hg 0 _ rfl
  rw[(by kernel_rfl:Tryz.prog.cellsOf 3=1),List.getElem?_eq_getElem qn]at g0
  obtain ⟨z0,p0,r0,o0⟩:=Bn Tryz.underlying3 _ _ _ g0
  have g1:DataW.trod enc Tryz.prog W 0 (fun _=>true) true m 3 (([c0,c1,c2,c3,c4,c5].drop 1).take (Tryz.prog.cellsOf 3))=xs[1]?:=hg 1 _ rfl
  rw[(by kernel_rfl:Tryz.prog.cellsOf 3=1),List.getElem?_eq_getElem qn]at g1
  obtain ⟨z1,p1,r1,o1⟩:=Bn Tryz.underlying3 _ _ _ g1
  have g2:DataW.trod enc Tryz.prog W 0 (fun _=>true) true m 3 (([c0,c1,c2,c3,c4,c5].drop 2).take (Tryz.prog.cellsOf 3))=xs[2]?:=hg 2 _ rfl
  rw[(by kernel_rfl:Tryz.prog.cellsOf 3=1),List.getElem?_eq_getElem qn]at g2
  obtain ⟨z2,p2,r2,o2⟩:=Bn Tryz.underlying3 _ _ _ g2
  have g3:DataW.trod enc Tryz.prog W 0 (fun _=>true) true m 3 (([c0,c1,c2,c3,c4,c5].drop 3).take (Tryz.prog.cellsOf 3))=xs[3]?:=hg 3 _ rfl
  rw[(by kernel_rfl:Tryz.prog.cellsOf 3=1),List.getElem?_eq_getElem qn]at g3
  obtain ⟨z3,p3,r3,o3⟩:=Bn Tryz.underlying3 _ _ _ g3
  have g4:DataW.trod enc Tryz.prog W 0 (fun _=>true) true m 3 (([c0,c1,c2,c3,c4,c5].drop 4).take (Tryz.prog.cellsOf 3))=xs[4]?:=hg 4 _ rfl
  rw[(by kernel_rfl:Tryz.prog.cellsOf 3=1),List.getElem?_eq_getElem qn]at g4
  obtain ⟨z4,p4,r4,o4⟩:=Bn Tryz.underlying3 _ _ _ g4
  have g5:DataW.trod enc Tryz.prog W 0 (fun _=>true) true m 65 (([c0,c1,c2,c3,c4,c5].drop 5).take (Tryz.prog.cellsOf 65))=xs[5]?:=hg 5 _ rfl
  rw[(by kernel_rfl:Tryz.prog.cellsOf 65=1),List.getElem?_eq_getElem qn]at g5
  obtain ⟨z5,p5,r5,o5⟩:=Or _ _ _ g5
  refine⟨⟨z0,z1,z2,z3,z4,z5⟩,⟨p0,p1,p2,p3,p4,p5⟩,E,fun c hc=>?_,?_⟩
  ·simp only[List.mem_cons,List.not_mem_nil,or_false]at hc
   rcases hc with rfl | rfl | rfl | rfl | rfl | rfl<;>assumption
  ·simp only[Au,cellsOf,RdL]
   exact⟨_,_,E,r0,_,_,E,r1,_,_,E,r2,_,_,E,r3,_,_,E,r4,_,_,E,r5,E⟩
def Static.In (x:Static):Prop:=wI .i64 x.row∧wI .i64 x.domain∧wI .i64 x.port∧wI .u64 x.mac
theorem Aci:OpN enc Tryz.prog W 196 Bf Static.In 4:=fun n cs y h=>by
 obtain ⟨xs,m,_,_,hlen,hx,hg⟩:=DataW.trod_struct Tryz.underlying196 h
 have hlen:cs.length=4:=hlen.trans (by kernel_rfl:Tryz.prog.cellsOf 196=4)
 have hx:xs.length=4:=hx
 match cs,hlen with
 | [c0,c1,c2,c3],_ =>
  have g0:DataW.trod enc Tryz.prog W 0 (fun _=>true) true m 3 (([c0,c1,c2,c3].drop 0).take (Tryz.prog.cellsOf 3))=xs[0]?:=hg 0 _ rfl
  rw[(by kernel_rfl:Tryz.prog.cellsOf 3=1),List.getElem?_eq_getElem qn]at g0
  obtain ⟨z0,p0,r0,o0⟩:=Bn Tryz.underlying3 _ _ _ g0
  have g1:DataW.trod enc Tryz.prog W 0 (fun _=>true) true m 3 (([c0,c1,c2,c3].drop 1).take (Tryz.prog.cellsOf 3))=xs[1]?:=hg 1 _ rfl
  rw[(by kernel_rfl:Tryz.prog.cellsOf 3=1),List.getElem?_eq_getElem qn]at g1
  obtain ⟨z1,p1,r1,o1⟩:=Bn Tryz.underlying3 _ _ _ g1
  have g2:DataW.trod enc Tryz.prog W 0 (fun _=>true) true m 3 (([c0,c1,c2,c3].drop 2).take (Tryz.prog.cellsOf 3))=xs[2]?:=hg 2 _ rfl
  rw[(by kernel_rfl:Tryz.prog.cellsOf 3=1),List.getElem?_eq_getElem qn]at g2
  obtain ⟨z2,p2,r2,o2⟩:=Bn Tryz.underlying3 _ _ _ g2
  have g3:DataW.trod enc Tryz.prog W 0 (fun _=>true) true m 89 (([c0,c1,c2,c3].drop 3).take (Tryz.prog.cellsOf 89))=xs[3]?:=hg 3 _ rfl
  rw[(by kernel_rfl:Tryz.prog.cellsOf 89=1),List.getElem?_eq_getElem qn]at g3
  obtain ⟨z3,p3,r3,o3⟩:=Bn Tryz.underlying89 _ _ _ g3
  refine⟨⟨z0,z1,z2,z3⟩,⟨p0,p1,p2,p3⟩,E,fun c hc=>?_,?_⟩
  ·simp only[List.mem_cons,List.not_mem_nil,or_false]at hc
   rcases hc with rfl | rfl | rfl | rfl<;>assumption
  ·simp only[Bf,cellsOf,RdL]
   exact⟨_,_,E,r0,_,_,E,r1,_,_,E,r2,_,_,E,r3,E⟩
def Flood.In (x:Flood):Prop:=wI .i64 x.row∧wI .i64 x.dev∧wI .i64 x.vni∧((∀ z∈x.addrs,wI .u32 z)∧x.addrs.length≤maxLen)
theorem Afv:OpN enc Tryz.prog W 86 Bw Flood.In 4:=fun n cs y h=>by
 obtain ⟨xs,m,_,_,hlen,hx,hg⟩:=DataW.trod_struct Tryz.underlying86 h
 have hlen:cs.length=4:=hlen.trans (by kernel_rfl:Tryz.prog.cellsOf 86=4)
 have hx:xs.length=4:=hx
 match cs,hlen with
 | [c0,c1,c2,c3],_ =>
  have g0:DataW.trod enc Tryz.prog W 0 (fun _=>true) true m 3 (([c0,c1,c2,c3].drop 0).take (Tryz.prog.cellsOf 3))=xs[0]?:=hg 0 _ rfl
  rw[(by kernel_rfl:Tryz.prog.cellsOf 3=1),List.getElem?_eq_getElem qn]at g0
  obtain ⟨z0,p0,r0,o0⟩:=Bn Tryz.underlying3 _ _ _ g0
  have g1:DataW.trod enc Tryz.prog W 0 (fun _=>true) true m 3 (([c0,c1,c2,c3].drop 1).take (Tryz.prog.cellsOf 3))=xs[1]?:=hg 1 _ rfl
  rw[(by kernel_rfl:Tryz.prog.cellsOf 3=1),List.getElem?_eq_getElem qn]at g1
  obtain ⟨z1,p1,r1,o1⟩:=Bn Tryz.underlying3 _ _ _ g1
  have g2:DataW.trod enc Tryz.prog W 0 (fun _=>true) true m 3 (([c0,c1,c2,c3].drop 2).take (Tryz.prog.cellsOf 3))=xs[2]?:=hg 2 _ rfl
  rw[(by kernel_rfl:Tryz.prog.cellsOf 3=1),List.getElem?_eq_getElem qn]at g2
  obtain ⟨z2,p2,r2,o2⟩:=Bn Tryz.underlying3 _ _ _ g2
  have g3:DataW.trod enc Tryz.prog W 0 (fun _=>true) true m 84 (([c0,c1,c2,c3].drop 3).take (Tryz.prog.cellsOf 84))=xs[3]?:=hg 3 _ rfl
  rw[(by kernel_rfl:Tryz.prog.cellsOf 84=1),List.getElem?_eq_getElem qn]at g3
  obtain ⟨z3,p3,r3,o3⟩:=Aku _ _ _ g3
  refine⟨⟨z0,z1,z2,z3⟩,⟨p0,p1,p2,p3⟩,E,fun c hc=>?_,?_⟩
  ·simp only[List.mem_cons,List.not_mem_nil,or_false]at hc
   rcases hc with rfl | rfl | rfl | rfl<;>assumption
  ·simp only[Bw,cellsOf,RdL]
   exact⟨_,_,E,r0,_,_,E,r1,_,_,E,r2,_,_,E,r3,E⟩
def Vrf.In (x:Vrf):Prop:=wI .i64 x.row∧wI .i64 x.dev∧x.name.size≤maxLen∧((∀ z∈x.imports,wI .i64 z)∧x.imports.length≤maxLen)∧((∀ z∈x.exports,wI .i64 z)∧x.exports.length≤maxLen)
theorem Akw:OpN enc Tryz.prog W 88 Ct Vrf.In 5:=fun n cs y h=>by
 obtain ⟨xs,m,_,_,hlen,hx,hg⟩:=DataW.trod_struct Tryz.underlying88 h
 have hlen:cs.length=5:=hlen.trans (by kernel_rfl:Tryz.prog.cellsOf 88=5)
 have hx:xs.length=5:=hx
 match cs,hlen with
 | [c0,c1,c2,c3,c4],_ =>
  have g0:DataW.trod enc Tryz.prog W 0 (fun _=>true) true m 3 (([c0,c1,c2,c3,c4].drop 0).take (Tryz.prog.cellsOf 3))=xs[0]?:=hg 0 _ rfl
  rw[(by kernel_rfl:Tryz.prog.cellsOf 3=1),List.getElem?_eq_getElem qn]at g0
  obtain ⟨z0,p0,r0,o0⟩:=Bn Tryz.underlying3 _ _ _ g0
  have g1:DataW.trod enc Tryz.prog W 0 (fun _=>true) true m 3 (([c0,c1,c2,c3,c4].drop 1).take (Tryz.prog.cellsOf 3))=xs[1]?:=hg 1 _ rfl
  rw[(by kernel_rfl:Tryz.prog.cellsOf 3=1),List.getElem?_eq_getElem qn]at g1
  obtain ⟨z1,p1,r1,o1⟩:=Bn Tryz.underlying3 _ _ _ g1
  have g2:DataW.trod enc Tryz.prog W 0 (fun _=>true) true m 9 (([c0,c1,c2,c3,c4].drop 2).take (Tryz.prog.cellsOf 9))=xs[2]?:=hg 2 _ rfl
  rw[(by kernel_rfl:Tryz.prog.cellsOf 9=1),List.getElem?_eq_getElem qn]at g2
  obtain ⟨z2,p2,r2,o2⟩:=Acg Tryz.underlying9 _ _ _ g2
  have g3:DataW.trod enc Tryz.prog W 0 (fun _=>true) true m 65 (([c0,c1,c2,c3,c4].drop 3).take (Tryz.prog.cellsOf 65))=xs[3]?:=hg 3 _ rfl
  rw[(by kernel_rfl:Tryz.prog.cellsOf 65=1),List.getElem?_eq_getElem qn]at g3
  obtain ⟨z3,p3,r3,o3⟩:=Or _ _ _ g3
  have g4:DataW.trod enc Tryz.prog W 0 (fun _=>true) true m 65 (([c0,c1,c2,c3,c4].drop 4).take (Tryz.prog.cellsOf 65))=xs[4]?:=hg 4 _ rfl
  rw[(by kernel_rfl:Tryz.prog.cellsOf 65=1),List.getElem?_eq_getElem qn]at g4
  obtain ⟨z4,p4,r4,o4⟩:=Or _ _ _ g4
  refine⟨⟨z0,z1,z2,z3,z4⟩,⟨p0,p1,p2,p3,p4⟩,E,fun c hc=>?_,?_⟩
  ·simp only[List.mem_cons,List.not_mem_nil,or_false]at hc
   rcases hc with rfl | rfl | rfl | rfl | rfl<;>assumption
  ·simp only[Ct,cellsOf,RdL]
   exact⟨_,_,E,r0,_,_,E,r1,_,_,E,r2,_,_,E,r3,_,_,E,r4,E⟩
def Irb.In (x:Irb):Prop:=wI .i64 x.row∧wI .i64 x.domain∧wI .i64 x.vrf∧wI .u32 x.addr∧wI .i64 x.bits
theorem Aky:OpN enc Tryz.prog W 203 Dn Irb.In 5:=fun n cs y h=>by
 obtain ⟨xs,m,_,_,hlen,hx,hg⟩:=DataW.trod_struct Tryz.underlying203 h
 have hlen:cs.length=5:=hlen.trans (by kernel_rfl:Tryz.prog.cellsOf 203=5)
 have hx:xs.length=4:=hx
 match cs,hlen with
 | [c0,c1,c2,c3,c4],_ =>
  have g0:DataW.trod enc Tryz.prog W 0 (fun _=>true) true m 3 (([c0,c1,c2,c3,c4].drop 0).take (Tryz.prog.cellsOf 3))=xs[0]?:=hg 0 _ rfl
  rw[(by kernel_rfl:Tryz.prog.cellsOf 3=1),List.getElem?_eq_getElem qn]at g0
  obtain ⟨z0,p0,r0,o0⟩:=Bn Tryz.underlying3 _ _ _ g0
  have g1:DataW.trod enc Tryz.prog W 0 (fun _=>true) true m 3 (([c0,c1,c2,c3,c4].drop 1).take (Tryz.prog.cellsOf 3))=xs[1]?:=hg 1 _ rfl
  rw[(by kernel_rfl:Tryz.prog.cellsOf 3=1),List.getElem?_eq_getElem qn]at g1
  obtain ⟨z1,p1,r1,o1⟩:=Bn Tryz.underlying3 _ _ _ g1
  have g2:DataW.trod enc Tryz.prog W 0 (fun _=>true) true m 3 (([c0,c1,c2,c3,c4].drop 2).take (Tryz.prog.cellsOf 3))=xs[2]?:=hg 2 _ rfl
  rw[(by kernel_rfl:Tryz.prog.cellsOf 3=1),List.getElem?_eq_getElem qn]at g2
  obtain ⟨z2,p2,r2,o2⟩:=Bn Tryz.underlying3 _ _ _ g2
  have g3:DataW.trod enc Tryz.prog W 0 (fun _=>true) true m 201 (([c0,c1,c2,c3,c4].drop 3).take (Tryz.prog.cellsOf 201))=xs[3]?:=hg 3 _ rfl
  rw[(by kernel_rfl:Tryz.prog.cellsOf 201=2),List.getElem?_eq_getElem qn]at g3
  obtain ⟨ys,m',_,_,_,hy,hg'⟩:=DataW.trod_struct Tryz.underlying201 g3
  have hy:ys.length=2:=hy
  have q0:DataW.trod enc Tryz.prog W 0 (fun _=>true) true m' 90 (([c3,c4].drop 0).take (Tryz.prog.cellsOf 90))=ys[0]?:=hg' 0 _ rfl
  have q1:DataW.trod enc Tryz.prog W 0 (fun _=>true) true m' 3 (([c3,c4].drop 1).take (Tryz.prog.cellsOf 3))=ys[1]?:=hg' 1 _ rfl
  rw[(by kernel_rfl:Tryz.prog.cellsOf 90=1),List.getElem?_eq_getElem qn]at q0
  rw[(by kernel_rfl:Tryz.prog.cellsOf 3=1),List.getElem?_eq_getElem qn]at q1
  obtain ⟨z3,p3,r3,o3⟩:=Bn Tryz.underlying90 _ _ _ q0
  obtain ⟨z4,p4,r4,o4⟩:=Bn Tryz.underlying3 _ _ _ q1
  refine⟨⟨z0,z1,z2,z3,z4⟩,⟨p0,p1,p2,p3,p4⟩,E,fun c hc=>?_,?_⟩
  ·simp only[List.mem_cons,List.not_mem_nil,or_false]at hc
   rcases hc with rfl | rfl | rfl | rfl | rfl<;>assumption
  ·simp only[Dn,cellsOf,RdL]
   exact⟨_,_,E,r0,_,_,E,r1,_,_,E,r2,_,_,E,r3,_,_,E,r4,E⟩
structure Net.In (n:Net):Prop where
 devices:(∀ x∈n.devices,Device.In x)∧n.devices.length≤maxLen
 ports:(∀ x∈n.ports,Port.In x)∧n.ports.length≤maxLen
 links:(∀ x∈n.links,Link.In x)∧n.links.length≤maxLen
 domains:(∀ x∈n.domains,Domain.In x)∧n.domains.length≤maxLen
 statics:(∀ x∈n.statics,Static.In x)∧n.statics.length≤maxLen
 floods:(∀ x∈n.floods,Flood.In x)∧n.floods.length≤maxLen
 vrfs:(∀ x∈n.vrfs,Vrf.In x)∧n.vrfs.length≤maxLen
 irbs:(∀ x∈n.irbs,Irb.In x)∧n.irbs.length≤maxLen
theorem Akx:OpN enc Tryz.prog W 31 Aq Net.In 8:=fun n cs y h=>by
 obtain ⟨xs,m,_,_,hlen,hx,hg⟩:=DataW.trod_struct Tryz.underlying31 h
 have hlen:cs.length=8:=hlen.trans (by kernel_rfl:Tryz.prog.cellsOf 31=8)
 have hx:xs.length=8:=hx
 match cs,hlen with
 | [c0,c1,c2,c3,c4,c5,c6,c7],_ =>
  have g0:DataW.trod enc Tryz.prog W 0 (fun _=>true) true m 22 (([c0,c1,c2,c3,c4,c5,c6,c7].drop 0).take (Tryz.prog.cellsOf 22))=xs[0]?:=hg 0 _ rfl
  rw[(by kernel_rfl:Tryz.prog.cellsOf 22=1),List.getElem?_eq_getElem qn]at g0
  obtain ⟨z0,p0,r0,o0⟩:=Ck Tryz.underlying22 (by kernel_rfl:Tryz.prog.cellsOf 92=5) qx (fun _=>rfl) (fun _=>rfl) Acl _ _ _ g0
  have g1:DataW.trod enc Tryz.prog W 0 (fun _=>true) true m 23 (([c0,c1,c2,c3,c4,c5,c6,c7].drop 1).take (Tryz.prog.cellsOf 23))=xs[1]?:=hg 1 _ rfl
  rw[(by kernel_rfl:Tryz.prog.cellsOf 23=1),List.getElem?_eq_getElem qn]at g1
  obtain ⟨z1,p1,r1,o1⟩:=Ck Tryz.underlying23 (by kernel_rfl:Tryz.prog.cellsOf 81=7) qx (fun _=>rfl) (fun _=>rfl) Aii _ _ _ g1
  have g2:DataW.trod enc Tryz.prog W 0 (fun _=>true) true m 24 (([c0,c1,c2,c3,c4,c5,c6,c7].drop 2).take (Tryz.prog.cellsOf 24))=xs[2]?:=hg 2 _ rfl
  rw[(by kernel_rfl:Tryz.prog.cellsOf 24=1),List.getElem?_eq_getElem qn]at g2
  obtain ⟨z2,p2,r2,o2⟩:=Ck Tryz.underlying24 (by kernel_rfl:Tryz.prog.cellsOf 167=3) qx (fun _=>rfl) (fun _=>rfl) Aij _ _ _ g2
  have g3:DataW.trod enc Tryz.prog W 0 (fun _=>true) true m 25 (([c0,c1,c2,c3,c4,c5,c6,c7].drop 3).take (Tryz.prog.cellsOf 25))=xs[3]?:=hg 3 _ rfl
  rw[(by kernel_rfl:Tryz.prog.cellsOf 25=1),List.getElem?_eq_getElem qn]at g3
  obtain ⟨z3,p3,r3,o3⟩:=Ck Tryz.underlying25 (by kernel_rfl:Tryz.prog.cellsOf 83=6) qx (fun _=>rfl) (fun _=>rfl) Ack _ _ _ g3
  have g4:DataW.trod enc Tryz.prog W 0 (fun _=>true) true m 26 (([c0,c1,c2,c3,c4,c5,c6,c7].drop 4).take (Tryz.prog.cellsOf 26))=xs[4]?:=hg 4 _ rfl
  rw[(by kernel_rfl:Tryz.prog.cellsOf 26=1),List.getElem?_eq_getElem qn]at g4
  obtain ⟨z4,p4,r4,o4⟩:=Ck Tryz.underlying26 (by kernel_rfl:Tryz.prog.cellsOf 196=4) qx (fun _=>rfl) (fun _=>rfl) Aci _ _ _ g4
  have g5:DataW.trod enc Tryz.prog W 0 (fun _=>true) true m 27 (([c0,c1,c2,c3,c4,c5,c6,c7].drop 5).take (Tryz.prog.cellsOf 27))=xs[5]?:=hg 5 _ rfl
  rw[(by kernel_rfl:Tryz.prog.cellsOf 27=1),List.getElem?_eq_getElem qn]at g5
  obtain ⟨z5,p5,r5,o5⟩:=Ck Tryz.underlying27 (by kernel_rfl:Tryz.prog.cellsOf 86=4) qx (fun _=>rfl) (fun _=>rfl) Afv _ _ _ g5
  have g6:DataW.trod enc Tryz.prog W 0 (fun _=>true) true m 28 (([c0,c1,c2,c3,c4,c5,c6,c7].drop 6).take (Tryz.prog.cellsOf 28))=xs[6]?:=hg 6 _ rfl
  rw[(by kernel_rfl:Tryz.prog.cellsOf 28=1),List.getElem?_eq_getElem qn]at g6
  obtain ⟨z6,p6,r6,o6⟩:=Ck Tryz.underlying28 (by kernel_rfl:Tryz.prog.cellsOf 88=5) qx (fun _=>rfl) (fun _=>rfl) Akw _ _ _ g6
  have g7:DataW.trod enc Tryz.prog W 0 (fun _=>true) true m 29 (([c0,c1,c2,c3,c4,c5,c6,c7].drop 7).take (Tryz.prog.cellsOf 29))=xs[7]?:=hg 7 _ rfl
  rw[(by kernel_rfl:Tryz.prog.cellsOf 29=1),List.getElem?_eq_getElem qn]at g7
  obtain ⟨z7,p7,r7,o7⟩:=Ck Tryz.underlying29 (by kernel_rfl:Tryz.prog.cellsOf 203=5) qx (fun _=>rfl) (fun _=>rfl) Aky _ _ _ g7
  refine⟨⟨z0,z1,z2,z3,z4,z5,z6,z7⟩,⟨p0,p1,p2,p3,p4,p5,p6,p7⟩,E,fun c hc=>?_,?_⟩
  ·simp only[List.mem_cons,List.not_mem_nil,or_false]at hc
   rcases hc with rfl | rfl | rfl | rfl | rfl | rfl | rfl | rfl<;>assumption
  ·simp only[Aq,cellsOf,RdL]
   exact⟨_,_,E,r0,_,_,E,r1,_,_,E,r2,_,_,E,r3,_,_,E,r4,_,_,E,r5,_,_,E,r6,_,_,E,r7,E⟩
theorem Afk {t:TypeId} {fs:Array Field} {α:Type} {e:α→SV} {p:α→Prop} {sz base:Nat} {v:Value} {d:DataW H} {ps:List MemPlace} (ht:Tryz.prog.underlying t=some (.struct fs)) (hO:OpN enc Tryz.prog W t e p sz) (he:∀ x,e x=.agg (cellsOf (e x)))
  (hval:Value.okWide Tryz.prog W .any base t v) (h1:DataW.Trod enc Tryz.prog W 0 (fun _=>true) true t v d ps):∃ x,p x∧Rd κ0 W (e x) v:=by
 obtain ⟨cs,rfl,_⟩:=okWide_struct ht hval
 obtain ⟨fuel,hf⟩:=h1
 obtain ⟨x,h1,_,h2,h3⟩:=hO _ _ _ hf
 refine⟨x,h1,?_⟩
 rw[he x]
 simp only[Rd]
 exact⟨cs.toList,by simp,by simpa [Value.cells] using h2,by simpa [Value.cells] using h3⟩
theorem rd_net {base:Nat} {v:Value} {d:DataW H} {ps:List MemPlace} (hval:Value.okWide Tryz.prog W .any base 31 v) (h1:DataW.Trod enc Tryz.prog W 0 (fun _=>true) true 31 v d ps):∃ n:Net,n.In∧Rd κ0 W (Aq n) v :=
 Afk Tryz.underlying31 Akx (fun _=>rfl) hval h1
theorem Uf {t et:TypeId} {α:Type} {e:α→SV} {p:List α→Prop} {sz base:Nat} {v:Value} {d:DataW H} {ps:List MemPlace} (ht:Tryz.prog.underlying t=some (.slice et)) (hO:Op1 enc Tryz.prog W t (fun l:List α=>.sl sz e l) p)
  (hval:Value.okWide Tryz.prog W .any base t v) (h1:DataW.Trod enc Tryz.prog W 0 (fun _=>true) true t v d ps):∃ l,p l∧Rd κ0 W (.sl sz e l) v:=by
 obtain ⟨a,len,cap,rfl⟩:=okWide_slice ht hval
 obtain ⟨fuel,hf⟩:=h1
 obtain ⟨x,h1,h2,_⟩:=hO _ _ _ hf
 exact⟨x,h1,h2⟩
end
end Go.Sy.YtmelpejjondedaaGreat
namespace Go.Sy.YtmelpejjondedaaGreat
open Go.Proofs
attribute [local irreducible] Go.Sy.G Go.Sy.DR
set_option maxRecDepth 100000
set_option maxHeartbeats 4000000
theorem Afy {n:Net} (h:n.In):n.Num:=by
 refine⟨fun x hx=>?_,fun x hx=>?_⟩
 ·have:=(h.devices.1 x hx).2.2.2.2
  simp only[wI,Lit.wf,decide_eq_true_eq,Bool.and_eq_true]at this
  exact⟨this.1,Int.lt_of_le_of_lt this.2 qx⟩
 ·have:=(h.irbs.1 x hx).2.2.2.1
  simp only[wI,Lit.wf,decide_eq_true_eq,Bool.and_eq_true]at this
  exact⟨this.1,Int.lt_of_le_of_lt this.2 qx⟩
def netW33:Net:=⟨[⟨0,0,⟨#[97]⟩,0,0⟩],[⟨0,0,10,1,-1,⟨#[112]⟩,[]⟩,⟨0,0,10,1,-1,⟨#[113]⟩,[]⟩],[],[⟨0,10,0,-1,0,[]⟩],[],[],[],[]⟩
theorem Ajh:netW33.Fin:=by
 constructor<;>first | (unfold Am;decide) | (intro x hx;unfold Am;simp only[netW33,List.mem_cons,List.not_mem_nil,or_false]at hx;first | (subst hx;decide) | (rcases hx with rfl | rfl<;>decide) | exact hx.elim)
theorem Aik:netW33.Num:=by
 refine⟨fun x hx=>?_,fun x hx=>?_⟩
 ·simp only[netW33,List.mem_cons,List.not_mem_nil,or_false]at hx
  subst hx
  decide
 ·cases hx
end Go.Sy.YtmelpejjondedaaGreat
namespace Go.Sy.YtmelpejjondedaaGreat
open Go.Proofs Go.ChangeShapes Go.WideShapes Go.ChangeAt Go.RowKit
set_option maxRecDepth 100000
section
variable {H:Type} {enc:TypeId × Value→H} {W:World}
theorem Aig {P:Program} {t:TypeId} (ht:P.underlying t=some (.int .u8)):OpN enc P W t Ak (fun _=>True) 1:=fun n cs y h=>by
 obtain ⟨z,h1,h2,h3,h4⟩:=X5 ht n cs y h
 have hz:0≤z∧z<256:=by
  simp only[Lit.wf,Bool.and_eq_true,decide_eq_true_eq]at h1
  have a:=h1.1
  have b:=h1.2
  simp only[IntKind.min,IntKind.max,IntKind.signed,IntKind.bits]at a b
  constructor<;>simp at a b<;>omega
 refine⟨UInt8.ofNat z.toNat,Y,h2,h3,?_⟩
 have e:Ak (UInt8.ofNat z.toNat)=.val (.int .u8 z):=by
  rw[Ak,UInt8.toNat_ofNat_of_lt' (by show _<256;omega),Int.toNat_of_nonneg hz.1]
 rw[e];exact h4
theorem Aid:Op1 enc Tryz.prog W 44 (fun l:List UInt8=>.sl 1 Ak l) (fun l=>(∀ x∈l,True)∧l.length≤maxLen) :=
 Ck Tryz.underlying44 (by kernel_rfl:Tryz.prog.cellsOf 5=1) qx (fun _=>rfl) (fun _=>rfl) (Aig Tryz.underlying5)
theorem Aie:Op1 enc Tryz.prog W 45 (fun l:List Bool=>.sl 1 Ad l) (fun l=>(∀ x∈l,True)∧l.length≤maxLen) :=
 Ck Tryz.underlying45 (by kernel_rfl:Tryz.prog.cellsOf 4=1) qx (fun _=>rfl) (fun _=>rfl) (Aih Tryz.underlying4)
def StepM.In (x:StepM):Prop:=wI .i64 x.kind∧wI .i64 x.port∧wI .i64 x.domain∧wI .i64 x.at_∧((∀ y∈x.bytes,True)∧x.bytes.length≤maxLen)∧((∀ y∈x.up,True)∧x.up.length≤maxLen)
theorem Afu:OpN enc Tryz.prog W 47 Ce StepM.In 6:=fun n cs y h=>by
 obtain ⟨xs,m,_,_,hlen,hx,hg⟩:=DataW.trod_struct Tryz.underlying47 h
 have hlen:cs.length=6:=hlen.trans (by kernel_rfl:Tryz.prog.cellsOf 47=6)
 have hx:xs.length=6:=hx
 match cs,hlen with
 | [c0,c1,c2,c3,c4,c5],_ =>
  have g0:DataW.trod enc Tryz.prog W 0 (fun _=>true) true m 3 (([c0,c1,c2,c3,c4,c5].drop 0).take (Tryz.prog.cellsOf 3))=xs[0]?:=hg 0 _ rfl
  rw[(by kernel_rfl:Tryz.prog.cellsOf 3=1),List.getElem?_eq_getElem qn]at g0
  obtain ⟨z0,p0,r0,o0⟩:=Bn Tryz.underlying3 _ _ _ g0
  have g1:DataW.trod enc Tryz.prog W 0 (fun _=>true) true m 3 (([c0,c1,c2,c3,c4,c5].drop 1).take (Tryz.prog.cellsOf 3))=xs[1]?:=hg 1 _ rfl
  rw[(by kernel_rfl:Tryz.prog.cellsOf 3=1),List.getElem?_eq_getElem qn]at g1
  obtain ⟨z1,p1,r1,o1⟩:=Bn Tryz.underlying3 _ _ _ g1
  have g2:DataW.trod enc Tryz.prog W 0 (fun _=>true) true m 3 (([c0,c1,c2,c3,c4,c5].drop 2).take (Tryz.prog.cellsOf 3))=xs[2]?:=hg 2 _ rfl
  rw[(by kernel_rfl:Tryz.prog.cellsOf 3=1),List.getElem?_eq_getElem qn]at g2
  obtain ⟨z2,p2,r2,o2⟩:=Bn Tryz.underlying3 _ _ _ g2
  have g3:DataW.trod enc Tryz.prog W 0 (fun _=>true) true m 3 (([c0,c1,c2,c3,c4,c5].drop 3).take (Tryz.prog.cellsOf 3))=xs[3]?:=hg 3 _ rfl
  rw[(by kernel_rfl:Tryz.prog.cellsOf 3=1),List.getElem?_eq_getElem qn]at g3
  obtain ⟨z3,p3,r3,o3⟩:=Bn Tryz.underlying3 _ _ _ g3
  have g4:DataW.trod enc Tryz.prog W 0 (fun _=>true) true m 44 (([c0,c1,c2,c3,c4,c5].drop 4).take (Tryz.prog.cellsOf 44))=xs[4]?:=hg 4 _ rfl
  rw[(by kernel_rfl:Tryz.prog.cellsOf 44=1),List.getElem?_eq_getElem qn]at g4
  obtain ⟨z4,p4,r4,o4⟩:=Aid _ _ _ g4
  have g5:DataW.trod enc Tryz.prog W 0 (fun _=>true) true m 45 (([c0,c1,c2,c3,c4,c5].drop 5).take (Tryz.prog.cellsOf 45))=xs[5]?:=hg 5 _ rfl
  rw[(by kernel_rfl:Tryz.prog.cellsOf 45=1),List.getElem?_eq_getElem qn]at g5
  obtain ⟨z5,p5,r5,o5⟩:=Aie _ _ _ g5
  refine⟨⟨z0,z1,z2,z3,z4,z5⟩,⟨p0,p1,p2,p3,p4,p5⟩,E,fun c hc=>?_,?_⟩
  ·simp only[List.mem_cons,List.not_mem_nil,or_false]at hc
   rcases hc with rfl | rfl | rfl | rfl | rfl | rfl<;>assumption
  ·simp only[Ce,cellsOf,RdL]
   exact⟨_,_,E,r0,_,_,E,r1,_,_,E,r2,_,_,E,r3,_,_,E,r4,_,_,E,r5,E⟩
theorem Aic:Op1 enc Tryz.prog W 32 (fun l:List StepM=>.sl 6 Ce l) (fun l=>(∀ x∈l,StepM.In x)∧l.length≤maxLen) :=
 Ck Tryz.underlying32 (by kernel_rfl:Tryz.prog.cellsOf 47=6) qx (fun _=>rfl) (fun _=>rfl) Afu
def SeenM.In (x:SeenM):Prop:=wI .i64 x.port∧wI .i64 x.origin∧((∀ y∈x.bytes,True)∧x.bytes.length≤maxLen)
theorem op_mac:Op1 enc Tryz.prog W 89 (fun m:Nat=>A7 m) (fun m=>m<18446744073709551616):=fun n c y h=>by
 obtain ⟨z,h1,h2,h3⟩:=Bn (k:=.u64) Tryz.underlying89 n c y h
 have hz:0≤z∧z<18446744073709551616:=by
  simp only[Lit.wf,Bool.and_eq_true,decide_eq_true_eq]at h1
  have a:=h1.1
  have b:=h1.2
  simp only[IntKind.min,IntKind.max,IntKind.signed,IntKind.bits]at a b
  constructor<;>simp at a b<;>omega
 refine⟨z.toNat,by omega,?_,h3⟩
 show Rd κ0 W (.val (.int .u64 ((z.toNat:Nat):Int))) c
 rw[show ((z.toNat:Nat):Int)=z by omega]
 exact h2
theorem Ach {t et:TypeId} {α:Type} {e:α→SV} {p:α→Prop} {sz:Nat} (ht:Tryz.prog.underlying t=some (.slice et)) (hO:Op1 enc Tryz.prog W t (fun l:List α=>.sl sz e l) (fun l=>(∀ x∈l,p x)∧l.length≤maxLen)) :
  OpN enc Tryz.prog W t (fun l:List α=>.sl sz e l) (fun l=>(∀ x∈l,p x)∧l.length≤maxLen) 1:=fun n cs y h=>by
 have h1:∃ c,cs=[c]:=by
  rcases DataW.trod_slice ht h with ⟨hcs,_⟩ | ⟨a,len,cap,elems,rest,m,_,hcs,_⟩
  ·exact⟨_,hcs⟩
  ·exact⟨_,hcs⟩
 obtain ⟨c,rfl⟩:=h1
 obtain ⟨x,h2,h3,h4⟩:=hO n c y h
 refine⟨x,h2,E,fun c' hc=>by simp only[List.mem_singleton]at hc;subst hc;exact h4,?_⟩
 simp only[cellsOf,RdL]
 exact⟨_,_,E,h3,E⟩
def EntryM.In (x:EntryM):Prop:=x.mac<18446744073709551616∧wI .i64 x.where_∧wI .i64 x.seen
theorem Acj:OpN enc Tryz.prog W 137 As EntryM.In 3:=fun n cs y h=>by
 obtain ⟨xs,m,_,_,hlen,hx,hg⟩:=DataW.trod_struct Tryz.underlying137 h
 have hlen:cs.length=3:=hlen.trans (by kernel_rfl:Tryz.prog.cellsOf 137=3)
 have hx:xs.length=3:=hx
 match cs,hlen with
 | [c0,c1,c2],_ =>
  have g0:DataW.trod enc Tryz.prog W 0 (fun _=>true) true m 89 (([c0,c1,c2].drop 0).take (Tryz.prog.cellsOf 89))=xs[0]?:=hg 0 _ rfl
  rw[(by kernel_rfl:Tryz.prog.cellsOf 89=1),List.getElem?_eq_getElem qn]at g0
  obtain ⟨z0,p0,r0,o0⟩:=op_mac _ _ _ g0
  have g1:DataW.trod enc Tryz.prog W 0 (fun _=>true) true m 3 (([c0,c1,c2].drop 1).take (Tryz.prog.cellsOf 3))=xs[1]?:=hg 1 _ rfl
  rw[(by kernel_rfl:Tryz.prog.cellsOf 3=1),List.getElem?_eq_getElem qn]at g1
  obtain ⟨z1,p1,r1,o1⟩:=Bn Tryz.underlying3 _ _ _ g1
  have g2:DataW.trod enc Tryz.prog W 0 (fun _=>true) true m 3 (([c0,c1,c2].drop 2).take (Tryz.prog.cellsOf 3))=xs[2]?:=hg 2 _ rfl
  rw[(by kernel_rfl:Tryz.prog.cellsOf 3=1),List.getElem?_eq_getElem qn]at g2
  obtain ⟨z2,p2,r2,o2⟩:=Bn Tryz.underlying3 _ _ _ g2
  refine⟨⟨z0,z1,z2⟩,⟨p0,p1,p2⟩,E,fun c hc=>?_,?_⟩
  ·simp only[List.mem_cons,List.not_mem_nil,or_false]at hc
   rcases hc with rfl | rfl | rfl<;>assumption
  ·simp only[As,cellsOf,RdL]
   exact⟨_,_,E,r0,_,_,E,r1,_,_,E,r2,E⟩
theorem Aft:Op1 enc Tryz.prog W 51 (fun l:List (List EntryM)=>.sl 1 (fun t=>.sl 3 As t) l) (fun l=>(∀ x∈l,(∀ e∈x,EntryM.In e)∧x.length≤maxLen)∧l.length≤maxLen) :=
 Ck Tryz.underlying51 (by kernel_rfl:Tryz.prog.cellsOf 55=1) qx (fun _=>rfl) (fun _=>rfl) (Ach Tryz.underlying55 (Ck Tryz.underlying55 (by kernel_rfl:Tryz.prog.cellsOf 137=3) qx (fun _=>rfl) (fun _=>rfl) Acj))
end
end Go.Sy.YtmelpejjondedaaGreat
namespace Go.Sy.YtmelpejjondedaaGreat
open Go.Proofs
def Ow (m:MacM) (i:Nat) (t:List EntryM):MacM:=if 60<t.length then m else (loadT m i t).1
def H8 (m0:MacM) (l:List (List EntryM)):Nat→MacM
 | 0=>m0
 | j+1=>Ow (H8 m0 l j) j ((l[j]?).getD [])
def Ads (l:List (List EntryM)):Prop:=∀ t∈l,(∀ e∈t,EntryM.In e)∧t.length≤maxLen
theorem Zh {t:List EntryM} (h:∀ e∈t,EntryM.In e) (hl:t.length≤60):TabOK t:=by
 refine⟨by unfold Am;omega,fun e he=>(h e he).1,fun e he=>?_⟩
 have:=(h e he).2.1
 simp only[wI,Lit.wf,Bool.and_eq_true,decide_eq_true_eq,IntKind.max_i64]at this
 have e2:IntKind.min .i64=-9223372036854775808:=by decide
 rw[e2]at this
 unfold I64
 omega
theorem Aaf {n:Net} {m:MacM} {J D:Int} (h:MacOK n m J D) (i:Nat) {t:List EntryM} (ht:∀ e∈t,EntryM.In e):MacOK n (Ow m i t) J D:=by
 unfold Ow
 split
 ·exact h
 ·rename_i hl
  unfold loadT
  split
  ·exact Xt h _ (Zh ht qn)
  ·exact h
theorem Ur {n:Net} {m:MacM} {J D:Int} (h:MacOK n m J D) {l:List (List EntryM)} (hl:Ads l):∀ j,MacOK n (H8 m l j) J D
 | 0=>h
 | j+1=>by
  rw[H8]
  refine Aaf (Ur h hl j) j ?_
  by_cases hj:j<l.length
  ·rw[List.getElem?_eq_getElem hj]
   exact(hl _ (List.getElem_mem hj)).1
  ·rw[List.getElem?_eq_none qn]
   intro e he
   cases he
attribute [local irreducible] Go.Sy.G Go.Sy.DR
set_option maxRecDepth 100000
set_option maxHeartbeats 4000000
end Go.Sy.YtmelpejjondedaaGreat
namespace Go.Sy.YtmelpejjondedaaGreat
open Go.Proofs
def C2 (n:Net) (tabs:List (List EntryM)):MacM:=H8 (newT n) tabs tabs.length
def ownerI (of:List Int) (port:Int):Int:=if Aj port of.length=true then nth of port else -1
def noteL (of by_:List Int) (port:Int):List Int:=if 0≤ownerI of port then by_++[ownerI of port] else by_
def ownB (by_:List Int) (tenant origin:Int):Bool:=Aj (origin-1) by_.length && decide (nth by_ (origin-1)=tenant)
def La (l:List QueuedM) (by_:List Int) (tenant at_:Int):Int:=((l.take at_.toNat).countP fun q=>ownB by_ tenant q.origin:Nat)
def Km (m:MacM) (dom:Int):List QueuedM:=if Aj dom m.queues.length=true then queueL m dom else []
def Adq (x:StepM) (at_:Int):StepM:=⟨x.kind,x.port,x.domain,at_,x.bytes,x.up⟩
def keepT (of by_:List Int) (tenant:Int) (m:MacM) (x:StepM):StepM × Bool :=
 if x.kind=1 then (x,decide (ownerI of x.port=tenant) && decide (0≤tenant))
 else if x.kind=2∨x.kind=3 then
  (if Aj x.at_ (Km m x.domain).length && ownB by_ tenant (((Km m x.domain)[x.at_.toNat]?).getD noQ).origin then (Adq x (La (Km m x.domain) by_ tenant x.at_),true) else (x,false))
 else (x,true)
def Im (of by_:List Int) (tenant:Int) (m:MacM) (x:StepM):List StepM:=if (keepT of by_ tenant m x).2=true then [(keepT of by_ tenant m x).1] else []
def byStep (of by_:List Int) (x:StepM):List Int:=if x.kind=1 then noteL of by_ x.port else by_
def byL (of:List Int):List Int→List StepM→List Int
 | by_,[]=>by_
 | by_,x::l=>byL of (byStep of by_ x) l
def Ev (n:Net) (of:List Int) (tenant:Int):MacM→List Int→List StepM→List StepM
 | _,_,[]=>[]
 | m,by_,x::l=>Im of by_ tenant m x++Ev n of tenant (doT n m x).1 (byStep of by_ x) l
def Ll (n:Net) (of:List Int):Bool :=
 decide (of.length=n.ports.length) && Af n && (List.range of.length).all fun i=>if (nth n.ports (i:Int)).link<0 then decide (0≤nth of (i:Int)) && decide (nth of (i:Int)≤9) else decide (nth of (i:Int)=-1)
def reduceT (n:Net) (of:List Int) (tabs:List (List EntryM)) (l:List StepM) (tenant:Int):List StepM × Int :=
 if okB n (Ag7 n)=true∧Ll n of=true then (Ev n of tenant (C2 n tabs) [] l,0) else ([],2)
def Sb (l:List SeenM) (of:List Int) (tenant:Int):List SeenM:=(l.filter fun x=>Aj x.port of.length && decide (nth of x.port=tenant)).map fun x=>⟨x.port,0,x.bytes⟩
theorem Vm (of:List Int):∀ (a b:List StepM) (by_:List Int),byL of by_ (a++b)=byL of (byL of by_ a) b
 | [],b,by_=>rfl
 | x::a,b,by_=>by
  rw[List.cons_append,byL,byL,Vm of a b]
theorem Ajt (of by_:List Int) (l:List StepM) (j:Nat) (hj:j<l.length):byL of by_ (l.take (j+1))=byStep of (byL of by_ (l.take j)) l[j]:=by
 rw[List.take_succ_eq_append_getElem hj,Vm]
 rfl
theorem Kk (n:Net) (of:List Int) (tenant:Int):∀ (a b:List StepM) (m:MacM) (by_:List Int),Ev n of tenant m by_ (a++b)=Ev n of tenant m by_ a++Ev n of tenant (Dr n m a).1 (byL of by_ a) b
 | [],b,m,by_=>rfl
 | x::a,b,m,by_=>by
  rw[List.cons_append,Ev,Ev,Kk n of tenant a b,Dr,byL,List.append_assoc]
theorem Qw (n:Net) (of:List Int) (tenant:Int) (m:MacM) (by_:List Int) (l:List StepM) (j:Nat) (hj:j<l.length) :
  Ev n of tenant m by_ (l.take (j+1))=Ev n of tenant m by_ (l.take j)++Im of (byL of by_ (l.take j)) tenant (Dr n m (l.take j)).1 l[j]:=by
 rw[List.take_succ_eq_append_getElem hj,Kk,Ev,Ev,List.append_nil]
theorem Agb (of by_:List Int) (tenant:Int) (m:MacM) (x:StepM):(Im of by_ tenant m x).length≤1:=by
 unfold Im;split<;>simp
theorem Ua (n:Net) (of:List Int) (tenant:Int):∀ (l:List StepM) (m:MacM) (by_:List Int),(Ev n of tenant m by_ l).length≤l.length
 | [],m,by_=>by simp[Ev]
 | x::l,m,by_=>by
  rw[Ev]
  have h1:=Ua n of tenant l (doT n m x).1 (byStep of by_ x)
  have h2:=Agb of by_ tenant m x
  simp only[List.length_append,List.length_cons]
  omega
theorem Adm (of by_:List Int) (x:StepM):(byStep of by_ x).length≤by_.length+1:=by
 unfold byStep noteL
 split
 ·split
  ·simp
  ·omega
 ·omega
theorem Aer (of:List Int):∀ (l:List StepM) (by_:List Int),(byL of by_ l).length≤by_.length+l.length
 | [],by_=>by simp[byL]
 | x::l,by_=>by
  rw[byL]
  have h1:=Aer of l (byStep of by_ x)
  have h2:=Adm of by_ x
  simp only[List.length_cons]
  omega
theorem Wd (l:List QueuedM) (by_:List Int) (tenant at_:Int) (h:0≤at_):0≤La l by_ tenant at_∧La l by_ tenant at_≤at_:=by
 unfold La
 have h1:=List.countP_le_length (p:=fun q:QueuedM=>ownB by_ tenant q.origin) (l:=l.take at_.toNat)
 rw[List.length_take]at h1
 omega
def Mb (of:List Int) (tenant:Int) (x:StepM):Bool:=Aj x.port of.length && decide (nth of x.port=tenant) && decide (0≤tenant)
def Ad4 (x y:StepM):Prop:=y.kind=x.kind∧y.port=x.port∧y.domain=x.domain∧y.bytes=x.bytes∧y.up.length=x.up.length
instance (x y:StepM):Decidable (Ad4 x y):=by unfold Ad4;infer_instance
def Ad5 (l:List StepM) (x:StepM) (k:Nat):Prop:=∃ h:k<l.length,Ad4 x l[k]∧0≤l[k].at_∧l[k].at_≤x.at_
instance (l:List StepM) (x:StepM) (k:Nat):Decidable (Ad5 l x k):=by unfold Ad5;infer_instance
def M7 (of:List Int) (tenant:Int) (l:List StepM) (x:StepM) (k:Nat):Nat :=
 if x.kind=1 then (if Mb of tenant x=true then k+1 else k) else if x.kind=2∨x.kind=3 then (if Ad5 l x k then k+1 else k) else k+1
def Hv (of:List Int) (tenant:Int) (l:List StepM):List StepM→Nat→Nat
 | [],k=>k
 | x::s,k=>Hv of tenant l s (M7 of tenant l x k)
theorem Kq (of:List Int) (tenant:Int) (l:List StepM):∀ (a b:List StepM) (k:Nat),Hv of tenant l (a++b) k=Hv of tenant l b (Hv of tenant l a k)
 | [],b,k=>rfl
 | x::a,b,k=>by rw[List.cons_append,Hv,Hv,Kq of tenant l a b]
theorem Ox (of:List Int) (tenant:Int) (l s:List StepM) (k j:Nat) (hj:j<s.length):Hv of tenant l (s.take (j+1)) k=M7 of tenant l s[j] (Hv of tenant l (s.take j) k):=by
 rw[List.take_succ_eq_append_getElem hj,Kq]
 rfl
structure InvK (l:List StepM) (t k:Nat):Prop where
 le:t≤k
 few:k≤l.length
 pick:∀ i (h:i<l.length),t≤i→i<k→l[i].kind=2∨l[i].kind=3
theorem Ab2 (x:StepM) (a:Int):Ad4 x (Adq x a):=⟨rfl,rfl,rfl,rfl,rfl⟩
theorem Z5 (of:List Int) (tenant:Int) (x:StepM):(decide (ownerI of x.port=tenant) && decide (0≤tenant))=Mb of tenant x:=by
 unfold ownerI Mb
 cases h:Aj x.port of.length
 ·rw[if_neg qy]
  by_cases ht:0≤tenant
  ·rw[decide_eq_false qn];rfl
  ·rw[decide_eq_false ht];simp
 ·rw[if_pos rfl,Bool.true_and]
theorem Aal (of by_:List Int) (tenant:Int) (m:MacM) (x:StepM) :
  (x.kind=1→Im of by_ tenant m x=if Mb of tenant x=true then [x] else [])
  ∧ (x.kind=2∨x.kind=3→Im of by_ tenant m x=[]∨∃ a,0≤a∧a≤x.at_∧Im of by_ tenant m x=[Adq x a])
  ∧ (¬ x.kind=1→¬ (x.kind=2∨x.kind=3)→Im of by_ tenant m x=[x]):=by
 refine⟨fun h=>?_,fun h=>?_,fun h1 h2=>?_⟩
 ·unfold Im keepT
  rw[if_pos h,Z5]
 ·unfold Im keepT
  rw[if_neg (show ¬ x.kind=1 by omega),if_pos h]
  split
  ·rename_i hc
   simp only[Bool.and_eq_true]at hc
   have hp:=Bm hc.1
   have:=Wd (Km m x.domain) by_ tenant x.at_ hp.1
   exact .inr ⟨_,this.1,this.2,E⟩
  ·exact .inl E
 ·unfold Im keepT
  rw[if_neg h1,if_neg h2]
  rfl
theorem K1 {α:Type} {a b c l:List α} {x:α} (h:l=a++b++c) (hb:b=[x]):∃ hl:a.length<l.length,l[a.length]=x:=by
 subst hb
 subst h
 refine⟨by simp,?_⟩
 rw[List.getElem_append_left qy,List.getElem_append_right (Nat.le_refl _)]
 simp
theorem Wx {l:List StepM} {t k:Nat} (h:InvK l t k) {x:StepM} (hk:¬ (x.kind=2∨x.kind=3)) (hl:∃ hl:t<l.length,l[t]=x):k=t:=by
 obtain ⟨hl,hx⟩:=hl
 have:=h.le
 by_cases he:k=t
 ·exact he
 ·have:=h.pick t hl (Nat.le_refl _) qn
  rw[hx]at this
  exact absurd this hk
theorem Ww {of:List Int} {tenant:Int} {l a b c:List StepM} {x:StepM} {k:Nat} {m:MacM} {by_:List Int} (hl:l=a++b++c) (hb:b=Im of by_ tenant m x) (h:InvK l a.length k) :
  InvK l (a++b).length (M7 of tenant l x k)∧(x.kind=1→Mb of tenant x=true→∃ hk:k<l.length,l[k]=x)∧(¬ x.kind=1→¬ (x.kind=2∨x.kind=3)→∃ hk:k<l.length,l[k]=x):=by
 have hc:=Aal of by_ tenant m x
 rw[← hb]at hc
 have hle:=h.le
 by_cases h1:x.kind=1
 ·have hb1:=hc.1 h1
  cases hm:Mb of tenant x
  ·rw[hm,if_neg qy]at hb1
   unfold M7
   rw[if_pos h1,hm,if_neg qy,hb1,List.append_nil]
   exact⟨h,fun _ h=>(by cases h),fun h2=>absurd h1 h2⟩
  ·rw[hm,if_pos rfl]at hb1
   have hx:=K1 hl hb1
   have hk:=Wx h (x:=x) qn hx
   subst hk
   unfold M7
   rw[if_pos h1,hm,if_pos rfl,hb1]
   refine⟨⟨by simp,by have:=hx.1;omega,fun i hi h1 h2=>?_⟩,fun _ _=>hx,fun h2=>absurd h1 h2⟩
   simp at h1
   omega
 by_cases h2:x.kind=2∨x.kind=3
 ·refine⟨?_,fun h=>absurd h h1,fun _ h=>absurd h2 h⟩
  unfold M7
  rw[if_neg h1,if_pos h2]
  rcases hc.2.1 h2 with hb1 | ⟨p,hp0,hp1,hb1⟩
  ·rw[hb1,List.append_nil]
   split
   ·rename_i hs
    obtain ⟨hk,hs,_⟩:=hs
    refine⟨by omega,by omega,fun i hi h3 h4=>?_⟩
    by_cases he:i=k
    ·subst he
     rw[hs.1];exact h2
    ·exact h.pick i hi h3 qn
   ·exact h
  ·have hx:=K1 hl hb1
   rw[hb1,List.length_append,List.length_singleton]
   by_cases hk:k=a.length
   ·subst hk
    rw[if_pos ⟨hx.1,by rw[hx.2];exact Ab2 x p,by rw[hx.2];exact hp0,by rw[hx.2];exact hp1⟩]
    refine⟨by omega,by have:=hx.1;omega,fun i hi h3 h4=>by omega⟩
   ·split
    ·rename_i hs
     obtain ⟨hk,hs,_⟩:=hs
     refine⟨by omega,by omega,fun i hi h3 h4=>?_⟩
     by_cases he:i=k
     ·subst he
      rw[hs.1];exact h2
     ·exact h.pick i hi qn qn
    ·exact⟨by omega,h.few,fun i hi h3 h4=>h.pick i hi qn h4⟩
 ·have hb1:=hc.2.2 h1 h2
  have hx:=K1 hl hb1
  have hk:=Wx h (x:=x) h2 hx
  subst hk
  unfold M7
  rw[if_neg h1,if_neg h2,hb1]
  refine⟨⟨by simp,by have:=hx.1;omega,fun i hi h1 h2=>?_⟩,fun h=>absurd h h1,fun _ _=>hx⟩
  simp at h1
  omega
theorem T9 (n:Net) (of:List Int) (tenant:Int) (m:MacM) (by_:List Int) (s:List StepM) (j:Nat) (hj:j<s.length) :
  ∃ c,Ev n of tenant m by_ s=Ev n of tenant m by_ (s.take j)++Im of (byL of by_ (s.take j)) tenant (Dr n m (s.take j)).1 s[j]++c:=by
 have h:=Kk n of tenant (s.take (j+1)) (s.drop (j+1)) m by_
 rw[List.take_append_drop,Qw n of tenant m by_ s j hj]at h
 exact⟨_,h⟩
def Ik (n:Net) (of:List Int) (tenant:Int) (m:MacM) (s:List StepM) (j:Nat):Nat:=Hv of tenant (Ev n of tenant m [] s) (s.take j) 0
theorem Mr (n:Net) (of:List Int) (tenant:Int) (m:MacM) (s:List StepM):∀ j,j≤s.length→InvK (Ev n of tenant m [] s) (Ev n of tenant m [] (s.take j)).length (Ik n of tenant m s j)
 | 0,_=>by
  rw[Ik,List.take_zero]
  exact⟨Nat.le_refl _,Nat.zero_le _,fun i _ _ h=>absurd h (Nat.not_lt_zero _)⟩
 | j+1,hj=>by
  have ih:=Mr n of tenant m s j qn
  obtain ⟨c,hc⟩:=T9 n of tenant m [] s j qn
  have:=(Ww hc rfl ih).1
  rw[Ik,Ox _ _ _ _ _ _ qn,Qw n of tenant m [] s j qn]
  exact this
theorem Af6 (n:Net) (of:List Int) (tenant:Int) (m:MacM) (s:List StepM) (j:Nat) (hj:j<s.length) :
  (s[j].kind=1→Mb of tenant s[j]=true→∃ hk:Ik n of tenant m s j<(Ev n of tenant m [] s).length,(Ev n of tenant m [] s)[Ik n of tenant m s j]=s[j])
  ∧ (¬ s[j].kind=1→¬ (s[j].kind=2∨s[j].kind=3)→∃ hk:Ik n of tenant m s j<(Ev n of tenant m [] s).length,(Ev n of tenant m [] s)[Ik n of tenant m s j]=s[j]):=by
 obtain ⟨c,hc⟩:=T9 n of tenant m [] s j hj
 exact(Ww hc E (Mr n of tenant m s j qn)).2
theorem Af5 (n:Net) (of:List Int) (tenant:Int) (m:MacM) (s:List StepM) (j:Nat) (hj:j<s.length):Ik n of tenant m s (j+1)=M7 of tenant (Ev n of tenant m [] s) s[j] (Ik n of tenant m s j):=by
 rw[Ik,Ox _ _ _ _ _ _ hj]
 rfl
end Go.Sy.YtmelpejjondedaaGreat
namespace Go.Sy.YtmelpejjondedaaGreat
open Go.Proofs
attribute [local irreducible] Go.Sy.G Go.Sy.DR
structure Bx (Q:Prop):Prop where out:Q
theorem sE {α:Sort _} {a b:α} {K:Prop} (e:a=b) (h:K):a=b∧K:=⟨e,h⟩
theorem xE {α:Sort _} {a b:α} {K:a=b→Prop} (e:a=b) (h:K e):∃ e:a=b,K e:=⟨e,h⟩
theorem sL {a b:Int} {K:Prop} (e:a≤b) (h:K):a≤b∧K:=⟨e,h⟩
theorem xL {a b:Int} {K:a≤b→Prop} (e:a≤b) (h:K e):∃ e:a≤b,K e:=⟨e,h⟩
theorem sM {a b:Nat} {K:Prop} (e:a≤b) (h:K):a≤b∧K:=⟨e,h⟩
theorem sT {a b:Nat} {K:Prop} (e:a<b) (h:K):a<b∧K:=⟨e,h⟩
theorem xT {a b:Nat} {K:a<b→Prop} (e:a<b) (h:K e):∃ e:a<b,K e:=⟨e,h⟩
theorem sN {a b:Int} {K:Prop} (e:a≠b) (h:K):a≠b∧K:=⟨e,h⟩
theorem sI {a:Int} {K:Prop} (e:I64 a) (h:K):I64 a∧K:=⟨e,h⟩
theorem ct {p q:Prop} {b:Bool} (h:q) (e:b=true→False:=by
 intro _h
 first | exact absurd _h qx | exact Bool.false_ne_true (Eq.trans (Eq.symm (by with_reducible assumption)) _h) | (simp at _h;done) | (simp at _h;omega)):(b=true→p)∧(b=false→q):=⟨fun x=>(e x).elim,fun _=>h⟩
theorem cf {p q:Prop} {b:Bool} (h:p) (e:b=false→False:=by
 intro _h
 first | exact absurd _h qx | exact Bool.false_ne_true (Eq.trans (Eq.symm _h) (by with_reducible assumption)) | (simp at _h;done) | (simp at _h;omega)):(b=true→p)∧(b=false→q):=⟨fun _=>h,fun x=>(e x).elim⟩
theorem S {P Q:Prop} (h:Q) (e:Bx Q→P:=by
 intro hb
 first | refine rg ?_ | refine rd qq ?_ | skip
 conv=>whnf
 repeat (first
  | ((first | refine aF ?_ | refine aT ?_ | refine ct ?_ | refine cf ?_);(first | refine rg ?_ | refine rd qq ?_);(conv=>whnf))
  | ((first | refine⟨(by kernel_rfl:Yo _ _=true),?_⟩ | refine sI (by unfold I64;omega) ?_);(conv=>whnf)))
 exact hb.out):P:=e ⟨h⟩
theorem T {P Q:Prop} (h:Q) (e:Bx Q→P:=by
 intro hb
 refine S ?_
 repeat ((first | refine sE (by exact rfl) ?_ | refine sL (by first | omega | decide) ?_ | refine xL (by first | omega | decide) ?_ | refine sT (by first | omega | decide) ?_ | refine xT (by first | omega | decide) ?_ | refine sM (by first | omega | decide) ?_ | refine sN (by first | omega | decide) ?_ | refine xE (by exact rfl) ?_);refine S ?_)
 exact hb.out):P:=e ⟨h⟩
theorem D {P:Prop} (h:P:=by
 apply Ac
 ·exact E
 ·(repeat (first | exact ResVs.nil | (apply ResVs.cons;(first | exact .tmp | exact .cell rfl rfl rfl rfl))))
 ·exact E
 ·exact E):P:=h
theorem U {P:Prop} (h:P:=by
 refine⟨?_,?_,E,E⟩
 ·repeat (first | exact trivial | exact rfl | refine⟨rfl,rfl,?_⟩)
 ·repeat (first | exact trivial | refine⟨.inl rfl,rfl,?_⟩ | refine⟨.inr rfl,rfl,?_⟩)):P:=h
theorem Uo {P:Prop} (h:P:=by
 repeat (first | exact trivial | refine⟨.inl rfl,rfl,?_⟩ | refine⟨.inr rfl,rfl,?_⟩)):P:=h
theorem doneE {P:Program} {fn:Func} {F:Fr} {R:SV} {H':Obs} {Γ:Go.Sy.Ty P} {n:Nat} {bn:List Nat} {hbn:∀ k,F.k0 k≠.new→k∈bn} {k:List KI} {s:SS} {rs:List ResultVar} (hf:fn.results=rs.toArray) {xs:List SV} (hx:ResVs Γ.get s rs xs)
  (hR:R.ren (Aw [])=Wc xs) (hRn:R.inn (Obs.keys H')=true) (hsub:Sub ⟨P,Γ,F,n,Ql P fn F R H',bn,hbn⟩ s [] [] H'):G ⟨P,Γ,F,n,Ql P fn F R H',bn,hbn⟩ (.code .ret::k) s:=done hf hx [] H' (fun _ h=>h) hR hRn hsub
theorem doneF {P:Program} {fn:Func} {F:Fr} {R:SV} {H':Obs} {Γ:Go.Sy.Ty P} {n:Nat} {bn:List Nat} {hbn:∀ k,F.k0 k≠.new→k∈bn} {s:SS} {rs:List ResultVar} (hf:fn.results=rs.toArray) {xs:List SV} (hx:ResVs Γ.get s rs xs)
  (hR:R.ren (Aw [])=Wc xs) (hRn:R.inn (Obs.keys H')=true) (hsub:Sub ⟨P,Γ,F,n,Ql P fn F R H',bn,hbn⟩ s [] [] H'):G ⟨P,Γ,F,n,Ql P fn F R H',bn,hbn⟩ [] s:=Bg hf hx [] H' (fun _ h=>h) hR hRn hsub
theorem E0 {P:Prop} (h:P:=by
 first | apply doneE | apply doneF
 ·exact E
 ·(repeat (first | exact ResVs.nil | (apply ResVs.cons;(first | exact .tmp | exact .cell rfl rfl rfl rfl))))
 ·exact E
 ·exact E
 ·exact U):P:=h
theorem W {P:Prop} (h:P:=by
 repeat (first | exact trivial | exact rfl | refine⟨rfl,?_⟩)):P:=h
theorem V {P:Prop} (h:P:=by
 repeat (first | exact trivial | refine⟨.inl rfl,?_⟩ | refine⟨.inr rfl,?_⟩)):P:=h
theorem C {P:Program} {f:FuncId} {fn:Func} {c:Code} {A:List SV} {R:SV} {Z Q:Prop} (hs:Sy.Spec P f A [] R []) (hf:Fun P f fn c) (h:Q) (e:Sy.Spec P f A [] R []→Fun P f fn c→Bx Q→Z:=by
 intro hs hf hb
 first | refine Ag hs hf rfl rfl rfl rfl rfl ?_ | refine Ay hs hf rfl rfl rfl qq rfl ?_
 refine T ?_
 exact hb.out):Z:=e hs hf ⟨h⟩
theorem X {C:Cx} {k:List KI} {s:SS} {all:Array Oper} {o:Oper} {rest:List Oper} {V:Up} {Q:Prop} (hg:Good C.P o s V) (h:Q) (hd:Mk C.n o=true:=by exact rfl) (hw:Dc C.n all o s=some true:=by exact rfl) (e:Bx Q→G C (.ops all rest::k) (s.upd o.dst V):=by
 intro hb
 refine T ?_
 exact hb.out):G C (.ops all (o::rest)::k) s:=Ah hg hd hw (e ⟨h⟩)
theorem Xd {C:Cx} {k:List KI} {s:SS} {all:Array Oper} {done:List Stp} {o:Oper} {rest:List Oper} {V:Up} {Q:Prop} (hg:Good C.P o s V) (h:Q) (hi:all[done.length]? = some o:=by kernel_rfl) (hw:Dc C.n all o s=some true:=by exact rfl) (hn:(Ej o || Ix o)=false:=by exact rfl) (e:Bx Q→DR C k all (done++[⟨done.length,o,V,true⟩]) rest (s.upd o.dst V):=by
 intro hb
 refine T ?_
 exact hb.out):DR C k all done (o::rest) s:=Bs hg hi hw (e ⟨h⟩) hn
theorem Xe {C:Cx} {k:List KI} {s:SS} {all:Array Oper} {done:List Stp} {o:Oper} {rest:List Oper} {V:Up} {Q:Prop} (hg:Good C.P o s V) (h:Q) (hk:KeepL s V.objs:=by exact W) (hi:all[done.length]? = some o:=by kernel_rfl) (hw:Dc C.n all o s=some true:=by exact rfl) (hn:(Ej o || Ix o)=false:=by exact rfl) (e:Bx Q→DR C k all (done++[⟨done.length,o,⟨V.v,V.rd++V.ws,[]⟩,true⟩]) rest (s.upd o.dst ⟨V.v,V.rd++V.ws,[]⟩):=by
 intro hb
 refine T ?_
 exact hb.out):DR C k all done (o::rest) s:=stepD2 hg hk hi hw (e ⟨h⟩) hn
end Go.Sy.YtmelpejjondedaaGreat
namespace Go.Sy.YtmelpejjondedaaGreat
open Go.Proofs
attribute [local irreducible] Go.Sy.G Go.Sy.DR
set_option maxRecDepth 100000
set_option maxHeartbeats 4000000
def Ak5 (of:List Int) (tenant:Int):List SV:=[.sl 1 Aa of,Aa tenant,.osl 11]
def Acp (of by_:List Int) (tenant:Int):Obs:=[(10,.box (Ak5 of tenant)),(11,.row 1 Aa by_)]
def ledN (of by_:List Int) (tenant:Int):Obs:=[(10,.box [.sl 1 Aa of,Aa tenant,.osl 12]),(11,.non),(12,.row 1 Aa by_)]
theorem Wq (of by_:List Int) (tenant port:Int) :
  Sy.Spec Tryz.prog 110 [.ptr 10 0,Aa port] (Acp of by_ tenant) (Aa (ownerI of port)) (Acp of by_ tenant):=Ab Γ hm 100 F110 Tryz.ntmps110 rfl fun F hF=>by
 have hres:=ownerI.eq_1 of port
 generalize ownerI of port=res at *
 refine T ?_
 refine⟨fun h=>?_,fun h=>?_⟩
 ·rw[if_neg (by rw[B8 (by have:=of_decide_eq_true h;omega)];simp)]at hres
  subst hres
  refine T ?_
  exact E0
 refine T ?_
 refine⟨fun h2=>?_,fun h2=>?_⟩
 ·rw[if_neg (by rw[B8 (by have:=of_decide_eq_true h2;omega)];simp)]at hres
  subst hres
  refine T ?_
  exact E0
 have h0:=of_decide_eq_false h
 have h1:=of_decide_eq_false h2
 have hk:port.toNat<of.length:=by omega
 rw[if_pos (Cu qn),An hk]at hres
 subst hres
 refine T ?_
 exact E0
theorem Aiu (of by_:List Int) (tenant port:Int) (hl:by_.length<1000000) :
  Sy.Spec Tryz.prog 66 [.ptr 10 0,Aa port] (Acp of by_ tenant) (.tup []) (ledN of (noteL of by_ port) tenant):=Ab Γ hm 100 F66 Tryz.ntmps66 rfl fun F hF=>by
 have hres:=noteL.eq_1 of by_ port
 generalize noteL of by_ port=res at *
 have q:=Wq of by_ tenant port
 generalize ownerI of port=w at *
 refine T ?_
 refine X (Ai [] E F110 q E W E V) ?_
 refine⟨fun h=>?_,fun h=>?_⟩
 ·rw[if_pos (by have:=of_decide_eq_true h;omega)]at hres
  subst hres
  refine T ?_
  refine Xe (Ai [] E F110 q E W E V) ?_
  refine Xd (Al Γ.toTy 17 rfl rfl rfl rfl rfl (.row rfl) (.lit (e:=Aa) (l:=[w]) rfl rfl) (fun j hj=>by cases hj;decide) (by simp;omega) (by simp;omega)) ?_
  exact Bg E .nil [(12,17)] (ledN of (by_++[w]) tenant) (fun _ h=>h) E E U
 ·rw[if_neg (by have:=of_decide_eq_false h;omega)]at hres
  subst hres
  refine T ?_
  refine Aj7 11 12 E E qx ?_
  exact E0
theorem Ak4 (of by_:List Int) (tenant origin:Int) (hl:by_.length<1000000) :
  Sy.Spec Tryz.prog 111 [.ptr 10 0,Aa origin] (Acp of by_ tenant) (Ad (ownB by_ tenant origin)) (Acp of by_ tenant):=Ab Γ hm 100 F111 Tryz.ntmps111 rfl fun F hF=>by
 have hres:=ownB.eq_1 by_ tenant origin
 generalize ownB by_ tenant origin=res at *
 refine T ?_
 refine⟨fun h=>?_,fun h=>?_⟩
 ·have h0:=of_decide_eq_true h
  refine T ?_
  refine⟨fun h2=>?_,fun h2=>?_⟩
  ·have h1:=of_decide_eq_true h2
   have hk:(origin-1).toNat<by_.length:=by omega
   rw[Cu qn,Bool.true_and,An hk]at hres
   subst hres
   refine T ?_
   exact E0
  ·rw[B8 (by have:=of_decide_eq_false h2;omega),Bool.false_and]at hres
   subst hres
   refine T ?_
   exact E0
 ·rw[B8 (by have:=of_decide_eq_false h;omega),Bool.false_and]at hres
  subst hres
  refine T ?_
  exact E0
theorem Aiq {α β:Type} (f:α→β) (l:List α) (j:Nat) (hj:j<l.length):(l.take (j+1)).map f=(l.take j).map f++[f l[j]]:=by
 rw[List.take_succ_eq_append_getElem hj,List.map_append];rfl
theorem Aa9 {α:Type} (f:α→Bool) (l:List α) (j:Nat) (hj:j<l.length):(l.take (j+1)).countP f=(l.take j).countP f+(if f l[j] then 1 else 0):=by
 rw[List.take_succ_eq_append_getElem hj,List.countP_append];simp[List.countP_cons]
theorem Aiv (of by_:List Int) (tenant:Int) (hl:by_.length<1000000) :
  Sy.Spec Tryz.prog 113 [.ptr 10 0] (Acp of by_ tenant) (.sl 1 Ad (by_.map fun t=>t == tenant)) (Acp of by_ tenant):=Ab Γ hm 100 F113 Tryz.ntmps113 rfl fun F hF=>by
 refine T ?_
 refine Ca 3 1000 1 Ad E E ?_
 refine A1 by_.length (fun j=>[(0,.ptr 10 0),(3,.osl 1000),(9,.osl 11),(10,Aa by_.length),(11,Aa j)]) (fun j=>[(10,.box (Ak5 of tenant)),(11,.row 1 Aa by_),(1000,.row 1 Ad ((by_.take j).map fun t=>t == tenant))]) [] U ?_
 intro j hj
 refine T ?_
 refine⟨fun h=>?_,fun h=>?_⟩
 ·have hlt:j<by_.length:=by have:=of_decide_eq_true h;omega
  have hs:=Aiq (fun t=>t == tenant) by_ j hlt
  refine T ?_
  refine X (Al Γ.toTy 23 E E E E E (.row E) (.lit (e:=Ad) (l:=[by_[((j:Nat):Int).toNat]'qn == tenant]) E E) qy (by simp;omega) (by simp;omega)) ?_
  exact Ar [(1000,23)] hlt ⟨⟨E,E,E,E,E,E,E,E,E,E,Y⟩,⟨.inl E,E,.inl E,E,.inl (congrArg (Ob.row 1 Ad) hs),E,Y⟩,E,E⟩
 ·have hjj:j=by_.length:=by have:=of_decide_eq_false h;omega
  subst hjj
  rw[List.take_length]
  refine T ?_
  refine At 1000 E ?_
  exact E0
theorem Zx (l:List QueuedM) (by_:List Int) (tenant at_:Int) (hl:l.length<1000000) (hb:by_.length<1000000) :
  Sy.Spec Tryz.prog 112 [.sl 7 A4 l,Aa at_,.sl 1 Ad (by_.map fun t=>t == tenant)] [] (Aa (La l by_ tenant at_)) []:=Ab Γ hm 100 F112 Tryz.ntmps112 rfl fun F hF=>by
 obtain ⟨v,hv⟩:∃ v:Int,(if (l.length:Int)<at_ then (l.length:Int) else at_)=v:=⟨_,rfl⟩
 have hkl:v.toNat≤l.length:=by split at hv<;>omega
 have hres:La l by_ tenant at_=((l.take v.toNat).countP fun q=>ownB by_ tenant q.origin:Nat):=by
  unfold La
  split at hv
  ·subst hv
   rw[Int.toNat_natCast,List.take_length,List.take_of_length_le qn]
  ·rw[hv]
 generalize La l by_ tenant at_=res at *
 generalize hk:v.toNat=k at *
 refine T ?_
 refine A1 k (fun j=>[(0,.sl 7 A4 l),(1,Aa at_),(2,.sl 1 Ad (by_.map fun t=>t == tenant)),(7,Aa ((l.take j).countP fun q=>ownB by_ tenant q.origin:Nat)),(8,Aa j)]) (fun _=>[]) [] U ?_
 intro j hj
 refine T ?_
 refine X (W4 hv E E E) ?_
 refine⟨fun h=>?_,fun h=>?_⟩
 ·have hlt:j<l.length:=by have:=of_decide_eq_true h;omega
  have hlk:j<k:=by have:=of_decide_eq_true h;omega
  have hs:=Aa9 (fun q=>ownB by_ tenant q.origin) l j hlt
  obtain ⟨q,hq⟩:∃ q,l[((j:Nat):Int).toNat]'qn=q:=⟨_,rfl⟩
  have hq':l[j]=q:=hq
  rw[hq']at hs
  have hc:=List.countP_le_length (p:=fun q=>ownB by_ tenant q.origin) (l:=l.take j)
  rw[List.length_take]at hc
  have hown:=ownB.eq_1 by_ tenant q.origin
  generalize ownB by_ tenant q.origin=w at *
  refine S ?_
  refine⟨E,by omega,by omega,?_⟩
  rw[hq]
  refine T ?_
  refine⟨fun h1=>?_,fun h1=>?_⟩
  ·refine T ?_
   refine⟨fun h2=>?_,fun h2=>?_⟩
   ·have h1:=of_decide_eq_true h1
    have h2:=of_decide_eq_true h2
    rw[List.length_map]at h2
    have hk:(q.origin-1).toNat<by_.length:=by omega
    rw[Cu qn,Bool.true_and,An hk]at hown
    have hm:(q.origin-1).toNat<(by_.map fun t=>t == tenant).length:=by rw[List.length_map];omega
    have he:(by_.map fun t=>t == tenant)[(q.origin-1).toNat]'hm=w:=by rw[List.getElem_map,hown];rfl
    refine T ?_
    rw[he]
    cases w
    ·refine T ?_
     exact Ar [] hlk ⟨⟨E,E,E,E,E,E,congrArg (fun z:Nat=>Aa z) hs,E,E,E,Y⟩,Y,E,E⟩
    ·refine T ?_
     exact Ar [] hlk ⟨⟨E,E,E,E,E,E,congrArg (fun z:Nat=>Aa z) hs,E,E,E,Y⟩,Y,E,E⟩
   ·have h1:=of_decide_eq_true h1
    have h2:=of_decide_eq_false h2
    rw[List.length_map]at h2
    rw[B8 qn,Bool.false_and]at hown
    subst hown
    refine T ?_
    exact Ar [] hlk ⟨⟨E,E,E,E,E,E,congrArg (fun z:Nat=>Aa z) hs,E,E,E,Y⟩,Y,E,E⟩
  ·rw[B8 (by have:=of_decide_eq_false h1;omega),Bool.false_and]at hown
   subst hown
   refine T ?_
   exact Ar [] hlk ⟨⟨E,E,E,E,E,E,congrArg (fun z:Nat=>Aa z) hs,E,E,E,Y⟩,Y,E,E⟩
 ·have hjj:j=k:=by have:=of_decide_eq_false h;omega
  subst hjj
  subst hres
  refine T ?_
  exact D
def Ahr (n:Net) (m:MacM) (d:Bool) (of by_:List Int) (tenant:Int):Obs:=[(0,.box (Qv n 1 m.now m.injected m.drops)),(1,.box (I6 n m.up d)),(2,.row 1 E9 m.tables),(3,.row 1 Sl m.queues),(10,.box (Ak5 of tenant)),(11,.row 1 Aa by_)]
theorem Aiw (n:Net) (m:MacM) (d:Bool) (of by_:List Int) (tenant:Int) (x:StepM) (hq:∀ dom,D1 (queueL m dom)) (hb:by_.length<1000000) (hx1:x.bytes.length<100000) (hx2:x.up.length<100000) :
  Sy.Spec Tryz.prog 65 [.ptr 10 0,.ptr 0 0,Ce x] (Ahr n m d of by_ tenant) (.tup [Ce (keepT of by_ tenant m x).1,Ad (keepT of by_ tenant m x).2]) (Ahr n m d of by_ tenant):=Ab Γ hm 100 F65 Tryz.ntmps65 rfl fun F hF=>by
 have hres:=keepT.eq_1 of by_ tenant m x
 generalize keepT of by_ tenant m x=res at *
 refine T ?_
 refine C (E2 x.bytes qn) F63 ?_
 refine C (Vk x.up qn) F55 ?_
 refine⟨fun h=>?_,fun h=>?_⟩
 ·have h1:x.kind=1:=by simpa using h
  rw[if_pos h1]at hres
  subst hres
  have q:=Wq of by_ tenant x.port
  generalize ownerI of x.port=w at *
  refine T ?_
  refine Xe (Ai [] E F110 q E W E V) ?_
  by_cases hw:w=tenant
  ·rw[decide_eq_true hw,Bool.true_and]
   refine⟨fun h2=>?_,fun h2=>absurd (hw:w=tenant) (by simpa using h2)⟩
   refine T ?_
   exact E0
  ·rw[decide_eq_false hw,Bool.false_and]
   refine⟨fun h2=>absurd (by simpa using h2) hw,fun h2=>?_⟩
   refine T ?_
   exact E0
 have h1:¬ x.kind=1:=by simpa using h
 rw[if_neg h1]at hres
 clear h
 by_cases h23:x.kind=2∨x.kind=3
 ·rw[if_pos h23]at hres
  have hqo:=hq x.domain
  have q1:Sy.Spec Tryz.prog 57 [.ptr 0 0,Aa x.domain] (B4 n m d) (.sl 7 A4 (Km m x.domain)) (B4 n m d):=Afb n m d x.domain hqo
  have hql:(Km m x.domain).length≤64:=by
   unfold Km
   split
   ·exact hqo.1
   ·exact Nat.zero_le _
  generalize Km m x.domain=l at *
  have q4:=Aiv of by_ tenant hb
  have q5:=Zx l by_ tenant x.at_ qn hb
  refine T ?_
  refine⟨fun h=>?_,fun h=>?_⟩
  rotate_left
  have h2:¬ x.kind=2:=by simpa using h
  clear h
  refine T ?_
  rotate_left
  all_goals
   refine T ?_
   refine X (Ai [] E F57 q1 E W E V) ?_
   refine⟨fun h=>?_,fun h=>?_⟩
   ·have h0:=of_decide_eq_true h
    rw[B8 qn,Bool.false_and,if_neg qy]at hres
    subst hres
    refine T ?_
    exact E0
   have h0:=of_decide_eq_false h
   refine T ?_
   refine⟨fun h=>?_,fun h=>?_⟩
   ·have h1:=of_decide_eq_true h
    rw[B8 qn,Bool.false_and,if_neg qy]at hres
    subst hres
    refine T ?_
    exact E0
   have h1:=of_decide_eq_false h
   have hlt:x.at_.toNat<l.length:=by omega
   rw[Cu qn,Bool.true_and,List.getElem?_eq_getElem hlt,Option.getD_some]at hres
   obtain ⟨q,hqq⟩:∃ q,l[x.at_.toNat]'hlt=q:=⟨_,rfl⟩
   rw[hqq]at hres
   have q3:=Ak4 of by_ tenant q.origin hb
   generalize ownB by_ tenant q.origin=w at *
   refine S ?_
   refine⟨E,by omega,hlt,?_⟩
   rw[hqq]
   refine T ?_
   refine X (Cc [] (Ef E E F111) q3 E W E V) ?_
   cases w
   ·rw[if_neg qy]at hres
    subst hres
    refine T ?_
    exact E0
   rw[if_pos rfl]at hres
   subst hres
   refine T ?_
   refine Xe (Ai [] E F113 q4 E W E V) ?_
   refine C q5 F112 ?_
   exact E0
 ·rw[if_neg h23]at hres
  subst hres
  refine T ?_
  exact E0
structure TabsOK (tabs:List (List EntryM)):Prop where
 few:tabs.length≤60
 tab:∀ t∈tabs,t.length≤60
 ok:Ads tabs
theorem Aco {n:Net} {tabs:List (List EntryM)} (h:TabsOK tabs) (m:MacM) (j:Nat) (hj:j<tabs.length):H8 m tabs (j+1)=(loadT (H8 m tabs j) j tabs[j]).1:=by
 rw[H8,O8 hj,Ow,if_neg (by have:=h.tab _ (List.getElem_mem hj);omega)]
theorem Af2 {m:MacM} {j:Nat} {t:List EntryM} (h:¬ j<m.queues.length):(loadT m j t).1=m:=by
 unfold loadT
 rw[if_neg]
 intro hc
 have:=(placeB_iff.1 hc.1).2
 omega
theorem Ta (n:Net) (hn:n.Fin) (tabs:List (List EntryM)) (hok:okB n (Ag7 n)=false) :
  Sy.Spec Tryz.prog 64 [Aq n,.sl 1 E9 tabs] [] (.tup [.val (.pointer none),Aa 2]) []:=Ab Γ hm 100 F64 Tryz.ntmps64 rfl fun F hF=>by
 refine T ?_
 refine C (Aby n hn hok) F18 ?_
 exact D
theorem Xn (n:Net) (hn:n.Fin) (tabs:List (List EntryM)) (ht:TabsOK tabs) (hok:okB n (Ag7 n)=true) :
  Sy.Spec Tryz.prog 64 [Aq n,.sl 1 E9 tabs] [] (.tup [.ptr 0 0,Aa 0]) (B4 n (C2 n tabs) false):=Ab Γ hm 100 F64 Tryz.ntmps64 rfl fun F hF=>by
 have q1:=Ako n hn hok
 have hn0:=Aed n
 unfold C2
 generalize newT n=m0 at *
 have htl:=ht.few
 have hds:=hn.domains
 unfold Am at hds
 refine T ?_
 refine X (Ai [(0,800),(1,801),(2,802),(3,803)] E F18 q1 E W E V) ?_
 refine E4 2 902 E E qx ?_
 refine A1 tabs.length (fun j=>[(2,.ptr 902 0),(6,.ptr 0 0),(18,.sl 1 E9 tabs),(19,Aa tabs.length),(20,Aa j)]) (fun j=>[(0,.box (Qv n 1 (H8 m0 tabs j).now (H8 m0 tabs j).injected (H8 m0 tabs j).drops)),(1,.box (I6 n (H8 m0 tabs j).up false)),(2,.row 1 E9 (H8 m0 tabs j).tables),(3,.row 1 Sl (H8 m0 tabs j).queues),(902,.box (Z7 n))]) [(0,800),(1,801),(2,802),(3,803)] U ?_
 intro j hj
 have hok0:=Ur hn0 ht.ok j
 refine T ?_
 refine⟨fun h=>?_,fun h=>?_⟩
 ·have hlt:j<tabs.length:=by have:=of_decide_eq_true h;omega
  have hj0:((j:Nat):Int).toNat<tabs.length:=by simpa using hlt
  obtain ⟨t,hoo⟩:∃ t,tabs[j]=t:=⟨_,rfl⟩
  have e1:tabs[((j:Nat):Int).toNat]'hj0=t:=hoo
  have hs:=Aco (n:=n) ht m0 j hlt
  rw[hoo]at hs
  have hti:=ht.ok t (by rw[← hoo];exact List.getElem_mem hlt)
  have htt:=ht.tab t (by rw[← hoo];exact List.getElem_mem hlt)
  have hto:=Zh hti.1 htt
  have hqd:=hok0.ques
  have q2:=Ahq n (H8 m0 tabs j) false j t (by rw[hok0.tabs,hok0.ques]) hto.short hto.mac
  have hout:=Af2 (m:=H8 m0 tabs j) (j:=j) (t:=t)
  rw[← hs]at q2 hout
  clear h
  refine S ?_
  refine⟨E,by omega,hj0,?_⟩
  rw[e1]
  refine T ?_
  refine⟨fun h=>?_,fun h=>?_⟩
  ·refine T ?_
   refine X (Ai [] E F19 q2 E W E V) ?_
   exact Ar [] hlt U
  ·have hm:=hout (by have:=of_decide_eq_false h;omega)
   refine T ?_
   refine Ar [] hlt ⟨⟨E,E,E,E,E,E,E,E,E,E,Y⟩,?_,E,E⟩
   dsimp only
   rw[hm]
   exact Uo
 ·have hjj:j=tabs.length:=by have:=of_decide_eq_false h;omega
  subst hjj
  refine T ?_
  exact E0
def ownAt (n:Net) (of:List Int) (i:Nat):Bool:=if (nth n.ports (i:Int)).link<0 then decide (0≤nth of (i:Int)) && decide (nth of (i:Int)≤9) else decide (nth of (i:Int)=-1)
theorem Acc (n:Net) (of:List Int):Ll n of=(decide (of.length=n.ports.length) && Af n && (List.range of.length).all (ownAt n of)):=rfl
theorem Afm {k:Nat} {p:Nat→Bool} (h:∀ i,i<k→p i=true):(List.range k).all p=true:=by
 rw[List.all_eq_true]
 intro i hi
 exact h i (List.mem_range.1 hi)
theorem Afl {k j:Nat} {p:Nat→Bool} (hj:j<k) (h:p j=false):(List.range k).all p=false:=by
 rw[Bool.eq_false_iff]
 intro ha
 have:=List.all_eq_true.1 ha j (List.mem_range.2 hj)
 rw[h]at this;cases this
theorem Oo (n:Net) (hn:n.Fin) (of:List Int):Sy.Spec Tryz.prog 28 [Aq n,.sl 1 Aa of] [] (Ad (Ll n of)) []:=Ab Γ hm 100 F28 Tryz.ntmps28 rfl fun F hF=>by
 have hres:=Acc n of
 generalize Ll n of=res at *
 have qr:=Bk n hn
 have hps:=hn.ports
 unfold Am at hps
 generalize Af n=nr at *
 refine T ?_
 refine⟨fun h=>?_,fun h=>?_⟩
 ·rw[decide_eq_false (show ¬ of.length=n.ports.length by simp at h;omega),Bool.false_and,Bool.false_and]at hres
  subst hres
  refine T ?_
  exact D
 have hlen:of.length=n.ports.length:=by simp at h;omega
 rw[decide_eq_true hlen,Bool.true_and]at hres
 refine T ?_
 refine C qr F67 ?_
 cases nr
 ·rw[Bool.false_and]at hres
  subst hres
  refine T ?_
  exact D
 rw[Bool.true_and]at hres
 refine T ?_
 refine Bc of.length (fun j=>∀ i,i<j→ownAt n of i=true) (fun j=>[(2,.ptr 2 0),(19,.sl 1 Aa of),(20,Aa of.length),(21,Aa j)]) (fun _=>[(2,.box (Z7 n))]) [] (fun i hi=>absurd hi (Nat.not_lt_zero i)) U ?_
 intro j hj hI
 refine T ?_
 refine⟨fun h=>?_,fun h=>?_⟩
 ·have hlt:j<of.length:=by have:=of_decide_eq_true h;omega
  have hj0:((j:Nat):Int).toNat<of.length:=by simpa using hlt
  have hj1:((j:Nat):Int).toNat<n.ports.length:=by rw[← hlen];exact hj0
  have hat:=ownAt.eq_1 n of j
  rw[An hj1,An hj0]at hat
  obtain ⟨w,hw⟩:∃ w,of[((j:Nat):Int).toNat]'hj0=w:=⟨_,rfl⟩
  obtain ⟨p,hp⟩:∃ p,n.ports[((j:Nat):Int).toNat]'hj1=p:=⟨_,rfl⟩
  rw[hw,hp]at hat
  have bad:ownAt n of j=false→res=false:=fun hb=>by rw[hres];exact Afl hlt hb
  have good:ownAt n of j=true→∀ i,i<j+1→ownAt n of i=true:=fun hb i hi=>by
   by_cases he:i=j
   ·subst he;exact hb
   ·exact hI i qn
  generalize ownAt n of j=g at *
  clear h
  refine S ?_
  refine⟨E,by omega,hj0,?_⟩
  rw[hw]
  refine S ?_
  refine⟨E,by omega,hj1,?_⟩
  rw[hp]
  refine T ?_
  refine⟨fun h1=>?_,fun h1=>?_⟩
  ·have hl:=of_decide_eq_true h1
   rw[if_neg qn]at hat
   refine T ?_
   refine⟨fun h2=>?_,fun h2=>?_⟩
   ·have hr:=bad (by rw[hat];simp at h2;simp;omega)
    subst hr
    refine T ?_
    exact D
   ·have hx:=good (by rw[hat];simp at h2;simp;omega)
    refine T ?_
    refine Ba [] hI hlt hx ?_
    exact U
  ·have hl:=of_decide_eq_false h1
   rw[if_pos qn,← Bool.decide_and]at hat
   refine T ?_
   refine⟨fun h2=>?_,fun h2=>?_⟩
   ·have hr:=bad (by rw[hat];exact decide_eq_false (by have:=of_decide_eq_true h2;omega))
    subst hr
    refine T ?_
    exact D
   refine T ?_
   refine⟨fun h3=>?_,fun h3=>?_⟩
   ·have hr:=bad (by rw[hat];exact decide_eq_false (by have:=of_decide_eq_true h3;omega))
    subst hr
    refine T ?_
    exact D
   have hx:=good (by rw[hat];exact decide_eq_true (by have:=of_decide_eq_false h2;have:=of_decide_eq_false h3;omega))
   refine T ?_
   refine Ba [] hI hlt hx ?_
   exact U
 ·have hjj:j=of.length:=by have:=of_decide_eq_false h;omega
  subst hjj
  have hr:res=true:=by rw[hres];exact Afm hI
  subst hr
  refine T ?_
  exact D
def redO (n:Net) (of:List Int) (tenant:Int) (m:MacM) (d:Bool) (by_:List Int) (out:List StepM):Obs :=
 [(0,.box (Qv n 1 m.now m.injected m.drops)),(1,.box (I6 n m.up d)),(2,.row 1 E9 m.tables),(3,.row 1 Sl m.queues),(10,.box (Ak5 of tenant)),(11,.row 1 Aa by_),(1000,.row 6 Ce out)]
theorem Jm (n:Net) (hn:n.Fin) (hm1:n.Num) (of:List Int) (tabs:List (List EntryM)) (ht:TabsOK tabs) (l:List StepM) (hl:ScriptOK l) (hu:∀ x∈l,x.up.length<100000) (tenant:Int) :
  Sy.Spec Tryz.prog 27 [Aq n,.sl 1 Aa of,.sl 1 E9 tabs,.sl 6 Ce l,Aa tenant] [] (.tup [.sl 6 Ce (reduceT n of tabs l tenant).1,Aa (reduceT n of tabs l tenant).2]) []:=Ab Γ hm 100 F27 Tryz.ntmps27 rfl fun F hF=>by
 have hres:=reduceT.eq_1 n of tabs l tenant
 generalize reduceT n of tabs l tenant=res at *
 have hlen:=hl.few
 cases hok:okB n (Ag7 n)
 ·rw[if_neg (by rw[hok];simp)]at hres
  subst hres
  refine T ?_
  refine C (Ta n hn tabs hok) F64 ?_
  refine Ao 10 6 Ce E ?_
  exact D
 have q1:=Xn n hn tabs ht hok
 have q2:=Oo n hn of
 have hn0:MacOK n (C2 n tabs) 0 0:=Ur (Aed n) ht.ok _
 generalize C2 n tabs=m0 at *
 refine T ?_
 refine X (Ai [(0,800),(1,801),(2,802),(3,803)] E F64 q1 E W E V) ?_
 refine C q2 F28 ?_
 cases how:Ll n of
 ·rw[if_neg (by rw[how];simp)]at hres
  subst hres
  refine T ?_
  refine Ao 10 6 Ce E ?_
  exact D
 rw[if_pos ⟨hok,how⟩]at hres
 subst hres
 refine T ?_
 refine Ca 15 1000 6 Ce E E ?_
 refine Abo 37 2 1001 1 Aa E E E E ?_
 refine A1 l.length (fun j=>[(12,.ptr 0 0),(14,.ptr 10 0),(15,.osl 1000),(38,.sl 6 Ce l),(39,Aa l.length),(40,Aa j)]) (fun j=>redO n of tenant (Dr n m0 (l.take j)).1 (runD n m0 false (l.take j)) (byL of [] (l.take j)) (Ev n of tenant m0 [] (l.take j))) [(0,800),(1,801),(2,802),(3,803),(10,37),(11,1001)] U ?_
 intro j hj
 refine T ?_
 refine⟨fun h=>?_,fun h=>?_⟩
 ·have hlt:j<l.length:=by have:=of_decide_eq_true h;omega
  have hj0:((j:Nat):Int).toNat<l.length:=by simpa using hlt
  obtain ⟨x,hoo⟩:∃ x,l[j]=x:=⟨_,rfl⟩
  have e1:l[((j:Nat):Int).toNat]'hj0=x:=hoo
  have hs:=Afg n m0 l j hlt
  have hds:=Afh n m0 false l j hlt
  have hbs:=Ajt of [] l j hlt
  have hrs:=Qw n of tenant m0 [] l j hlt
  rw[hoo]at hs hds hbs hrs
  have hxb:=hl.bytes x (by rw[← hoo];exact List.getElem_mem hlt)
  have hxu:=hu x (by rw[← hoo];exact List.getElem_mem hlt)
  have hjo:=Ad6 hn hm1 (l.take j) hn0 (Int.le_refl _) (Int.le_refl _)
  have hjl:(l.take j).length=j:=by rw[List.length_take];omega
  have hbl:=Aer of (l.take j) []
  have hrl:=Ua n of tenant (l.take j) m0 []
  rw[hjl]at hjo hbl hrl
  rw[List.length_nil]at hbl
  have q5:=simDoS n hn hm1 (Dr n m0 (l.take j)).1 (runD n m0 false (l.take j)) _ _ hjo qn qn qn x qn
  have g1:(Dr n m0 (l.take (j+1))).1=(doT n (Dr n m0 (l.take j)).1 x).1:=by rw[hs]
  have q3:=Aiw n (Dr n m0 (l.take j)).1 (runD n m0 false (l.take j)) of (byL of [] (l.take j)) tenant x (fun dom=>Dx hjo dom) qn qn hxu
  have q4:=Aiu of (byL of [] (l.take j)) tenant x.port qn
  have hkl:Im of (byL of [] (l.take j)) tenant (Dr n m0 (l.take j)).1 x=if (keepT of (byL of [] (l.take j)) tenant (Dr n m0 (l.take j)).1 x).2=true then [(keepT of (byL of [] (l.take j)) tenant (Dr n m0 (l.take j)).1 x).1] else []:=rfl
  generalize keepT of (byL of [] (l.take j)) tenant (Dr n m0 (l.take j)).1 x=yb at *
  obtain ⟨y,b⟩:=yb
  have hb1:=byStep.eq_1 of (byL of [] (l.take j)) x
  clear h hs
  refine S ?_
  refine⟨E,by omega,hj0,?_⟩
  rw[e1]
  refine T ?_
  refine X (Ai [] E F65 q3 E W E V) ?_
  cases b
  ·rw[hkl,if_neg qy,List.append_nil]at hrs
   refine T ?_
   refine⟨fun h=>?_,fun h=>?_⟩
   ·rw[if_pos (by simpa using h)]at hb1
    refine T ?_
    refine X (Ai [(12,62)] E F66 q4 E W E V) ?_
    refine X (Ai [(4,65)] E F21 q5 E W E V) ?_
    refine Ar [(1,65),(11,62)] hlt ⟨⟨E,E,E,E,E,E,E,E,E,E,E,E,Y⟩,?_,E,E⟩
    dsimp only
    rw[g1,hds,hbs,hrs,hb1]
    exact Uo
   ·rw[if_neg (by simpa using h)]at hb1
    refine T ?_
    refine X (Ai [(4,65)] E F21 q5 E W E V) ?_
    refine Ar [(1,65)] hlt ⟨⟨E,E,E,E,E,E,E,E,E,E,E,E,Y⟩,?_,E,E⟩
    dsimp only
    rw[g1,hds,hbs,hrs,hb1]
    exact Uo
  ·rw[hkl,if_pos rfl]at hrs
   refine T ?_
   refine X (Al Γ.toTy 55 rfl rfl rfl rfl rfl (.row rfl) (.lit (e:=Ce) (l:=[y]) rfl rfl) (fun j hj=>by cases hj;decide) (by simp;omega) (by simp;omega)) ?_
   refine⟨fun h=>?_,fun h=>?_⟩
   ·rw[if_pos (by simpa using h)]at hb1
    refine T ?_
    refine X (Ai [(12,62)] E F66 q4 E W E V) ?_
    refine X (Ai [(4,65)] E F21 q5 E W E V) ?_
    refine Ar [(1,65),(11,62),(1000,55)] hlt ⟨⟨E,E,E,E,E,E,E,E,E,E,E,E,Y⟩,?_,E,E⟩
    dsimp only
    rw[g1,hds,hbs,hrs,hb1]
    exact Uo
   ·rw[if_neg (by simpa using h)]at hb1
    refine T ?_
    refine X (Ai [(4,65)] E F21 q5 E W E V) ?_
    refine Ar [(1,65),(1000,55)] hlt ⟨⟨E,E,E,E,E,E,E,E,E,E,E,E,Y⟩,?_,E,E⟩
    dsimp only
    rw[g1,hds,hbs,hrs,hb1]
    exact Uo
 ·have hjj:j=l.length:=by have:=of_decide_eq_false h;omega
  subst hjj
  rw[List.take_length]
  refine T ?_
  refine At 1000 E ?_
  exact D
theorem If {κ:Ka} {w:World} {a a':SV} {l l':List SV} (h1:∀ v,Rd κ w a' v→Rd κ w a v) (h2:∀ vs,RdL κ w l' vs→RdL κ w l vs):∀ vs,RdL κ w (a'::l') vs→RdL κ w (a::l) vs:=by
 intro vs h
 simp only[RdL]at h ⊢
 obtain ⟨v,r,e1,e2,e3⟩:=h
 exact⟨v,r,e1,h1 v e2,h2 r e3⟩
structure SeensOK (l:List SeenM):Prop where
 few:l.length≤200
 bytes:∀ x∈l,x.bytes.length≤2000
def viewX (of:List Int) (tenant:Int) (x:SeenM):List SeenM:=if (Aj x.port of.length && decide (nth of x.port=tenant))=true then [⟨x.port,0,x.bytes⟩] else []
theorem Abr (of:List Int) (tenant:Int) (l:List SeenM) (j:Nat) (hj:j<l.length):Sb (l.take (j+1)) of tenant=Sb (l.take j) of tenant++viewX of tenant l[j]:=by
 unfold Sb viewX
 rw[List.take_succ_eq_append_getElem hj,List.filter_append,List.map_append]
 congr 1
 by_cases h:(Aj l[j].port of.length && decide (nth of l[j].port=tenant))=true
 ·rw[if_pos h,List.filter_cons_of_pos (p:=fun x:SeenM=>Aj x.port of.length && decide (nth of x.port=tenant)) h];rfl
 ·rw[if_neg h,List.filter_cons_of_neg (p:=fun x:SeenM=>Aj x.port of.length && decide (nth of x.port=tenant)) h];rfl
theorem Ae0 (of:List Int) (tenant:Int) (l:List SeenM):(Sb l of tenant).length≤l.length:=by
 unfold Sb
 rw[List.length_map]
 exact List.length_filter_le _ _
theorem Abw (l:List SeenM) (hl:SeensOK l) (of:List Int) (tenant:Int) :
  Sy.Spec Tryz.prog 24 [.sl 3 Bz l,.sl 1 Aa of,Aa tenant] [] (.sl 3 Bz (Sb l of tenant)) []:=Ab Γ hm 100 F24 Tryz.ntmps24 rfl fun F hF=>by
 have hlen:=hl.few
 refine T ?_
 refine Ca 7 1000 3 Bz E E ?_
 refine A1 l.length (fun j=>[(1,.sl 1 Aa of),(2,Aa tenant),(7,.osl 1000),(10,.sl 3 Bz l),(11,Aa l.length),(12,Aa j)]) (fun j=>[(1000,.row 3 Bz (Sb (l.take j) of tenant))]) [] U ?_
 intro j hj
 refine T ?_
 refine⟨fun h=>?_,fun h=>?_⟩
 ·have hlt:j<l.length:=by have:=of_decide_eq_true h;omega
  have hj0:((j:Nat):Int).toNat<l.length:=by simpa using hlt
  obtain ⟨x,hoo⟩:∃ x,l[j]=x:=⟨_,rfl⟩
  have e1:l[((j:Nat):Int).toNat]'hj0=x:=hoo
  have hs:=Abr of tenant l j hlt
  have hvl:=Ae0 of tenant (l.take j)
  rw[List.length_take]at hvl
  have hxb:=hl.bytes x (by rw[← hoo];exact List.getElem_mem hlt)
  rw[hoo]at hs
  have hv:=viewX.eq_1 of tenant x
  generalize viewX of tenant x=v at *
  clear h
  refine S ?_
  refine⟨E,by omega,hj0,?_⟩
  rw[e1]
  refine T ?_
  refine⟨fun h1=>?_,fun h1=>?_⟩
  ·have h1:=of_decide_eq_true h1
   refine T ?_
   refine⟨fun h2=>?_,fun h2=>?_⟩
   ·have h2:=of_decide_eq_true h2
    have hk:x.port.toNat<of.length:=by omega
    rw[Cu qn,Bool.true_and,An hk]at hv
    refine T ?_
    refine⟨fun h3=>?_,fun h3=>?_⟩
    ·rw[if_pos (decide_eq_true (by simpa using h3))]at hv
     subst hv
     refine T ?_
     refine C (E2 x.bytes qn) F63 ?_
     refine Xd (Al Γ.toTy 43 rfl rfl rfl rfl rfl (.row rfl) (.lit (e:=Bz) (l:=[⟨x.port,0,x.bytes⟩]) rfl rfl) (fun j hj=>by cases hj;decide) (by simp;omega) (by simp;omega)) ?_
     refine Ar [(1000,43)] hlt ⟨⟨E,E,E,E,E,E,E,E,E,E,E,E,Y⟩,⟨.inl (congrArg (Ob.row 3 Bz) hs),E,Y⟩,E,E⟩
    ·rw[if_neg (by simpa using h3),]at hv
     subst hv
     rw[List.append_nil]at hs
     refine T ?_
     refine Ar [] hlt ⟨⟨E,E,E,E,E,E,E,E,E,E,E,E,Y⟩,⟨.inl (congrArg (Ob.row 3 Bz) hs),E,Y⟩,E,E⟩
   ·rw[B8 (by have:=of_decide_eq_false h2;omega),Bool.false_and,if_neg qy]at hv
    subst hv
    rw[List.append_nil]at hs
    refine T ?_
    refine Ar [] hlt ⟨⟨E,E,E,E,E,E,E,E,E,E,E,E,Y⟩,⟨.inl (congrArg (Ob.row 3 Bz) hs),E,Y⟩,E,E⟩
  ·rw[B8 (by have:=of_decide_eq_false h1;omega),Bool.false_and,if_neg qy]at hv
   subst hv
   rw[List.append_nil]at hs
   refine T ?_
   refine Ar [] hlt ⟨⟨E,E,E,E,E,E,E,E,E,E,E,E,Y⟩,⟨.inl (congrArg (Ob.row 3 Bz) hs),E,Y⟩,E,E⟩
 ·have hjj:j=l.length:=by have:=of_decide_eq_false h;omega
  subst hjj
  rw[List.take_length]
  refine T ?_
  refine At 1000 E ?_
  exact D
def great34B (n:Net) (tabs:List (List EntryM)) (l:List StepM):Bool:=D3 n || great33B l || decide (60<tabs.length) || tabs.any fun t=>decide (60<t.length)
theorem V1 {n:Net} {tabs:List (List EntryM)} {l:List StepM} (h:great34B n tabs l=false):D3 n=false∧great33B l=false∧tabs.length≤60∧∀ t∈tabs,t.length≤60:=by
 unfold great34B at h
 simp only[Bool.or_eq_false_iff,decide_eq_false_iff_not,List.any_eq_false,decide_eq_true_eq]at h
 exact⟨h.1.1.1,h.1.1.2,by omega,fun t ht=>by have:=h.2 t ht;omega⟩
theorem Ai6 (n:Net) (tabs:List (List EntryM)) (l:List StepM):Sy.Spec Tryz.prog 26 [Aq n,.sl 1 E9 tabs,.sl 6 Ce l] [] (Ad (great34B n tabs l)) []:=Ab Γ hm 100 F26 Tryz.ntmps26 rfl fun F hF=>by
 have hres:=great34B.eq_1 n tabs l
 generalize great34B n tabs l=res at *
 have q1:=greatS n
 have q2:=Ai7 l
 generalize D3 n=a at *
 generalize great33B l=b at *
 refine T ?_
 refine C q1 F10 ?_
 cases a
 rotate_left
 ·simp only[Bool.true_or]at hres
  subst hres
  refine T ?_
  exact D
 refine T ?_
 refine C q2 F11 ?_
 cases b
 rotate_left
 ·simp only[Bool.true_or,Bool.or_true]at hres
  subst hres
  refine T ?_
  exact D
 simp only[Bool.false_or]at hres
 refine T ?_
 refine⟨fun h=>?_,fun h=>?_⟩
 ·rw[decide_eq_true (by have:=of_decide_eq_true h;omega),Bool.true_or]at hres
  subst hres
  refine T ?_
  exact D
 have h1:=of_decide_eq_false h
 rw[decide_eq_false qn,Bool.false_or]at hres
 refine T ?_
 refine Bc tabs.length (fun j=>Em (fun _ t=>!(decide (60<t.length))) tabs j) (fun j=>[(1,.sl 1 E9 tabs),(7,Aa j)]) (fun _=>[]) [] (Be _ _) U ?_
 intro j hj hI
 refine T ?_
 refine⟨fun h=>?_,fun h=>?_⟩
 ·have hlt:j<tabs.length:=by have:=of_decide_eq_true h;omega
  have hj0:((j:Nat):Int).toNat<tabs.length:=by simpa using hlt
  have hat:=fun h=>@any_at3 _ (fun t:List EntryM=>decide (60<t.length)) tabs j hlt h
  have hnx:=fun h=>Bb (p:=fun _ (t:List EntryM)=>!(decide (60<t.length))) hI hlt h
  obtain ⟨x,hx⟩:∃ x,tabs[((j:Nat):Int).toNat]'hj0=x:=⟨_,rfl⟩
  have hx':tabs[j]=x:=hx
  rw[hx']at hat hnx
  refine S ?_
  refine⟨E,by omega,hj0,?_⟩
  rw[hx]
  refine T ?_
  refine⟨fun h=>?_,fun h=>?_⟩
  ·rw[hat (decide_eq_true (by have:=of_decide_eq_true h;omega))]at hres
   subst hres
   refine T ?_
   exact D
  ·have hn:=hnx (by rw[decide_eq_false (by have:=of_decide_eq_false h;omega)];rfl)
   refine T ?_
   refine Ba [] hI hlt hn ?_
   exact U
 ·rw[Xg hI (by have:=of_decide_eq_false h;omega)]at hres
  subst hres
  refine T ?_
  exact D
def stepsW34:List StepM:=[⟨1,0,0,0,[],[]⟩,⟨1,1,0,0,[],[]⟩,⟨4,0,0,0,[],[]⟩]
theorem redW34:reduceT netW33 [0,1] [] stepsW34 1=([⟨1,1,0,0,[],[]⟩,⟨4,0,0,0,[],[]⟩],0):=by kernel_rfl
theorem Akp:reduceT netW33 [] [] [] 1=([],2):=by kernel_rfl
theorem Ake:Sb [⟨0,3,[]⟩,⟨1,3,[]⟩] [0,1] 1=[⟨1,0,[]⟩]:=by kernel_rfl
theorem scriptW34:ScriptOK stepsW34∧∀ x∈stepsW34,x.up.length<100000:=by
 refine⟨⟨by decide,fun x hx=>?_⟩,fun x hx=>?_⟩
 all_goals
  simp only[stepsW34,List.mem_cons,List.not_mem_nil,or_false]at hx
  rcases hx with rfl | rfl | rfl<;>decide
theorem Zg:TabsOK []:=⟨by decide,fun t h=>(by cases h),fun t h=>(by cases h)⟩
theorem script_nil:ScriptOK []∧∀ x∈([]:List StepM),x.up.length<100000:=⟨⟨by decide,fun x h=>(by cases h)⟩,fun x h=>(by cases h)⟩
theorem Ahv:SeensOK [⟨0,3,[]⟩,⟨1,3,[]⟩]:=by
 refine⟨by decide,fun x hx=>?_⟩
 simp only[List.mem_cons,List.not_mem_nil,or_false]at hx
 rcases hx with rfl | rfl<;>decide
theorem Ag3:Sy.Spec Tryz.prog 23 [] [] (Ad true) []:=Ab Γ hm 100 F23 Tryz.ntmps23 rfl fun F hF=>by
 have q1:=Jm netW33 Ajh Aik [0,1] [] Zg stepsW34 scriptW34.1 scriptW34.2 1
 have q2:=Jm netW33 Ajh Aik [] [] Zg [] script_nil.1 script_nil.2 1
 have q3:=Abw [⟨0,3,[]⟩,⟨1,3,[]⟩] Ahv [0,1] 1
 rw[redW34]at q1
 rw[Akp]at q2
 rw[Ake]at q3
 have q1:=q1.view (A':=[Aq netW33,.sl 1 Aa [0,1],.val (.slice none 0 0),.sl 6 Ce stepsW34,Aa 1]) fun κ w=>If (fun _ h=>h) (If (fun _ h=>h) (If (fun _=>Lu) (fun _ h=>h)))
 have q2:=q2.view (A':=[Aq netW33,.val (.slice none 0 0),.val (.slice none 0 0),.val (.slice none 0 0),Aa 1]) fun κ w=>If (fun _ h=>h) (If (fun _=>Lu) (If (fun _=>Lu) (If (fun _=>Lu) (fun _ h=>h))))
 refine T ?_
 refine Eg 8 Bh netW33.devices E E ?_
 refine At 8 E ?_
 refine Q9 11 (netW33.ports.map A9) E (.cons (.agg (.cons (.refl _) (.cons (.refl _) (.cons (.refl _) (.cons (.refl _) (.cons (.refl _) (.cons (.refl _) (.cons .nil .nil)))))))) (.cons (.agg (.cons (.refl _) (.cons (.refl _) (.cons (.refl _) (.cons (.refl _) (.cons (.refl _) (.cons (.refl _) (.cons .nil .nil)))))))) .nil)) E ?_
 refine Eg 11 A9 netW33.ports E E ?_
 refine At 11 E ?_
 refine Q9 13 (netW33.domains.map Au) E (.cons (.agg (.cons (.refl _) (.cons (.refl _) (.cons (.refl _) (.cons (.refl _) (.cons (.refl _) (.cons .nil .nil))))))) .nil) E ?_
 refine Eg 13 Au netW33.domains E E ?_
 refine At 13 E ?_
 refine A0 1 (Z7 netW33) E (.cons (.refl _) (.cons (.refl _) (.cons .nil (.cons (.refl _) (.cons .nil (.cons .nil (.cons .nil (.cons .nil .nil)))))))) ?_
 refine Eg 17 Aa [0,1] E E ?_
 refine At 17 E ?_
 refine Q9 21 (stepsW34.map Ce) E (.cons (.agg (.cons (.refl _) (.cons (.refl _) (.cons (.refl _) (.cons (.refl _) (.cons .nil (.cons .nil .nil))))))) (.cons (.agg (.cons (.refl _) (.cons (.refl _) (.cons (.refl _) (.cons (.refl _) (.cons .nil (.cons .nil .nil))))))) (.cons (.agg (.cons (.refl _) (.cons (.refl _) (.cons (.refl _) (.cons (.refl _) (.cons .nil (.cons .nil .nil))))))) .nil))) E ?_
 refine Eg 21 Ce stepsW34 E E ?_
 refine At 21 E ?_
 refine G_vw 16 (Aq netW33) (.agg (.cons (.refl _) (.cons (.refl _) (.cons .nil (.cons (.refl _) (.cons .nil (.cons .nil (.cons .nil (.cons .nil .nil))))))))) ?_
 refine C q1 F27 ?_
 refine C q2 F27 ?_
 refine Q9 32 ([⟨0,3,[]⟩,⟨1,3,[]⟩].map Bz) E (.cons (.agg (.cons (.refl _) (.cons (.refl _) (.cons .nil .nil)))) (.cons (.agg (.cons (.refl _) (.cons (.refl _) (.cons .nil .nil)))) .nil)) E ?_
 refine Eg 32 Bz [⟨0,3,[]⟩,⟨1,3,[]⟩] E E ?_
 refine At 32 E ?_
 refine Eg 33 Aa [0,1] E E ?_
 refine At 33 E ?_
 refine C q3 F24 ?_
 exact D
theorem Qh {a b:List UInt8} (h:((⟨a.toArray⟩:ByteArray) == ⟨b.toArray⟩)=true):a=b:=by
 have h2:(a.toArray == b.toArray)=true:=h
 have:=eq_of_beq h2
 simpa using this
def leaveO (n:Net):Obs:=[(5,.box (Z7 n))]
def leaveS (of:List Int) (tenant:Int) (rl l:List StepM) (k j:Nat):List (Nat × SV):=[(1,.sl 1 Aa of),(4,Aa tenant),(5,.ptr 5 0),(11,.sl 6 Ce rl),(13,Aa k),(43,.sl 6 Ce l),(44,Aa l.length),(45,Aa j)]
theorem Xo (n:Net) (hin:n.In) (of:List Int) (tabs:List (List EntryM)) (htabs:Ads tabs) (l:List StepM) (tenant:Int) :
  Sy.Spec Tryz.prog 7 [Aq n,.sl 1 Aa of,.sl 1 E9 tabs,.sl 6 Ce l,Aa tenant] [] (Ad true) []:=Ab Γ hm 100 F7 Tryz.ntmps7 rfl fun F hF=>by
 have hm1:=Afy hin
 refine T ?_
 refine C Ag3 F23 ?_
 have q1:=Ai6 n tabs l
 cases hg:great34B n tabs l
 rotate_left
 ·rw[hg]at q1
  refine C q1 F26 ?_
  exact D
 rw[hg]at q1
 have hgf:=V1 hg
 have hn:=Yl hgf.1
 have hf:=V2 hgf.2.1
 have hsc:ScriptOK l:=⟨hf.1,fun x hx=>(hf.2 x hx).1⟩
 have hu:∀ x∈l,x.up.length<100000:=fun x hx=>by have:=(hf.2 x hx).2;omega
 have ht:TabsOK tabs:=⟨hgf.2.2.1,hgf.2.2.2,htabs⟩
 have hlen:=hsc.few
 refine C q1 F26 ?_
 refine⟨fun h=>?_,fun h=>?_⟩
 ·refine T ?_
  exact D
 refine T ?_
 have q2:=Jm n hn hm1 of tabs ht l hsc hu tenant
 have r2:=reduceT.eq_1 n of tabs l tenant
 by_cases hc:okB n (Ag7 n)=true∧Ll n of=true
 rotate_left
 ·rw[if_neg hc]at r2
  rw[r2]at q2
  refine C q2 F27 ?_
  exact D
 rw[if_pos hc]at r2
 have q3:=Oo n hn of
 rw[hc.2]at q3
 rw[r2]at q2
 have hrl:=Ua n of tenant l (C2 n tabs) []
 have hat:=Af6 n of tenant (C2 n tabs) l
 have hnx:=Af5 n of tenant (C2 n tabs) l
 have hinv:=Mr n of tenant (C2 n tabs) l
 have hk0:Ik n of tenant (C2 n tabs) l 0=0:=rfl
 have hfin:Ik n of tenant (C2 n tabs) l l.length≤(Ev n of tenant (C2 n tabs) [] l).length:=(hinv l.length (Nat.le_refl _)).few
 have hle:∀ j,j≤l.length→Ik n of tenant (C2 n tabs) l j≤(Ev n of tenant (C2 n tabs) [] l).length:=fun j hj=>(hinv j hj).few
 clear hinv r2
 generalize Ik n of tenant (C2 n tabs) l=kf at *
 generalize Ev n of tenant (C2 n tabs) [] l=rl at *
 refine C q2 F27 ?_
 refine A1 l.length (fun j=>leaveS of tenant rl l (kf j) j) (fun _=>leaveO n) [] ⟨⟨E,E,E,E,E,E,E,E,congrArg (fun z:Nat=>Aa z) hk0,E,E,E,E,E,E,E,Y⟩,⟨.inl E,E,Y⟩,E,E⟩ ?_
 intro j hj
 refine T ?_
 refine⟨fun h=>?_,fun h=>?_⟩
 rotate_left
 ·have hjj:j=l.length:=by have:=of_decide_eq_false h;omega
  subst hjj
  refine T ?_
  refine C q3 F28 ?_
  exact Ac E (.cons .tmp .nil) (congrArg Ad (decide_eq_true qn).symm) E
 have hlt:j<l.length:=by have:=of_decide_eq_true h;omega
 have hj0:((j:Nat):Int).toNat<l.length:=by simpa using hlt
 obtain ⟨x,hoo⟩:∃ x,l[j]=x:=⟨_,rfl⟩
 have e1:l[((j:Nat):Int).toNat]'hj0=x:=hoo
 have hat:=hat j hlt
 have hs:=hnx j hlt
 have hkl:=hle j qn
 rw[hoo]at hat hs
 generalize hkj:kf j=k at *
 clear h hnx hle hfin
 refine S ?_
 refine⟨E,by omega,hj0,?_⟩
 rw[e1]
 unfold M7 at hs
 by_cases hk1:x.kind=1
 ·rw[if_pos hk1]at hs
  cases hm:Mb of tenant x
  ·
   rw[hm,if_neg qy]at hs
   have hno:∀ (hp:x.port.toNat<of.length),0≤x.port→of[x.port.toNat]=tenant→tenant<0:=fun hp h1 h3=>by
    unfold Mb at hm
    rw[Cu qn,Bool.true_and,An hp,decide_eq_true h3,Bool.true_and]at hm
    have:=of_decide_eq_false hm
    omega
   clear hm hat
   refine T ?_
   refine⟨fun g=>?_,fun g=>?_⟩
   rotate_left
   refine T ?_
   rotate_right
   have g0:=of_decide_eq_true g
   clear g
   refine T ?_
   refine⟨fun g=>?_,fun g=>?_⟩
   rotate_left
   refine T ?_
   rotate_right
   have g1:=eq_of_beq g
   clear g
   refine T ?_
   refine⟨fun g=>?_,fun g=>?_⟩
   rotate_left
   refine T ?_
   rotate_right
   have g2:=eq_of_beq g
   clear g
   refine T ?_
   refine⟨fun g=>?_,fun g=>?_⟩
   rotate_left
   refine T ?_
   rotate_right
   have g3:=eq_of_beq g
   clear g
   refine T ?_
   have hk0:((k:Nat):Int).toNat<rl.length:=by omega
   refine Xd (Bu Γ.toTy (bs:=(rl[((k:Nat):Int).toNat]'hk0).bytes) E E E E E E E .sl) ?_
   refine Xd (Bu Γ.toTy (bs:=x.bytes) E E E E E E E .sl) ?_
   refine⟨fun g=>?_,fun g=>?_⟩
   rotate_left
   refine T ?_
   rotate_right
   have g4:=Qh g
   clear g
   refine T ?_
   all_goals
    refine⟨fun g=>?_,fun g=>?_⟩
    rotate_left
    ·refine T ?_
     exact Ar [] hlt ⟨⟨E,E,E,E,E,E,E,E,congrArg (fun z:Nat=>Aa z) hs,E,E,E,E,E,E,E,Y⟩,⟨.inl E,E,Y⟩,E,E⟩
    have p1:=of_decide_eq_true g
    clear g
    refine T ?_
    refine⟨fun g=>?_,fun g=>?_⟩
    rotate_left
    ·refine T ?_
     exact Ar [] hlt ⟨⟨E,E,E,E,E,E,E,E,congrArg (fun z:Nat=>Aa z) hs,E,E,E,E,E,E,E,Y⟩,⟨.inl E,E,Y⟩,E,E⟩
    have p2:=of_decide_eq_true g
    clear g
    have hpk:x.port.toNat<of.length:=by omega
    refine T ?_
    refine⟨fun g=>?_,fun g=>?_⟩
    rotate_left
    ·refine T ?_
     exact Ar [] hlt ⟨⟨E,E,E,E,E,E,E,E,congrArg (fun z:Nat=>Aa z) hs,E,E,E,E,E,E,E,Y⟩,⟨.inl E,E,Y⟩,E,E⟩
    have p3:=eq_of_beq g
    clear g
    have p4:=hno hpk p1 p3
    refine T ?_
    exact Ar [] hlt ⟨⟨E,E,E,E,E,E,E,E,congrArg (fun z:Nat=>Aa z) hs,E,E,E,E,E,E,E,Y⟩,⟨.inl E,E,Y⟩,E,E⟩
  ·
   rw[hm,if_pos rfl]at hs
   obtain ⟨hkk,hxk⟩:=hat.1 hk1 hm
   unfold Mb at hm
   simp only[Bool.and_eq_true,decide_eq_true_eq]at hm
   obtain ⟨⟨hp,hm2⟩,hm3⟩:=hm
   have hp:=Bm hp
   have hpk:x.port.toNat<of.length:=by omega
   rw[An hpk]at hm2
   have hk0:((k:Nat):Int).toNat<rl.length:=by omega
   have f1:rl[k].kind=x.kind:=by rw[hxk]
   have f2:rl[k].port=x.port:=by rw[hxk]
   have f3:rl[k].domain=x.domain:=by rw[hxk]
   have f4:rl[k].up.length=x.up.length:=by rw[hxk]
   have f5:(rl[((k:Nat):Int).toNat]'hk0).bytes=x.bytes:=congrArg StepM.bytes hxk
   have f6:rl[k].at_=x.at_:=by rw[hxk]
   refine T ?_
   refine Xd (Bu Γ.toTy (bs:=(rl[((k:Nat):Int).toNat]'hk0).bytes) E E E E E E E .sl) ?_
   refine Xd (Bu Γ.toTy (bs:=x.bytes) E E E E E E E .sl) ?_
   refine⟨fun _=>?_,fun h=>False.elim (by rw[f5]at h;simp[K5]at h)⟩
   refine T ?_
   exact Ar [] hlt ⟨⟨E,E,E,E,E,E,E,E,congrArg (fun z:Nat=>Aa z) hs,E,E,E,E,E,E,E,Y⟩,⟨.inl E,E,Y⟩,E,E⟩
 rw[if_neg hk1]at hs
 by_cases hk23:x.kind=2∨x.kind=3
 ·rw[if_pos hk23]at hs
  by_cases hS:Ad5 rl x k
  ·rw[if_pos hS]at hs
   obtain ⟨hkk,⟨f1,f2,f3,f5,f4⟩,ha0,ha1⟩:=hS
   have hk0:((k:Nat):Int).toNat<rl.length:=by omega
   have f5:(rl[((k:Nat):Int).toNat]'hk0).bytes=x.bytes:=f5
   rcases hk23 with hk2 | hk2
   all_goals
    refine T ?_
    refine Xd (Bu Γ.toTy (bs:=(rl[((k:Nat):Int).toNat]'hk0).bytes) E E E E E E E .sl) ?_
    refine Xd (Bu Γ.toTy (bs:=x.bytes) E E E E E E E .sl) ?_
    refine⟨fun _=>?_,fun h=>False.elim (by rw[f5]at h;simp[K5]at h)⟩
    refine T ?_
    exact Ar [] hlt ⟨⟨E,E,E,E,E,E,E,E,congrArg (fun z:Nat=>Aa z) hs,E,E,E,E,E,E,E,Y⟩,⟨.inl E,E,Y⟩,E,E⟩
  ·rw[if_neg hS]at hs
   clear hat
   rcases hk23 with hk2 | hk2
   all_goals
    refine T ?_
    refine⟨fun g=>?_,fun g=>?_⟩
    rotate_left
    refine T ?_
    rotate_right
    have g0:=of_decide_eq_true g
    clear g
    refine T ?_
    refine⟨fun g=>?_,fun g=>?_⟩
    rotate_left
    refine T ?_
    rotate_right
    have g1:=eq_of_beq g
    clear g
    refine T ?_
    refine⟨fun g=>?_,fun g=>?_⟩
    rotate_left
    refine T ?_
    rotate_right
    have g2:=eq_of_beq g
    clear g
    refine T ?_
    refine⟨fun g=>?_,fun g=>?_⟩
    rotate_left
    refine T ?_
    rotate_right
    have g3:=eq_of_beq g
    clear g
    refine T ?_
    have hk0:((k:Nat):Int).toNat<rl.length:=by omega
    refine Xd (Bu Γ.toTy (bs:=(rl[((k:Nat):Int).toNat]'hk0).bytes) E E E E E E E .sl) ?_
    refine Xd (Bu Γ.toTy (bs:=x.bytes) E E E E E E E .sl) ?_
    refine⟨fun g=>?_,fun g=>?_⟩
    rotate_left
    refine T ?_
    rotate_right
    have g4:=Qh g
    clear g
    refine T ?_
    rotate_left
    iterate 5
     (exact Ar [] hlt ⟨⟨rfl,rfl,rfl,rfl,rfl,rfl,rfl,rfl,congrArg (fun z:Nat=>Aa z) hs,rfl,rfl,rfl,rfl,rfl,rfl,rfl,trivial⟩,⟨.inl rfl,rfl,trivial⟩,rfl,rfl⟩)
    refine⟨fun g=>?_,fun g=>?_⟩
    rotate_left
    ·refine T ?_
     exact Ar [] hlt ⟨⟨E,E,E,E,E,E,E,E,congrArg (fun z:Nat=>Aa z) hs,E,E,E,E,E,E,E,Y⟩,⟨.inl E,E,Y⟩,E,E⟩
    have g5:=eq_of_beq g
    clear g
    refine T ?_
    refine⟨fun g=>?_,fun g=>?_⟩
    rotate_left
    ·refine T ?_
     exact Ar [] hlt ⟨⟨E,E,E,E,E,E,E,E,congrArg (fun z:Nat=>Aa z) hs,E,E,E,E,E,E,E,Y⟩,⟨.inl E,E,Y⟩,E,E⟩
    have g6:=of_decide_eq_true g
    clear g
    refine T ?_
    refine⟨fun g=>?_,fun g=>?_⟩
    rotate_left
    ·refine T ?_
     exact Ar [] hlt ⟨⟨E,E,E,E,E,E,E,E,congrArg (fun z:Nat=>Aa z) hs,E,E,E,E,E,E,E,Y⟩,⟨.inl E,E,Y⟩,E,E⟩
    have g7:=of_decide_eq_true g
    clear g
    have z0:k<rl.length:=by omega
    exact absurd ⟨z0,⟨g1,g2,g3,g4,Int.ofNat.inj g5⟩,g6,g7⟩ hS
 ·rw[if_neg hk23]at hs
  obtain ⟨hkk,hxk⟩:=hat.2 hk1 hk23
  have hk0:((k:Nat):Int).toNat<rl.length:=by omega
  have f1:rl[k].kind=x.kind:=by rw[hxk]
  have f2:rl[k].port=x.port:=by rw[hxk]
  have f3:rl[k].domain=x.domain:=by rw[hxk]
  have f4:rl[k].up.length=x.up.length:=by rw[hxk]
  have f5:(rl[((k:Nat):Int).toNat]'hk0).bytes=x.bytes:=congrArg StepM.bytes hxk
  have f6:rl[k].at_=x.at_:=by rw[hxk]
  refine T ?_
  refine Xd (Bu Γ.toTy (bs:=(rl[((k:Nat):Int).toNat]'hk0).bytes) E E E E E E E .sl) ?_
  refine Xd (Bu Γ.toTy (bs:=x.bytes) E E E E E E E .sl) ?_
  refine⟨fun _=>?_,fun h=>False.elim (by rw[f5]at h;simp[K5]at h)⟩
  refine T ?_
  exact Ar [] hlt ⟨⟨E,E,E,E,E,E,E,E,congrArg (fun z:Nat=>Aa z) hs,E,E,E,E,E,E,E,Y⟩,⟨.inl E,E,Y⟩,E,E⟩
end Go.Sy.YtmelpejjondedaaGreat
namespace Go.Proofs.YtmelpejjondedaaGreat
open Go.ChangeShapes Go.WideShapes Go.ChangeAt Go.RowKit
set_option maxRecDepth 100000
theorem Lx:Tryz.checked.prog.inPlace 7=Rows.splitLeavesRow.inPlace:=by kernel_rfl
theorem Jn:Tryz.checked.prog.unfollowed 7=Rows.splitLeavesRow.unfollowed:=by kernel_rfl
theorem Kf:Tryz.checked.prog.recurses 7=Rows.splitLeavesRow.recurses:=by kernel_rfl
theorem M9:Tryz.checked.prog.varsNamed 7=Rows.splitLeavesRow.named:=by kernel_rfl
theorem Qt:Tryz.checked.prog.liftsFinal=Rows.splitLeavesRow.lifted:=by kernel_rfl
theorem Lw:laidOutB Tryz.checked.prog=true:=by kernel_rfl
theorem Od:Tryz.checked.prog.mayEnter=true:=by kernel_rfl
theorem Oa:Tryz.checked.prog.stopsHeard=true:=by kernel_rfl
theorem Oc:joinedFacts Tryz.checked.prog 7 Tryz.f7 Rows.splitLeavesSpec Rows.splitLeavesRow=true:=by
 unfold joinedFacts
 rw[Lx,Jn,Kf,M9,Qt,Lw,Od,Oa]
 kernel_rfl
end Go.Proofs.YtmelpejjondedaaGreat
