/- Parts of a proof. -/
import Derived.Test.YtolnneiipmfgaaaGreatDoorYC7
set_option linter.all false
set_option linter.unusedVariables false
set_option linter.unusedSimpArgs false
set_option linter.deprecated false
namespace Go.Sy.YtolnneiipmfgaaaGreatDoor
open Go.Proofs Go.Proofs.Tryz
def Dy(f:List Int):Prop:=∀i (h:i<f.length),0≤f[i]∧f[i]≤i
def Aoc:Nat→List Int→Int→List Int×Int
 |0,f,i=>(f,i)
 |k+1,f,i=>if nth f i=i then (f,i) else Aoc k (f.set i.toNat (nth f (nth f i))) (nth f (nth f i))
def L8(f:List Int)(i:Int):List Int×Int:=Aoc (i.toNat+1) f i
def X3(f:List Int)(a b:Int):List Int×Bool :=
 let x:=L8 f a
 let y:=L8 x.1 b
 (y.1.set (max x.2 y.2).toNat (min x.2 y.2),x.2 != y.2)
def O6(k:Nat):List Int:=(List.range k).map λi:Nat=>(i:Int)
def D9(n:Net)(f:List Int)(i:Int)(v:Int):List Int:=if (linkDomT n i v).2=true then (X3 f (C5 n (nth n.ports i).dev v) (linkDomT n i v).1).1 else f
def Jj(n:Net)(f:List Int)(i:Nat):List Int:=((nth n.ports i).tagged++[(nth n.ports i).native]).foldl (λf v=>D9 n f i v) f
def Wv(n:Net)(f:List Int):List Int:=(List.range n.ports.length).foldl (Jj n) f
def Aiv:Int→List Int→Int
 |m,[]=>m
 |m,x::l=>Aiv (min m x) l
def Apo(l:List Int):Int:=Aiv (nth l 0) (l.drop 1)
def Tn(n:Net):List Int→Nat→List Domain→Int×Bool
 |_,_,[]=>(0,false)
 |f,i,d::r=>if d.peers=[] then Tn n f (i+1) r else
  let x:=X3 f i ((n.domains.length:Int)+min (i:Int) (Apo d.peers))
  if x.2=false then (d.row,true) else Tn n x.1 (i+1) r
def loopT(n:Net):Int×Bool:=if Ac n=false then (0,false) else Tn n (Wv n (O6 (2*n.domains.length))) 0 n.domains
def finishT(n:Net):Net×Int×Int:=if (meshNT n).2.2≠0 then meshNT n else if (loopT (meshNT n).1).2=true then (emptyN,(loopT (meshNT n).1).1,38) else ((meshNT n).1,0,0)
def B0:Net→List LineM→Net×Int×Int
 |n,[]=>finishT n
 |n,l::r=>if (putT n l).2≠0 then (emptyN,l.row,(putT n l).2) else B0 (putT n l).1 r
def Dk(l:List LineM):Net×Int×Int:=B0 emptyN l
def netTextT(b:List UInt8):Net×Int×Int:=if (textT b).2.2≠0 then (emptyN,(textT b).2.1,(textT b).2.2) else Dk (textT b).1
attribute [local irreducible] Go.Sy.G Go.Sy.DR
set_option maxRecDepth 20000
set_option maxHeartbeats 8000000
def Qg{i:Int}{n:Nat}(h:0≤i∧i<n):Ai i n=true:=by simp only[Ai,zG,zK];exact h
def Z1{i:Int}{n:Nat}(h:¬(0≤i∧i<n)):Ai i n=false:=by simp only[Ai,yX,yE];omega
def Ahn{n:Net}(h:Ac n=true){i:Nat}(hi:i<n.ports.length):0≤n.ports[i].native∧inB n.ports[i].tagged n.ports[i].native=false:=by
 have:=Avb h hi;simp only[J8,zG,zK,yT]at this;exact⟨this.1.1.1.1.1.1.1.2,this.1.1.1.1.2⟩
def A0s{n:Net}(h:Ac n=true){i:Nat}(hi:i<n.domains.length):n.domains[i].irb=-1∨InIrbs n n.domains[i].irb:=by
 have:=Axb h hi;simp only[O4,Ai,zG,yO,yI,zK]at this;rcases this.1.2 with h1|h1
 ·exact .inl h1
 ·exact .inr ⟨h1.1.1,by omega⟩
end Go.Sy.YtolnneiipmfgaaaGreatDoor
