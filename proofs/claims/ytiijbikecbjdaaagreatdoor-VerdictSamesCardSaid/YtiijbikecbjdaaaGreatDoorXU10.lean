/-
  I21 D0 D5 D6 D3 D4 D7 D8: parts of a proof, joined by program.
-/
import Derived.Test.YtiijbikecbjdaaaGreatDoorXU7
import Derived.Test.YtiijbikecbjdaaaGreatDoorXU6
import Derived.Test.YtiijbikecbjdaaaGreatDoorXU5
import Derived.Test.YtiijbikecbjdaaaGreatDoorXU8
set_option linter.all false
set_option linter.unusedVariables false
set_option linter.unusedSimpArgs false
set_option linter.deprecated false
namespace Go.Sy.YtiijbikecbjdaaaGreatDoor
open Go.Proofs
def Da (f:List Int):Prop:=∀ i (h:i<f.length),0≤f[i]∧f[i]≤i
def Akh:Nat→List Int→Int→List Int × Int
 | 0,f,i=>(f,i)
 | k+1,f,i=>if nth f i=i then (f,i) else Akh k (f.set i.toNat (nth f (nth f i))) (nth f (nth f i))
def Kq (f:List Int) (i:Int):List Int × Int:=Akh (i.toNat+1) f i
def U9 (f:List Int) (a b:Int):List Int × Bool :=
 let x:=Kq f a
 let y:=Kq x.1 b
 (y.1.set (max x.2 y.2).toNat (min x.2 y.2),x.2 != y.2)
def L4 (k:Nat):List Int:=(List.range k).map λ i:Nat=>(i:Int)
def Dl (n:Net) (f:List Int) (i:Int) (v:Int):List Int:=if (linkDomT n i v).2=true then (U9 f (Jm n (nth n.ports i).dev v) (linkDomT n i v).1).1 else f
def Ig (n:Net) (f:List Int) (i:Nat):List Int:=((nth n.ports i).tagged++[(nth n.ports i).native]).foldl (λ f v=>Dl n f i v) f
def T7 (n:Net) (f:List Int):List Int:=(List.range n.ports.length).foldl (Ig n) f
def Afw:Int→List Int→Int
 | m,[]=>m
 | m,x::l=>Afw (min m x) l
def Alt (l:List Int):Int:=Afw (nth l 0) (l.drop 1)
def Zo (n:Net):List Int→Nat→List Domain→Int × Bool
 | _,_,[]=>(0,false)
 | f,i,d::r=>if d.peers=[] then Zo n f (i+1) r else
  let x:=U9 f i ((n.domains.length:Int)+min (i:Int) (Alt d.peers))
  if x.2=false then (d.row,true) else Zo n x.1 (i+1) r
def loopT (n:Net):Int × Bool:=if Ac n=false then (0,false) else Zo n (T7 n (L4 (2 * n.domains.length))) 0 n.domains
def finishT (n:Net):Net × Int × Int:=if (meshNT n).2.2≠0 then meshNT n else if (loopT (meshNT n).1).2=true then (emptyN,(loopT (meshNT n).1).1,38) else ((meshNT n).1,0,0)
def C5:Net→List LineM→Net × Int × Int
 | n,[]=>finishT n
 | n,l::r=>if (putT n l).2≠0 then (emptyN,l.row,(putT n l).2) else C5 (putT n l).1 r
def Dq (l:List LineM):Net × Int × Int:=C5 emptyN l
def netTextT (b:List UInt8):Net × Int × Int:=if (textT b).2.2≠0 then (emptyN,(textT b).2.1,(textT b).2.2) else Dq (textT b).1
end Go.Sy.YtiijbikecbjdaaaGreatDoor
namespace Go.Sy.YtiijbikecbjdaaaGreatDoor
open Go.Proofs
attribute [local irreducible] Go.Sy.G Go.Sy.DR
set_option maxRecDepth 20000
set_option maxHeartbeats 8000000
theorem Mb {i:Int} {n:Nat} (h:0≤i∧i<n):An i n=true:=by simp only[An,zH,zQ];exact h
theorem Xf {i:Int} {n:Nat} (h:¬ (0≤i∧i<n)):An i n=false:=by simp only[An,yU,zY];omega
theorem Auq {n:Net} (h:Ac n=true) {i:Nat} (hi:i<n.domains.length):n.domains[i].irb=-1∨InIrbs n n.domains[i].irb:=by
 have:=A1s h hi
 simp only[Q2,An,zH,yO,yF,zQ]at this
 rcases this.1.2 with h1 | h1
 ·exact .inl h1
 ·exact .inr ⟨h1.1.1,by omega⟩
end Go.Sy.YtiijbikecbjdaaaGreatDoor
