/- Parts of a proof. -/
import Derived.Test.YtolnneiipmfgaaaGreatDoorYC22
set_option linter.all false
set_option linter.unusedVariables false
set_option linter.unusedSimpArgs false
set_option linter.deprecated false
namespace Go.Sy.YtolnneiipmfgaaaGreatDoor
open Go.Proofs Go.Proofs.Tryz
def Xy{b:List UInt8}(h:(netTextT b).2.2=0):(netTextT b).1.Fin∧BuiltK (netTextT b).1∧Cu (netTextT b).1=true:=by
 rw[netTextT]at h⊢;split at h
 ·contradiction
 rename_i h1;rw[zD h1];exact A04 (λx hx=>(S5 b x hx).w) h
def Us{b c:List UInt8}(h:(verifyT b c).kind=2):(netTextT b).2.2=0∧∃f to:Nat,(verifyT b c).from_=f∧(verifyT b c).to=to∧(wscriptT (netTextT b).1 f to).2=0∧(verifyT b c).script=(wscriptT (netTextT b).1 f to).1:=by
 rw[verifyT]at h⊢;split at h
 ·cases h
 rename_i h1;split at h
 ·cases h
 rename_i h2;rw[zD h1,zD h2];have e1:(netTextT b).2.2=0:=Classical.byContradiction h1;refine⟨e1,?_⟩;rw[Ae8]at h⊢;split at h
 ·cases h
 rename_i h3;rw[zD h3];split at h
 ·cases h
 rename_i h4;rw[zD h4];have hl:(leaksT (netTextT b).1 (assignT (netTextT b).1 (policyT c).1).1).2.2=true:=by simpa using h4
 obtain ⟨f,to,el,_,hw⟩:=Auk hl;refine⟨f,to,?_,?_,Aym (Agg b e1).2 hw,?_⟩
 ·rw[el]
 ·rw[el]
 ·rw[el]
def Aum{b c:List UInt8}(h:(verifyT b c).kind=2):∃i0 rest,(verifyT b c).script=i0::rest∧i0.kind=1∧i0.port=(verifyT b c).from_∧i0.bytes.length≤2000∧rest.length+1≤4*(netTextT b).1.domains.length+2∧(∀y∈rest,(y.kind=2∨y.kind=5)∧y.bytes=[]) ∧
  Ans (verifyT b c).to (D7 (netTextT b).1 (newT (netTextT b).1) (i0::rest)).2=true∧(D7 (netTextT b).1 (newT (netTextT b).1) rest).2=[]:=by
 obtain ⟨e1,f,to,ef,et,hs,es⟩:=Us h;obtain ⟨hn,B,hc⟩:=Xy e1;obtain ⟨rest,x,k1,k2,k3,s,s1,s2,s3⟩:=Alx B hc hs;refine⟨_,rest++[x],by rw[es,k1];rfl,E,ef.symm,Amu B hc hs,by rw[zQ,zW];omega,k3,?_,Ay1 λy hy=>?_⟩
 ·have:=Ab1 (netTextT b).1 (injectW (netTextT b).1 f (wayT (netTextT b).1 f to).1::rest) (newT (netTextT b).1) x;rw[xY]at this;rw[this,et,Ans,wV];exact⟨s,uI _ s1,by rw[zL s2,zL s3];rfl⟩
 ·rcases (k3 y hy).1 with e|e<;>rw[e]<;>decide
end Go.Sy.YtolnneiipmfgaaaGreatDoor
