/- Parts of a proof. -/
import Derived.Test.YtedbfemmehbeoaaGreatDoorXC25
import Derived.Test.YtedbfemmehbeoaaGreatDoorXC30
set_option maxHeartbeats 4000000
set_option linter.all false
namespace Go.Sy.Zaa
open Go.Proofs Go.Proofs.Tryz
section
attribute [local irreducible]G DR
set_option maxRecDepth 100000
def A9q(M:List A2)(g:∀l∈M,E7 l)(i:M.length<2147483648):Sq 75 [.ptr 0 0] (L9 0 0 M (Au,0,0)) (.tup [Aq (E6 M).1,Aa (E6 M).2.1,Aa (E6 M).2.2]) (L9 1 0 M (E6 M)):=cT F75 ntmps75 λF j=>by
 have q:=Bel M g i;refine T ?_;refine X (Ad [] q_ F151 q q_ W q_ V) ?_;refine T ?_;exact done q_ (.cons (.cell q_ q_ q_ q_) (.cons .tmp As)) [] (L9 1 0 M (E6 M)) (λ_ h=>h) q_ q_ U
def A6b(M:List A2)(g:∀l∈M,E7 l)(i:M.length<2147483648):Sp 39 [.sl 17 Be M] (.tup [Aq (E6 M).1,Aa (E6 M).2.1,Aa (E6 M).2.2]):=cT F39 ntmps39 λF j=>by
 have q:=A9q M g i;refine T ?_;refine An 8 (Abp 0 0 M Au 0 0) q_ vL (X (Ad [(0,8)] q_ F75 q q_ W q_ V) ?_);exact gA
theorem Apb.w{l:A2}(h:Apb l):E7 l where
 fin:=by
  have e:∀{l:List Int} {m:Int},Jm l m=true->m<=65535->l.length<=100000:=λ{l} {m} g hm=>by
   rcases Aad.1 g with h|h
   .rw[h];exact xV _
   .have:=(oS.1 h).2.2.2;omega
  exact⟨e h.u qq,e h.ak qq,e h.am qq,by have:=h.aa;omega⟩
 ok:=h.ok
 q:=by have:=h.q;omega
 ac:=by have:=h.ac;omega
 peer:=by have:=h.peer;omega
 bi:=by have:=h.bi;omega
 cce:=by have:=h.name;omega
def oL:∀(g:List ByteArray) (i:Nat) (out:List A2),(K3 i g out).1.length<=out.length+g.length
 |[],_,out=>by rw[K3];simp
 |r::g,i,out=>by
  rw[K3];split
  .simp
  .split
   .have:=oL g (i+1) out;rw[yI];omega
   .split
    .simp
    .have:=oL g (i+1) (out++[(Dh (Iu r).1 ((i:Int)+1)).1]);rw[zR,yD]at this;rw[yI];omega
def A88(b:List UInt8):(Lk b).1.length<=400:=by
 have h:=(W9 b).1;unfold Lk;split
 .simp
 .have:=oL (H5 b).1 0 [];rw[xG]at this;omega
def Acg(b:List UInt8)(i:b.length<=1000000):Sp 18 [.sl 1 Ae b] (.tup [Aq (Ak b).1,Aa (Ak b).2.1,Aa (Ak b).2.2]):=cT F18 ntmps18 λF P=>by
 have j:=A4k b i;have l:=A6b (Lk b).1 (λx o=>(Zf b x o).w) (by have:=A88 b;omega);have g:=Ak.eq_1 b;generalize Ak b=p at *;generalize Lk b=t at *;refine gD j F38 ?_;refine gP ?_ ?_<;>intro h
 .have r:t.2.2≠0:=by intro e;rw[e]at h;cases h
  rw[zE r]at g;subst g;clear h;refine T ?_;exact An 2 (Eo Au) q_ vL D
 .have I:t.2.2=0:=by simpa using h
  rw[zD (λJ=>J I)]at g;subst g;clear h;refine gD l F39 ?_;exact D
end
def Jv(b:List UInt8):(Ak b).1.Fin/\Eb (Ak b).1:=by
 by_cases h:(Ak b).2.2=0
 .rw[Ak]at h|-;split at h
  .contradiction
  rename_i g;rw[zD g];exact Aaw (Lk b).1 Au Qs (λx i=>(by cases i)) (λx i=>(Zf b x i).w) h
 .have:(Ak b).1=Au:=by
   rw[Ak]at h|-;split at h
   .rename_i g;rw[zE g]
   .rename_i g;rw[zD g];exact eJ (Lk b).1 Au h
  rw[this];exact⟨Qs,λx i=>by cases i⟩
def Aaa(b:List UInt8)(h:(Ak b).2.2=0):(Ak b).1.Num/\Hj (Ak b).1=true:=by
 have g:=(Jv b).2;rw[Ak]at h g|-;split at h
 .contradiction
 rename_i i;rw[zD i]at g|-;exact⟨⟨aK (Lk b).1 Au (λd j=>by cases j) (λx l=>(Zf b x l).w) h,g⟩,Bc3 (eK (Lk b).1 Au eB h)⟩
def A73{M:List A2}(i:∀z∈M,E7 z)(h:(E6 M).2.2=0):(E6 M).1.Fin/\Oj (E6 M).1/\Hj (E6 M).1=true:=by
 have j:E6 M=Bw Au M:=rfl;rw[j]at h|-;obtain ⟨l,o⟩:=Aaw M Au Qs (λx p=>(by cases p)) i h;obtain ⟨_,r,hm,_⟩:=Agk M Au (λ_=>0) Av6 A1g h;have g:=Vh (n:=(Bw Au M).1) (by rw[hm]);refine⟨l,⟨r,Ao1 M Au Aoh h,⟨aK M Au (λd t=>by cases t) i h,o⟩,by rw[hm],?_⟩,Bc3 (eK M Au eB h)⟩;rw[<-g.1,hm]
def nB{b:List UInt8}(h:(Ak b).2.2=0):(Ak b).1.Fin/\Oj (Ak b).1/\Hj (Ak b).1=true:=by
 rw[Ak]at h|-;split at h
 .contradiction
 rename_i g;rw[zD g];exact A73 (λx i=>(Zf b x i).w) h
def Aug{b:List UInt8}(h:(Ak b).2.2=0):Aa5 (Ak b).1:=by
 rw[Ak]at h|-;split at h
 .contradiction
 rename_i g;rw[zD g];exact Ao2 (Lk b).1 Au Aoi h
def Bc8{n:Ai}(B:Oj n)(g:Hj n=true):okB n (Axv n)=true:=Ai2.2 ⟨by simp[Axv],B.right,g⟩
end Go.Sy.Zaa
