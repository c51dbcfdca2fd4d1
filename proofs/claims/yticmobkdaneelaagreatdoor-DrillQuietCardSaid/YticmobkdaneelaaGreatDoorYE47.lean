/- Parts of a proof. -/
import Derived.Test.YticmobkdaneelaaGreatDoorYE16
import Derived.Test.YticmobkdaneelaaGreatDoorYE46
set_option linter.all false
set_option linter.unusedVariables false
set_option linter.unusedSimpArgs false
set_option linter.deprecated false
namespace Go.Sy.YticmobkdaneelaaGreatDoor
open Go.Proofs Go.Proofs.Tryz
structure TenM where
 row:Int
 name:ByteArray
 devs:List ByteArray
 ports:List ByteArray
instance:Inhabited TenM:=⟨⟨0,⟨#[]⟩,[],[]⟩⟩
def S4(n:Net)(ow:List Int)(from_:Nat)(a:Int):Nat→List Int→Option Nat
 |_,[]=>none
 |to,b::r=>if ¬(a<0∨b<0∨a=b)∧(wayT n from_ to).2=true then some to else S4 n ow from_ a (to+1) r
def X2(n:Net)(ow:List Int):Nat→List Int→Int×Int×Bool
 |_,[]=>(0,0,false)
 |from_,a::r=>match S4 n ow from_ a 0 ow with
  |some to=>(from_,to,true)
  |none=>X2 n ow (from_+1) r
def leaksT(n:Net)(ow:List Int):Int×Int×Bool:=if Ds n ow=false then (0,0,false) else X2 n ow 0 ow
attribute [local irreducible] Go.Sy.G Go.Sy.DR
set_option maxRecDepth 100000
set_option maxHeartbeats 4000000
def Asj{n:Net}{ow:List Int}(h:Ds n ow=true):ow.length=n.ports.length:=by
 simp only[Ds,zE,zJ]at h;exact h.1.1
def leaksS(n:Net)(hn:n.Fin)(hu:Dr n)(ow:List Int):Sp 8 [Am n,.sl 1 Aa ow] (.tup [Aa (leaksT n ow).1,Aa (leaksT n ow).2.1,Ab (leaksT n ow).2.2]):=cT F8 ntmps8 λF hF=>by
 have q0:=Su n hn ow;have aa:=leaksT.eq_1 n ow;generalize leaksT n ow=res at *;cases ho:Ds n ow with
 |false=>
  rw[ho]at q0;rw[zG ho]at aa;subst aa;refine gD q0 F15 ?_;exact D
 |true=>
 have mz:=Asj ho;have ov:n.ports.length<2147483648:=hn.ports;rw[ho]at q0;rw[zD (by rw[ho];exact Bool.noConfusion)]at aa;refine gD q0 F15 ?_;refine C3 (λj:Nat=>res=X2 n ow j (ow.drop j)∧j≤ow.length) (λj=>[(1,.sl 1 Aa ow),(2,.ptr 2 0),(17,.sl 1 Aa ow),(18,Aa ow.length),(19,Aa j)]) (λ_=>[(2,.box (C6 n))]) (λj=>ow.length-j) 0 [] ⟨aa,by omega⟩ U ?_;rintro j ⟨hI,hj⟩;refine T ?_;constructor<;>intro h
 ·have ab:j<ow.length:=qA h;have ai:(j:Int).toNat<ow.length:=ab;have fy:ow.drop j=ow[(j:Int).toNat]'ai::ow.drop (j+1):=yP ab;rw[fy,X2]at hI;clear h;obtain ⟨R,hR⟩:∃R,S4 n ow j (ow[(j:Int).toNat]'ai) 0 ow=R:=⟨_,rfl⟩
  rw[hR]at hI;refine T ?_;refine C3 (λk:Nat=>S4 n ow j (ow[(j:Int).toNat]'ai) k (ow.drop k)=R∧k≤ow.length) (λk=>[(1,.sl 1 Aa ow),(2,.ptr 2 0),(7,Aa j),(8,Aa (ow[(j:Int).toNat]'ai)),(17,.sl 1 Aa ow),(18,Aa ow.length),(19,Aa j),(24,.sl 1 Aa ow),(25,Aa ow.length),(26,Aa k)]) (λ_=>[(2,.box (C6 n))]) (λk=>ow.length-k) 0 [] ⟨hR,by omega⟩ U ?_;rintro k ⟨hK,hk⟩;refine T ?_;constructor<;>intro h
  ·have cw:k<ow.length:=qA h;have cm:(k:Int).toNat<ow.length:=cw;have yc:ow.drop k=ow[(k:Int).toNat]'cm::ow.drop (k+1):=yP cw;rw[yc,S4]at hK;clear h;by_cases c1:ow[(j:Int).toNat]'ai<0
   ·have f1:decide ((ow[(j:Int).toNat]'ai)<0)=true:=zO c1;rw[zD (λh=>h.1 (.inl c1))]at hK;refine T ?_;exact Be (k+1) [] ⟨hK,cw⟩ q_ U
   have f1:decide ((ow[(j:Int).toNat]'ai)<0)=false:=zL c1;by_cases c2:ow[(k:Int).toNat]'cm<0
   ·have f2:decide ((ow[(k:Int).toNat]'cm)<0)=true:=zO c2;rw[zD (λh=>h.1 (.inr (.inl c2)))]at hK;refine T ?_;exact Be (k+1) [] ⟨hK,cw⟩ q_ U
   have f2:decide ((ow[(k:Int).toNat]'cm)<0)=false:=zL c2;by_cases c3:ow[(j:Int).toNat]'ai=ow[(k:Int).toNat]'cm
   ·have f3:(ow[(j:Int).toNat]'ai==ow[(k:Int).toNat]'cm)=true:=by rw[yJ];exact c3
    rw[zD (λh=>h.1 (.inr (.inr c3)))]at hK;refine T ?_;exact Be (k+1) [] ⟨hK,cw⟩ q_ U
   have f3:(ow[(j:Int).toNat]'ai==ow[(k:Int).toNat]'cm)=false:=by rw[zR];exact c3
   have hn3:¬(ow[(j:Int).toNat]'ai<0∨ow[(k:Int).toNat]'cm<0∨ow[(j:Int).toNat]'ai=ow[(k:Int).toNat]'cm):=λh=>h.elim c1 λh=>h.elim c2 c3
   have q:=wayS n hn hu j k;generalize wayT n j k=wr at *;obtain ⟨wl,ok⟩:=wr;dsimp only at q hK;cases ok
   ·rw[zD (λh=>Bool.noConfusion h.2)]at hK;refine gD q F21 ?_;exact Be (k+1) [] ⟨hK,cw⟩ q_ U
   ·rw[zG ⟨hn3,rfl⟩]at hK;subst hK;dsimp only at hI;subst hI;refine gD q F21 ?_;exact D
  ·have x5:k=ow.length:=qB h;rw[x5,uF,S4]at hK;subst hK;clear h;dsimp only at hI;refine T ?_;exact Be (j+1) [] ⟨hI,ab⟩ q_ U
 ·have dh:j=ow.length:=qB h;rw[dh,uF,X2]at hI;subst hI;clear h;exact gA
end Go.Sy.YticmobkdaneelaaGreatDoor
