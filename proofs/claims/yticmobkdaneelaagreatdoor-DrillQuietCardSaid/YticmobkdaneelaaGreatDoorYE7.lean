/- Parts of a proof. -/
import Derived.Test.YticmobkdaneelaaGreatDoorYE6
set_option linter.all false
set_option linter.unusedVariables false
set_option linter.unusedSimpArgs false
set_option linter.deprecated false
namespace Go.Sy.YticmobkdaneelaaGreatDoor
open Go.Proofs Go.Proofs.Tryz
attribute [local irreducible] Go.Sy.G Go.Sy.DR
set_option maxRecDepth 20000
set_option maxHeartbeats 4000000
def Je{α:Type}(sz:Nat)(e:α→SV)(l:List α)(i:Int):Sp 54 [.sl sz e l,Aa i] (Ab (Ah i l.length)):=cT F54 ntmps54 λF hF=>by
 conv=>whnf
 (repeat' (first|(refine⟨λh=>?_,λh=>?_⟩<;>(repeat (first|simp only[zJ]at h|simp only[zX]at h))<;>((refine oO ?_)))|(refine At rfl (.cons .tmp .nil) ?_ rfl)))
 all_goals (refine zH Ab ?_)
 all_goals grind [Ah]
def Ash{α:Type}(sz:Nat)(e:α→SV)(l:List α)(i:Int):Sp 110 [.sl sz e l,Aa i] (Ab (Ah i l.length)):=cT F110 ntmps110 λF hF=>by
 conv=>whnf
 (repeat' (first|(refine⟨λh=>?_,λh=>?_⟩<;>(repeat (first|simp only[zJ]at h|simp only[zX]at h))<;>((refine oO ?_)))|(refine At rfl (.cons .tmp .nil) ?_ rfl)))
 all_goals (refine zH Ab ?_)
 all_goals grind [Ah]
def Ans{α:Type}(sz:Nat)(e:α→SV)(l:List α)(i:Int):Sp 115 [.sl sz e l,Aa i] (Ab (Ah i l.length)):=cT F115 ntmps115 λF hF=>by
 conv=>whnf
 (repeat' (first|(refine⟨λh=>?_,λh=>?_⟩<;>(repeat (first|simp only[zJ]at h|simp only[zX]at h))<;>((refine oO ?_)))|(refine At rfl (.cons .tmp .nil) ?_ rfl)))
 all_goals (refine zH Ab ?_)
 all_goals grind [Ah]
def Us{α:Type}(sz:Nat)(e:α→SV)(l:List α)(i:Int):Sp 116 [.sl sz e l,Aa i] (Ab (Ah i l.length)):=cT F116 ntmps116 λF hF=>by
 conv=>whnf
 (repeat' (first|(refine⟨λh=>?_,λh=>?_⟩<;>(repeat (first|simp only[zJ]at h|simp only[zX]at h))<;>((refine oO ?_)))|(refine At rfl (.cons .tmp .nil) ?_ rfl)))
 all_goals (refine zH Ab ?_)
 all_goals grind [Ah]
def Lf{α:Type}(sz:Nat)(e:α→SV)(l:List α)(i:Int):Sp 105 [.sl sz e l,Aa i] (Ab (Ah i l.length)):=cT F105 ntmps105 λF hF=>by
 conv=>whnf
 (repeat' (first|(refine⟨λh=>?_,λh=>?_⟩<;>(repeat (first|simp only[zJ]at h|simp only[zX]at h))<;>((refine oO ?_)))|(refine At rfl (.cons .tmp .nil) ?_ rfl)))
 all_goals (refine zH Ab ?_)
 all_goals grind [Ah]
def Asg{α:Type}(sz:Nat)(e:α→SV)(l:List α)(i:Int):Sp 118 [.sl sz e l,Aa i] (Ab (Ah i l.length)):=cT F118 ntmps118 λF hF=>by
 conv=>whnf
 (repeat' (first|(refine⟨λh=>?_,λh=>?_⟩<;>(repeat (first|simp only[zJ]at h|simp only[zX]at h))<;>((refine oO ?_)))|(refine At rfl (.cons .tmp .nil) ?_ rfl)))
 all_goals (refine zH Ab ?_)
 all_goals grind [Ah]
def A2x(l:List Int)(x:Int)(hl:An l):Sp 104 [.sl 1 Aa l,Aa x] (Aa (Bv (·==x) l)):=cT F104 ntmps104 λF hF=>by
 unfold An at hl
 conv=>whnf
 refine A9 l.length (λj=>∀i (h:i<l.length),i<j→(l[i]==x)=false) (λj=>[(0,.sl 1 Aa l),(1,Aa x),(7,Aa l.length),(8,Aa j)]) (λ_=>[]) [] (λi h hj=>zY hj q_) kU ?_;intro j hj hI;refine oO ?_
 (repeat' (first|(refine⟨λh=>?_,λh=>?_⟩<;>(repeat (first|simp only[zJ]at h|simp only[zX]at h|simp only[yJ]at h|simp only[zR]at h))<;>((refine oO ?_)))|(refine At rfl (.cons .tmp .nil) ?_ rfl)|(refine⟨z_,?_⟩;((conv=>whnf)))|(refine⟨by (omega),by (omega),?_⟩;((conv=>whnf)))|(refine⟨by (unfold I64;omega),?_⟩;((conv=>whnf)))|refine A8 [] hI q_ ?_ kU))
 all_goals try (refine zH Aa ?_)
 ·exact C7 q_ hI (by simpa using h.symm)
 ·intro i hi br;rcases vM i j with h1|h1
  ·exact hI i hi h1
  ·have:i=j:=by omega
   subst this;simpa using Ne.symm h
 ·exact D4 (λi hi=>hI i hi q_)
def D7(l:List Int)(x:Int)(hl:An l):Sp 38 [.sl 1 Aa l,Aa x] (Ab (inB l x)):=cT F38 ntmps38 λF hF=>by
 conv=>whnf
 (repeat' (first|(refine At rfl (.cons .tmp .nil) ?_ rfl)|(refine c0 (A2x _ _ hl) F104 ?_;((refine oO ?_)))))
 exact zH Ab (Kl _ _).symm
def Dl(p:Port)(v:Int):Bool:=v != 0&&(v==p.native||inB p.tagged v)
def Zi(p:Port)(v:Int)(hl:An p.tagged):Sp 106 [A4 p,Aa v] (Ab (Dl p v)):=cT F106 ntmps106 λF hF=>by
 conv=>whnf
 (repeat' (first|(refine⟨λh=>?_,λh=>?_⟩<;>(repeat (first|simp only[yJ]at h|simp only[zR]at h|simp only[xG]at h|simp only[bne_eq_false_iff_eq]at h))<;>((refine oO ?_)))|(refine At rfl (.cons .tmp .nil) ?_ rfl)|(refine c0 (D7 _ _ hl) F38 ?_;((refine oO ?_)))))
 all_goals (refine zH Ab ?_)
 all_goals grind [Dl]
def Uf(l:List Int)(fq bd:Int)(i:Nat)(x:Int):Bool:=decide (fq≤x)&&decide (x≤bd)&&(i==0||decide (nth l ((i:Int)-1)<x))
def Hp(l:List Int)(fq bd:Int):Bool:=decide (0<l.length)&&decide (l.length≤16)&&Ik (Uf l fq bd) l
def Afd(l:List Int)(fq bd:Int)(hl:An l):Sp 117 [.sl 1 Aa l,Aa fq,Aa bd] (Ab (Hp l fq bd)):=cT F117 ntmps117 λF hF=>by
 unfold An at hl
 conv=>whnf
 refine A9 l.length (λj=>En (Uf l fq bd) l j) (λj=>[(0,.sl 1 Aa l),(1,Aa fq),(2,Aa bd),(9,.sl 1 Aa l),(10,Aa l.length),(11,Aa j)]) (λ_=>[]) [] (Bl _ _) kU ?_;intro j hj hI;refine oO ?_
 (repeat' (first|(refine⟨λh=>?_,λh=>?_⟩<;>(repeat (first|simp only[zJ]at h|simp only[zX]at h))<;>((refine oO ?_);repeat((first|refine aF ?_|refine aT ?_);(refine oO ?_))))|(refine At rfl (.cons .tmp .nil) ?_ rfl)|(refine⟨z_,?_⟩;((conv=>whnf)))|(refine⟨by (first|(unfold I64;omega)|omega),by (omega),?_⟩;((conv=>whnf)))|(refine⟨by (unfold I64;omega),?_⟩;((conv=>whnf)))|refine A8 [] hI q_ ?_ kU))
 all_goals try (refine zH Ab ?_)
 all_goals try simp only[zU,Int.pred_toNat]at *
 ·rw[Hp,C8 (i:=j) q_ (by simp[Uf];omega)];simp
 ·rw[Hp,C8 (i:=j) q_ (by simp[Uf];omega)];simp
 ·rw[Hp,C8 (i:=j) q_ (by simp only[Uf,Ai (show ((j:Int)-1).toNat<l.length by omega),Int.pred_toNat,zU];simp;omega)];simp
 ·exact Bi hI q_ (by simp only[Uf,Ai (show ((j:Int)-1).toNat<l.length by omega),Int.pred_toNat,zU];simp;omega)
 ·exact Bi hI q_ (by simp[Uf];omega)
 ·rw[Hp,E5 hI q_,wN];simp;omega
 ·rw[Hp];simp;omega
def Aks(l:List Int)(bd:Int)(hl:An l):Sp 57 [.sl 1 Aa l,Aa bd] (Ab (decide (l.length=0)||Hp l 1 bd)):=cT F57 ntmps57 λF hF=>by
 conv=>whnf
 (repeat' (first|(refine⟨λh=>?_,λh=>?_⟩<;>(repeat (first|simp only[yJ]at h|simp only[zR]at h))<;>((refine oO ?_)))|(refine At rfl (.cons .tmp .nil) ?_ rfl)|(refine c0 (Afd l 1 bd hl) F117 ?_;((refine oO ?_)))))
 all_goals (refine zH Ab ?_)
 all_goals grind
def Is{K:List Nat}:∀(a b:List SV),Cd K (a++b)=(Cd K a&&Cd K b)
 |[],b=>by simp[Cd]
 |x::a,b=>by simp[Cd,Is a b,Bool.and_assoc]
def Dh{f:FuncId}{first cap xs:List SV}(hc:(SV.clo (.func f) first cap).inn []=true)(hx:Cd [] xs=true):Cd [] (first++xs++cap)=true:=by
 simp only[SV.inn,zE]at hc;rw[Is,Is,hc.1,hc.2,hx];rfl
def Ev(l:List Domain)(p:Domain→Bool)(f:FuncId)(first cap:List SV)(hc:(SV.clo (.func f) first cap).inn []=true)(hf:∀x∈l,H3 prog f (first++[As x]++cap) (Ab (p x)))(hl:An l):Sp 164 [.sl 6 As l,.clo (.func f) first cap] (Aa (Bv p l)):=cT F164 ntmps164 λF hF=>by
 unfold An at hl;have az:∀x:Domain,Cd [] (first++[As x]++cap)=true:=λx=>Dh hc rfl
 conv=>whnf
 refine A9 l.length (λj=>En (λ_ x=>!(p x)) l j) (λj=>[(0,.sl 6 As l),(1,.clo (.func f) first cap),(7,Aa l.length),(8,Aa j)]) (λ_=>[]) [] (Bl _ _) ⟨⟨E,E,Bj _,hc,E,E,E,E,Y⟩,Y,E,E⟩ ?_;intro j hj hI;refine oO ?_;constructor<;>intro h
 ·have h:=zK h;have an:j<l.length:=by omega
  refine oO ?_;refine⟨E,by omega,by omega,?_⟩
  conv=>whnf
  refine D8 (hf l[j] (zI an)) E E E (by simp only[az];rfl) E E ?_;refine oO ?_;constructor<;>intro h2
  ·refine oO ?_;refine At E (.cons .tmp .nil) (zH Aa ?_) E;exact C7 an (λi hi br=>by simpa using hI i hi br) h2
  ·refine gF ?_;exact A8 [] hI an (Bi hI an (by simp[h2])) ⟨⟨E,E,Bj _,hc,E,E,E,E,Y⟩,Y,E,E⟩
 ·have h:=zQ h;refine oO ?_;refine At E (.cons .tmp .nil) (zH Aa ?_) E;exact D4 (λi hi=>by simpa using hI i hi q_)
def Tq(l:List Port)(p:Port→Bool)(f:FuncId)(first cap:List SV)(hc:(SV.clo (.func f) first cap).inn []=true)(hf:∀x∈l,H3 prog f (first++[A4 x]++cap) (Ab (p x)))(hl:An l):Sp 276 [.sl 7 A4 l,.clo (.func f) first cap] (Aa (Bv p l)):=cT F276 ntmps276 λF hF=>by
 unfold An at hl;have az:∀x:Port,Cd [] (first++[A4 x]++cap)=true:=λx=>Dh hc rfl
 conv=>whnf
 refine A9 l.length (λj=>En (λ_ x=>!(p x)) l j) (λj=>[(0,.sl 7 A4 l),(1,.clo (.func f) first cap),(7,Aa l.length),(8,Aa j)]) (λ_=>[]) [] (Bl _ _) ⟨⟨E,E,Bj _,hc,E,E,E,E,Y⟩,Y,E,E⟩ ?_;intro j hj hI;refine oO ?_;constructor<;>intro h
 ·have h:=zK h;have an:j<l.length:=by omega
  refine oO ?_;refine⟨E,by omega,by omega,?_⟩
  conv=>whnf
  refine D8 (hf l[j] (zI an)) E E E (by simp only[az];rfl) E E ?_;refine oO ?_;constructor<;>intro h2
  ·refine oO ?_;refine At E (.cons .tmp .nil) (zH Aa ?_) E;exact C7 an (λi hi br=>by simpa using hI i hi br) h2
  ·refine gF ?_;exact A8 [] hI an (Bi hI an (by simp[h2])) ⟨⟨E,E,Bj _,hc,E,E,E,E,Y⟩,Y,E,E⟩
 ·have h:=zQ h;refine oO ?_;refine At E (.cons .tmp .nil) (zH Aa ?_) E;exact D4 (λi hi=>by simpa using hI i hi q_)
def Azi(l:List Port)(p:Nat→Port→Bool)(f:FuncId)(first cap:List SV)(hc:(SV.clo (.func f) first cap).inn []=true)(hf:∀i (h:i<l.length),H3 prog f (first++[Aa i,A4 l[i]]++cap) (Ab (p i l[i])))(hl:An l):Sp 46 [.sl 7 A4 l,.clo (.func f) first cap] (Ab (Ik p l)):=cT F46 ntmps46 λF hF=>by
 unfold An at hl;have az:∀(i:Nat) (x:Port),Cd [] (first++[Aa i,A4 x]++cap)=true:=λi x=>Dh hc rfl
 conv=>whnf
 refine A9 l.length (λj=>En p l j) (λj=>[(0,.sl 7 A4 l),(1,.clo (.func f) first cap),(7,.sl 7 A4 l),(8,Aa l.length),(9,Aa j)]) (λ_=>[]) [] (Bl _ _) ⟨⟨E,E,Bj _,hc,E,E,E,E,E,E,Y⟩,Y,E,E⟩ ?_;intro j hj hI;refine oO ?_;constructor<;>intro h
 ·have h:=zK h;have an:j<l.length:=by omega
  refine oO ?_;refine⟨E,by omega,by omega,?_⟩
  conv=>whnf
  refine D8 (hf j an) E E E (by simp only[az];rfl) E E ?_;refine oO ?_;constructor<;>intro h2
  ·refine oO ?_;refine At E (.cons .tmp .nil) (zH Ab ?_) E;exact C8 an (by simpa using h2)
  ·refine gF ?_;exact A8 [] hI an (Bi hI an (by simpa using h2)) ⟨⟨E,E,Bj _,hc,E,E,E,E,E,E,Y⟩,Y,E,E⟩
 ·have h:=zQ h;refine oO ?_;refine At E (.cons .tmp .nil) (zH Ab ?_) E;exact E5 hI q_
def Azj(l:List Link)(p:Nat→Link→Bool)(f:FuncId)(first cap:List SV)(hc:(SV.clo (.func f) first cap).inn []=true)(hf:∀i (h:i<l.length),H3 prog f (first++[Aa i,Bz l[i]]++cap) (Ab (p i l[i])))(hl:An l):Sp 48 [.sl 3 Bz l,.clo (.func f) first cap] (Ab (Ik p l)):=cT F48 ntmps48 λF hF=>by
 unfold An at hl;have az:∀(i:Nat) (x:Link),Cd [] (first++[Aa i,Bz x]++cap)=true:=λi x=>Dh hc rfl
 conv=>whnf
 refine A9 l.length (λj=>En p l j) (λj=>[(0,.sl 3 Bz l),(1,.clo (.func f) first cap),(7,.sl 3 Bz l),(8,Aa l.length),(9,Aa j)]) (λ_=>[]) [] (Bl _ _) ⟨⟨E,E,Bj _,hc,E,E,E,E,E,E,Y⟩,Y,E,E⟩ ?_;intro j hj hI;refine oO ?_;constructor<;>intro h
 ·have h:=zK h;have an:j<l.length:=by omega
  refine oO ?_;refine⟨E,by omega,by omega,?_⟩
  conv=>whnf
  refine D8 (hf j an) E E E (by simp only[az];rfl) E E ?_;refine oO ?_;constructor<;>intro h2
  ·refine oO ?_;refine At E (.cons .tmp .nil) (zH Ab ?_) E;exact C8 an (by simpa using h2)
  ·refine gF ?_;exact A8 [] hI an (Bi hI an (by simpa using h2)) ⟨⟨E,E,Bj _,hc,E,E,E,E,E,E,Y⟩,Y,E,E⟩
 ·have h:=zQ h;refine oO ?_;refine At E (.cons .tmp .nil) (zH Ab ?_) E;exact E5 hI q_
def Ac6(l:List Domain)(p:Nat→Domain→Bool)(f:FuncId)(first cap:List SV)(hc:(SV.clo (.func f) first cap).inn []=true)(hf:∀i (h:i<l.length),H3 prog f (first++[Aa i,As l[i]]++cap) (Ab (p i l[i])))(hl:An l):Sp 43 [.sl 6 As l,.clo (.func f) first cap] (Ab (Ik p l)):=cT F43 ntmps43 λF hF=>by
 unfold An at hl;have az:∀(i:Nat) (x:Domain),Cd [] (first++[Aa i,As x]++cap)=true:=λi x=>Dh hc rfl
 conv=>whnf
 refine A9 l.length (λj=>En p l j) (λj=>[(0,.sl 6 As l),(1,.clo (.func f) first cap),(7,.sl 6 As l),(8,Aa l.length),(9,Aa j)]) (λ_=>[]) [] (Bl _ _) ⟨⟨E,E,Bj _,hc,E,E,E,E,E,E,Y⟩,Y,E,E⟩ ?_;intro j hj hI;refine oO ?_;constructor<;>intro h
 ·have h:=zK h;have an:j<l.length:=by omega
  refine oO ?_;refine⟨E,by omega,by omega,?_⟩
  conv=>whnf
  refine D8 (hf j an) E E E (by simp only[az];rfl) E E ?_;refine oO ?_;constructor<;>intro h2
  ·refine oO ?_;refine At E (.cons .tmp .nil) (zH Ab ?_) E;exact C8 an (by simpa using h2)
  ·refine gF ?_;exact A8 [] hI an (Bi hI an (by simpa using h2)) ⟨⟨E,E,Bj _,hc,E,E,E,E,E,E,Y⟩,Y,E,E⟩
 ·have h:=zQ h;refine oO ?_;refine At E (.cons .tmp .nil) (zH Ab ?_) E;exact E5 hI q_
def Aqm(l:List Static)(p:Nat→Static→Bool)(f:FuncId)(first cap:List SV)(hc:(SV.clo (.func f) first cap).inn []=true)(hf:∀i (h:i<l.length),H3 prog f (first++[Aa i,A0 l[i]]++cap) (Ab (p i l[i])))(hl:An l):Sp 50 [.sl 4 A0 l,.clo (.func f) first cap] (Ab (Ik p l)):=cT F50 ntmps50 λF hF=>by
 unfold An at hl;have az:∀(i:Nat) (x:Static),Cd [] (first++[Aa i,A0 x]++cap)=true:=λi x=>Dh hc rfl
 conv=>whnf
 refine A9 l.length (λj=>En p l j) (λj=>[(0,.sl 4 A0 l),(1,.clo (.func f) first cap),(7,.sl 4 A0 l),(8,Aa l.length),(9,Aa j)]) (λ_=>[]) [] (Bl _ _) ⟨⟨E,E,Bj _,hc,E,E,E,E,E,E,Y⟩,Y,E,E⟩ ?_;intro j hj hI;refine oO ?_;constructor<;>intro h
 ·have h:=zK h;have an:j<l.length:=by omega
  refine oO ?_;refine⟨E,by omega,by omega,?_⟩
  conv=>whnf
  refine D8 (hf j an) E E E (by simp only[az];rfl) E E ?_;refine oO ?_;constructor<;>intro h2
  ·refine oO ?_;refine At E (.cons .tmp .nil) (zH Ab ?_) E;exact C8 an (by simpa using h2)
  ·refine gF ?_;exact A8 [] hI an (Bi hI an (by simpa using h2)) ⟨⟨E,E,Bj _,hc,E,E,E,E,E,E,Y⟩,Y,E,E⟩
 ·have h:=zQ h;refine oO ?_;refine At E (.cons .tmp .nil) (zH Ab ?_) E;exact E5 hI q_
def Auk(l:List Flood)(p:Nat→Flood→Bool)(f:FuncId)(first cap:List SV)(hc:(SV.clo (.func f) first cap).inn []=true)(hf:∀i (h:i<l.length),H3 prog f (first++[Aa i,Ba l[i]]++cap) (Ab (p i l[i])))(hl:An l):Sp 52 [.sl 4 Ba l,.clo (.func f) first cap] (Ab (Ik p l)):=cT F52 ntmps52 λF hF=>by
 unfold An at hl;have az:∀(i:Nat) (x:Flood),Cd [] (first++[Aa i,Ba x]++cap)=true:=λi x=>Dh hc rfl
 conv=>whnf
 refine A9 l.length (λj=>En p l j) (λj=>[(0,.sl 4 Ba l),(1,.clo (.func f) first cap),(7,.sl 4 Ba l),(8,Aa l.length),(9,Aa j)]) (λ_=>[]) [] (Bl _ _) ⟨⟨E,E,Bj _,hc,E,E,E,E,E,E,Y⟩,Y,E,E⟩ ?_;intro j hj hI;refine oO ?_;constructor<;>intro h
 ·have h:=zK h;have an:j<l.length:=by omega
  refine oO ?_;refine⟨E,by omega,by omega,?_⟩
  conv=>whnf
  refine D8 (hf j an) E E E (by simp only[az];rfl) E E ?_;refine oO ?_;constructor<;>intro h2
  ·refine oO ?_;refine At E (.cons .tmp .nil) (zH Ab ?_) E;exact C8 an (by simpa using h2)
  ·refine gF ?_;exact A8 [] hI an (Bi hI an (by simpa using h2)) ⟨⟨E,E,Bj _,hc,E,E,E,E,E,E,Y⟩,Y,E,E⟩
 ·have h:=zQ h;refine oO ?_;refine At E (.cons .tmp .nil) (zH Ab ?_) E;exact E5 hI q_
def A4b(l:List Vrf)(p:Nat→Vrf→Bool)(f:FuncId)(first cap:List SV)(hc:(SV.clo (.func f) first cap).inn []=true)(hf:∀i (h:i<l.length),H3 prog f (first++[Aa i,Ca l[i]]++cap) (Ab (p i l[i])))(hl:An l):Sp 55 [.sl 5 Ca l,.clo (.func f) first cap] (Ab (Ik p l)):=cT F55 ntmps55 λF hF=>by
 unfold An at hl;have az:∀(i:Nat) (x:Vrf),Cd [] (first++[Aa i,Ca x]++cap)=true:=λi x=>Dh hc rfl
 conv=>whnf
 refine A9 l.length (λj=>En p l j) (λj=>[(0,.sl 5 Ca l),(1,.clo (.func f) first cap),(7,.sl 5 Ca l),(8,Aa l.length),(9,Aa j)]) (λ_=>[]) [] (Bl _ _) ⟨⟨E,E,Bj _,hc,E,E,E,E,E,E,Y⟩,Y,E,E⟩ ?_;intro j hj hI;refine oO ?_;constructor<;>intro h
 ·have h:=zK h;have an:j<l.length:=by omega
  refine oO ?_;refine⟨E,by omega,by omega,?_⟩
  conv=>whnf
  refine D8 (hf j an) E E E (by simp only[az];rfl) E E ?_;refine oO ?_;constructor<;>intro h2
  ·refine oO ?_;refine At E (.cons .tmp .nil) (zH Ab ?_) E;exact C8 an (by simpa using h2)
  ·refine gF ?_;exact A8 [] hI an (Bi hI an (by simpa using h2)) ⟨⟨E,E,Bj _,hc,E,E,E,E,E,E,Y⟩,Y,E,E⟩
 ·have h:=zQ h;refine oO ?_;refine At E (.cons .tmp .nil) (zH Ab ?_) E;exact E5 hI q_
def A4c(l:List Irb)(p:Nat→Irb→Bool)(f:FuncId)(first cap:List SV)(hc:(SV.clo (.func f) first cap).inn []=true)(hf:∀i (h:i<l.length),H3 prog f (first++[Aa i,B4 l[i]]++cap) (Ab (p i l[i])))(hl:An l):Sp 58 [.sl 5 B4 l,.clo (.func f) first cap] (Ab (Ik p l)):=cT F58 ntmps58 λF hF=>by
 unfold An at hl;have az:∀(i:Nat) (x:Irb),Cd [] (first++[Aa i,B4 x]++cap)=true:=λi x=>Dh hc rfl
 conv=>whnf
 refine A9 l.length (λj=>En p l j) (λj=>[(0,.sl 5 B4 l),(1,.clo (.func f) first cap),(7,.sl 5 B4 l),(8,Aa l.length),(9,Aa j)]) (λ_=>[]) [] (Bl _ _) ⟨⟨E,E,Bj _,hc,E,E,E,E,E,E,Y⟩,Y,E,E⟩ ?_;intro j hj hI;refine oO ?_;constructor<;>intro h
 ·have h:=zK h;have an:j<l.length:=by omega
  refine oO ?_;refine⟨E,by omega,by omega,?_⟩
  conv=>whnf
  refine D8 (hf j an) E E E (by simp only[az];rfl) E E ?_;refine oO ?_;constructor<;>intro h2
  ·refine oO ?_;refine At E (.cons .tmp .nil) (zH Ab ?_) E;exact C8 an (by simpa using h2)
  ·refine gF ?_;exact A8 [] hI an (Bi hI an (by simpa using h2)) ⟨⟨E,E,Bj _,hc,E,E,E,E,E,E,Y⟩,Y,E,E⟩
 ·have h:=zQ h;refine oO ?_;refine At E (.cons .tmp .nil) (zH Ab ?_) E;exact E5 hI q_
def A4a(l:List Int)(p:Nat→Int→Bool)(f:FuncId)(first cap:List SV)(hc:(SV.clo (.func f) first cap).inn []=true)(hf:∀i (h:i<l.length),H3 prog f (first++[Aa i,Aa l[i]]++cap) (Ab (p i l[i])))(hl:An l):Sp 112 [.sl 1 Aa l,.clo (.func f) first cap] (Ab (Ik p l)):=cT F112 ntmps112 λF hF=>by
 unfold An at hl;have az:∀(i:Nat) (x:Int),Cd [] (first++[Aa i,Aa x]++cap)=true:=λi x=>Dh hc rfl
 conv=>whnf
 refine A9 l.length (λj=>En p l j) (λj=>[(0,.sl 1 Aa l),(1,.clo (.func f) first cap),(7,.sl 1 Aa l),(8,Aa l.length),(9,Aa j)]) (λ_=>[]) [] (Bl _ _) ⟨⟨E,E,Bj _,hc,E,E,E,E,E,E,Y⟩,Y,E,E⟩ ?_;intro j hj hI;refine oO ?_;constructor<;>intro h
 ·have h:=zK h;have an:j<l.length:=by omega
  refine oO ?_;refine⟨E,by omega,by omega,?_⟩
  conv=>whnf
  refine D8 (hf j an) E E E (by simp only[az];rfl) E E ?_;refine oO ?_;constructor<;>intro h2
  ·refine oO ?_;refine At E (.cons .tmp .nil) (zH Ab ?_) E;exact C8 an (by simpa using h2)
  ·refine gF ?_;exact A8 [] hI an (Bi hI an (by simpa using h2)) ⟨⟨E,E,Bj _,hc,E,E,E,E,E,E,Y⟩,Y,E,E⟩
 ·have h:=zQ h;refine oO ?_;refine At E (.cons .tmp .nil) (zH Ab ?_) E;exact E5 hI q_
structure Net.Fin(n:Net):Prop where
 devices:An n.devices
 ports:An n.ports
 links:An n.links
 domains:An n.domains
 statics:An n.statics
 floods:An n.floods
 vrfs:An n.vrfs
 irbs:An n.irbs
 tagged:∀p∈n.ports,An p.tagged
 peers:∀d∈n.domains,An d.peers
 addrs:∀f∈n.floods,An f.addrs
 imports:∀v∈n.vrfs,An v.imports
 exports:∀v∈n.vrfs,An v.exports
def C2(n:Net)(dev vlan:Int):Int:=Bv (λd=>d.dev==dev&&d.vlan==vlan) n.domains
def A57(dev vlan:Int)(d:Domain):Sp 165 [As d,.ref 1 (Aa dev) 0,.ref 1 (Aa vlan) 0] (Ab (d.dev==dev&&d.vlan==vlan)):=cT F165 ntmps165 λF hF=>by
 conv=>whnf
 (repeat' (first|(refine⟨λh=>?_,λh=>?_⟩<;>(repeat (first|simp only[yJ]at h|simp only[zR]at h))<;>((refine oO ?_)))|(refine At rfl (.cons .tmp .nil) ?_ rfl)))
 all_goals (refine zH Ab ?_)
 all_goals simp_all
def S6(n:Net)(dev vlan:Int)(hl:An n.domains):Sp 111 [Am n,Aa dev,Aa vlan] (Aa (C2 n dev vlan)):=cT F111 ntmps111 λF hF=>by
 conv=>whnf
 refine Bf 4 1 (Aa dev) E E E ?_;refine Bf 5 1 (Aa vlan) E E E ?_;refine c0 (Ev n.domains (λd=>d.dev==dev&&d.vlan==vlan) 165 [] [.ref 1 (Aa dev) 0,.ref 1 (Aa vlan) 0] E (λd _=>⟨⟨_,_,F165⟩,A57 dev vlan d⟩) hl) F164 ?_;exact gE
def Aga(n:Net):Bool:=decide (n.devices.length≤8)&&decide (n.ports.length≤40)&&decide (n.links.length≤20)&&decide (n.domains.length≤48)&&decide (n.statics.length≤64)&&decide (n.floods.length≤48)&&decide (n.vrfs.length≤16)&&decide (n.irbs.length≤48)
def fewS(n:Net):Sp 42 [Am n] (Ab (Aga n)):=cT F42 ntmps42 λF hF=>by
 conv=>whnf
 (repeat' (first|(refine⟨λh=>?_,λh=>?_⟩<;>(repeat (first|simp only[zJ]at h|simp only[zX]at h))<;>((refine oO ?_);repeat((refine aF ?_);(refine oO ?_))))|(refine At rfl (.cons .tmp .nil) ?_ rfl)))
 all_goals (refine zH Ab ?_)
 all_goals (unfold Aga;rw[wN];simp;omega)
def O1(n:Net)(i:Nat)(d:Domain):Bool :=
 Ah d.dev n.devices.length&&decide (1≤d.vlan)&&decide (d.vlan≤4094)&&decide (0≤d.vni)&&decide (d.vni≤16777215)&&(d.irb == -1||Ah d.irb n.irbs.length&&(nth n.irbs d.irb).domain==i)&&C2 n d.dev d.vlan==i
def bareS(n:Net)(i:Nat)(d:Domain)(hl:An n.domains):Sp 44 [Am n,Aa i,As d] (Ab (O1 n i d)):=cT F44 ntmps44 λF hF=>by
 conv=>whnf
 (repeat' (first|(refine⟨λh=>?_,λh=>?_⟩<;>(repeat (first|simp only[Ah]at h|simp only[zJ]at h|simp only[zX]at h|simp only[yJ]at h|simp only[zR]at h|simp only[zE]at h|simp only[yQ]at h))<;>((refine oO ?_);repeat((first|refine aF ?_|refine aT ?_);(refine oO ?_))))|(refine At rfl (.cons .tmp .nil) ?_ rfl)|(refine⟨z_,?_⟩;((conv=>whnf)))|(refine⟨by (omega),by (omega),?_⟩;((conv=>whnf)))|(refine c0 (Je 5 Ax n.devices d.dev) F54 ?_;((refine oO ?_)))|(refine c0 (Ash 5 B4 n.irbs d.irb) F110 ?_;((refine oO ?_)))|(refine c0 (S6 n d.dev d.vlan hl) F111 ?_;((refine oO ?_)))))
 all_goals (refine zH Ab ?_)
 all_goals (clear hF;grind [O1,Ah,Ai])
def L7(n:Net)(d:Domain):Bool:=(nth n.devices d.dev).vtep != 0
def A6r(n:Net)(d:Domain)(hd:Ah d.dev n.devices.length=true):Sp 166 [Am n,As d] (Ab (L7 n d)):=cT F166 ntmps166 λF hF=>by
 simp only[Ah,zE,zJ]at hd
 conv=>whnf
 (repeat' (first|(refine At rfl (.cons .tmp .nil) ?_ rfl)|(refine⟨z_,?_⟩;((conv=>whnf)))|(refine⟨by (omega),by (omega),?_⟩;((conv=>whnf)))))
 all_goals (refine zH Ab ?_)
 all_goals (clear hF;grind [L7,Ai])
def Qq(n:Net)(i:Nat)(d:Domain)(k:Int):Bool :=
 Ah k n.domains.length&&k != i&&Ah (nth n.domains k).dev n.devices.length&&(nth n.domains k).dev != d.dev&&(nth n.domains k).vni==d.vni&&d.vni != 0&&L7 n (nth n.domains k)&&L7 n d&&inB (nth n.domains k).peers i
def peerS(n:Net)(i:Nat)(d:Domain)(k:Int)(hn:n.Fin)(hd:Ah d.dev n.devices.length=true):Sp 114 [Am n,Aa i,As d,Aa k] (Ab (Qq n i d k)):=cT F114 ntmps114 λF hF=>by
 conv=>whnf
 (repeat' (first|(refine⟨λh=>?_,λh=>?_⟩<;>(repeat (first|simp only[Ah]at h|simp only[zJ]at h|simp only[zX]at h|simp only[yJ]at h|simp only[zR]at h|simp only[xG]at h|simp only[bne_eq_false_iff_eq]at h|simp only[zE]at h|simp only[yQ]at h|simp only[yU]at h|simp only[wB]at h))<;>((refine oO ?_);repeat((first|refine aF ?_|refine aT ?_);(refine oO ?_))))|(refine At rfl (.cons .tmp .nil) ?_ rfl)|(refine⟨z_,?_⟩;((conv=>whnf)))|(refine⟨by (omega),by (omega),?_⟩;((conv=>whnf)))|(refine c0 (Lf 6 As n.domains k) F105 ?_;((refine oO ?_)))|(refine c0 (Je 5 Ax n.devices (n.domains[k.toNat]'q_).dev) F54 ?_;((refine oO ?_)))|(refine c0 (A6r n (n.domains[k.toNat]'q_) (by simp only[Ah,zE,zJ];omega)) F166 ?_;((refine oO ?_)))|(refine c0 (A6r n d hd) F166 ?_;((refine oO ?_)))|(refine c0 (D7 (n.domains[k.toNat]'q_).peers i (hn.peers _ (zI _))) F38 ?_;((refine oO ?_)))))
 all_goals (refine zH Ab ?_;clear hF;grind [Qq,Ah,Ai])
def Qa(n:Net)(i:Nat)(d:Domain):Bool:=Ik (λat_ k=>Qq n i d k&&Bv (·==k) d.peers==at_) d.peers
def peers1(n:Net)(i:Nat)(d:Domain)(at_:Nat)(k:Int)(hn:n.Fin)(hp:An d.peers)(hd:Ah d.dev n.devices.length=true):Sp 113 [Aa at_,Aa k,.ref 8 (Am n) 0,.ref 1 (Aa i) 0,.ref 6 (As d) 0] (Ab (Qq n i d k&&Bv (·==k) d.peers==at_)):=cT F113 ntmps113 λF hF=>by
 conv=>whnf
 (repeat' (first|(refine⟨λh=>?_,λh=>?_⟩<;>((refine oO ?_)))|(refine At rfl (.cons .tmp .nil) ?_ rfl)|(refine c0 (peerS n i d k hn hd) F114 ?_;((refine oO ?_)))|(refine c0 (A2x d.peers k hp) F104 ?_;((refine oO ?_)))))
 all_goals (refine zH Ab ?_;clear hF;grind)
def peersS(n:Net)(i:Nat)(d:Domain)(hn:n.Fin)(hp:An d.peers)(hd:Ah d.dev n.devices.length=true):Sp 45 [Am n,Aa i,As d] (Ab (Qa n i d)):=cT F45 ntmps45 λF hF=>by
 conv=>whnf
 refine Bf 3 8 (Am n) E E E ?_;refine Bf 4 1 (Aa i) E E E ?_;refine Bf 5 6 (As d) E E E ?_;refine c0 (A4a d.peers (λat_ k=>Qq n i d k&&Bv (·==k) d.peers==at_) 113 [] [.ref 8 (Am n) 0,.ref 1 (Aa i) 0,.ref 6 (As d) 0] E (λa ha=>⟨⟨_,_,F113⟩,peers1 n i d a d.peers[a] hn hp hd⟩) hp) F112 ?_;exact gE
def Eh(n:Net)(dev vlan:Int):Bool:=decide (0≤C2 n dev vlan)
def Jd(n:Net)(i:Nat)(p:Port):Bool :=
 Ah p.dev n.devices.length&&decide (0≤p.native)&&decide (p.native≤4094)&&(decide (p.tagged.length=0)||Hp p.tagged 1 4094)&&!inB p.tagged p.native&&!(p.native==0&&decide (p.tagged.length=0)) &&
  Ik (λ_ v=>Eh n p.dev v) p.tagged&&!(decide (0<p.native)&&!Eh n p.dev p.native) &&
  (p.link == -1||Ah p.link n.links.length&&((nth n.links p.link).a==i||(nth n.links p.link).b==i))
def Atb(n:Net)(i:Nat)(p:Port)(hn:n.Fin)(hp:An p.tagged):Sp 47 [Am n,Aa i,A4 p] (Ab (Jd n i p)):=cT F47 ntmps47 λF hF=>by
 conv=>whnf
 (repeat' (first|(refine⟨λh=>?_,λh=>?_⟩<;>(repeat (first|simp only[Ah]at h|simp only[zJ]at h|simp only[zX]at h|simp only[yJ]at h|simp only[zR]at h|simp only[zE]at h|simp only[yM]at h|simp only[yQ]at h|simp only[xY]at h|simp only[yU]at h|simp only[wB]at h))<;>((refine oO ?_);repeat((first|refine aF ?_|refine aT ?_);(refine oO ?_))))|(refine At rfl (.cons .tmp .nil) ?_ rfl)|(refine c0 (Je 5 Ax n.devices p.dev) F54 ?_;((refine oO ?_)))|(refine c0 (Aks p.tagged 4094 hp) F57 ?_;((refine oO ?_)))|(refine c0 (D7 p.tagged p.native hp) F38 ?_;((refine oO ?_)))))
 all_goals first|(refine zH Ab ?_;clear hF;grind [Jd,Ah])|skip
 all_goals (
  refine Bf 3 8 (Am n) E E E ?_;refine Bf 5 7 (A4 p) E E E ?_;refine A9 p.tagged.length (λj=>En (λ_ v=>Eh n p.dev v) p.tagged j) (λj=>[(1,Aa i),(3,.ref 8 (Am n) 0),(5,.ref 7 (A4 p) 0),(51,.sl 1 Aa p.tagged),(52,Aa p.tagged.length),(53,Aa j)]) (λ_=>[]) [] (Bl _ _) kU ?_;intro j hj hI;have nn:=hp;unfold An at nn
  (refine fU ?_))
 all_goals (
  (repeat' (first | (refine⟨λ h=>?_,λ h=>?_⟩<;>(repeat (first | simp only[Ah]at h | simp only[zJ]at h | simp only[zX]at h | simp only[yJ]at h | simp only[zR]at h | simp only[zE]at h | simp only[yQ]at h))<;>((refine oO ?_);repeat((refine aF ?_);(refine oO ?_)))) | (refine At rfl (.cons .tmp .nil) ?_ rfl) | (refine⟨z_,?_⟩;((conv=>whnf))) | (refine⟨by (omega),by (omega),?_⟩;((conv=>whnf))) | (refine⟨by (unfold I64;omega),?_⟩;((conv=>whnf))) | (refine c0 (S6 n p.dev (p.tagged[j]'q_) hn.domains) F111 ?_;((refine oO ?_))) | (refine c0 (S6 n p.dev p.native hn.domains) F111 ?_;((refine oO ?_))) | (refine c0 (Ans 3 Bz n.links p.link) F115 ?_;((refine oO ?_))) | refine A8 [] hI q_ ?_ kU)))
 all_goals first
  |exact Bi hI q_ (by simp only[Eh,zJ];omega)
  | (refine zH Ab ?_
     have h0:Ik (λ _ v=>Eh n p.dev v) p.tagged=false:=C8 (i:=j) q_ (by simp only[Eh,zX];omega);clear hF hI;grind [Jd])
  | (refine zH Ab ?_
     have h0:Ik (λ _ v=>Eh n p.dev v) p.tagged=true:=E5 hI q_;clear hF hI;grind [Jd,Ah,Eh,Ai])
def Tp(n:Net)(i:Nat)(l:Link):Bool :=
 Ah l.a n.ports.length&&Ah l.b n.ports.length&&(nth n.ports l.a).dev != (nth n.ports l.b).dev&&(nth n.ports l.a).link==i&&(nth n.ports l.b).link==i
def Atc(n:Net)(i:Nat)(l:Link):Sp 49 [Am n,Aa i,Bz l] (Ab (Tp n i l)):=cT F49 ntmps49 λF hF=>by
 conv=>whnf
 (repeat' (first|(refine⟨λh=>?_,λh=>?_⟩<;>(repeat (first|simp only[Ah]at h|simp only[zJ]at h|simp only[zX]at h|simp only[yJ]at h|simp only[zR]at h|simp only[xG]at h|simp only[bne_eq_false_iff_eq]at h|simp only[zE]at h|simp only[yQ]at h|simp only[yU]at h|simp only[wB]at h))<;>((refine oO ?_);repeat((first|refine aF ?_|refine aT ?_);(refine oO ?_))))|(refine At rfl (.cons .tmp .nil) ?_ rfl)|(refine⟨z_,?_⟩;((conv=>whnf)))|(refine⟨by (omega),by (omega),?_⟩;((conv=>whnf)))|(refine c0 (Us 7 A4 n.ports l.a) F116 ?_;((refine oO ?_)))|(refine c0 (Us 7 A4 n.ports l.b) F116 ?_;((refine oO ?_)))))
 all_goals (refine zH Ab ?_;clear hF;grind [Tp,Ah,Ai])
def Lb(n:Net)(s:Static):Bool :=
 Ah s.domain n.domains.length&&Ah s.port n.ports.length&&(nth n.ports s.port).dev==(nth n.domains s.domain).dev&&Dl (nth n.ports s.port) (nth n.domains s.domain).vlan
def Ald(n:Net)(i:Nat)(s:Static)(hn:n.Fin):Sp 51 [Am n,Aa i,A0 s] (Ab (Lb n s)):=cT F51 ntmps51 λF hF=>by
 conv=>whnf
 (repeat' (first|(refine⟨λh=>?_,λh=>?_⟩<;>(repeat (first|simp only[Ah]at h|simp only[zJ]at h|simp only[zX]at h|simp only[yJ]at h|simp only[zR]at h|simp only[zE]at h|simp only[yQ]at h|simp only[yU]at h|simp only[wB]at h))<;>((refine oO ?_);repeat((refine aT ?_);(refine oO ?_))))|(refine At rfl (.cons .tmp .nil) ?_ rfl)|(refine⟨z_,?_⟩;((conv=>whnf)))|(refine⟨by (omega),by (omega),?_⟩;((conv=>whnf)))|(refine c0 (Lf 6 As n.domains s.domain) F105 ?_;((refine oO ?_)))|(refine c0 (Us 7 A4 n.ports s.port) F116 ?_;((refine oO ?_)))|(refine c0 (Zi (n.ports[s.port.toNat]'q_) (n.domains[s.domain.toNat]'q_).vlan (hn.tagged _ (zI _))) F106 ?_;((refine oO ?_)))))
 all_goals (refine zH Ab ?_;clear hF;grind [Lb,Ah,Ai])
def Afu(n:Net)(i:Nat)(x:Irb):Bool :=
 Ah x.domain n.domains.length&&Ah x.vrf n.vrfs.length&&(nth n.domains x.domain).dev==(nth n.vrfs x.vrf).dev&&(nth n.domains x.domain).irb==i&&decide (1≤x.bits)&&decide (x.bits≤30)
def Aym(n:Net)(i:Nat)(x:Irb):Sp 59 [Am n,Aa i,B4 x] (Ab (Afu n i x)):=cT F59 ntmps59 λF hF=>by
 conv=>whnf
 (repeat' (first|(refine⟨λh=>?_,λh=>?_⟩<;>(repeat (first|simp only[Ah]at h|simp only[zJ]at h|simp only[zX]at h|simp only[yJ]at h|simp only[zR]at h|simp only[zE]at h|simp only[yQ]at h))<;>((refine rd z_ ?_);(conv=>whnf);repeat((refine aF ?_);(refine rd z_ ?_);(conv=>whnf))))|(refine At rfl (.cons .tmp .nil) ?_ rfl)|(refine⟨z_,?_⟩;((conv=>whnf)))|(refine⟨by (omega),by (omega),?_⟩;((conv=>whnf)))|(refine cD (Lf 6 As n.domains x.domain) F105 ?_;((refine rd z_ ?_);(conv=>whnf)))|(refine cD (Asg 5 Ca n.vrfs x.vrf) F118 ?_;((refine rd z_ ?_);(conv=>whnf)))))
 all_goals (refine zH Ab ?_;clear hF;grind [Afu,Ah,Ai])
def M8(n:Net)(f:Flood):Bool:=Ah f.dev n.devices.length&&decide (f.addrs.length≤16)
def right1(n:Net)(i:Nat)(f:Flood):Sp 53 [Aa i,Ba f,.ref 8 (Am n) 0] (Ab (M8 n f)):=cT F53 ntmps53 λF hF=>by
 conv=>whnf
 (repeat' (first|(refine⟨λh=>?_,λh=>?_⟩<;>(repeat (first|simp only[Ah]at h|simp only[zJ]at h|simp only[zX]at h|simp only[zE]at h|simp only[yQ]at h))<;>((refine oO ?_)))|(refine At rfl (.cons .tmp .nil) ?_ rfl)|(refine c0 (Je 5 Ax n.devices f.dev) F54 ?_;((refine oO ?_)))))
 all_goals (refine zH Ab ?_;clear hF;grind [M8,Ah])
def Ug(l:List Int)(bd:Int):Bool:=decide (l.length=0)||Hp l 1 bd
def Amh(n:Net)(v:Vrf):Bool:=Ah v.dev n.devices.length&&Ug v.imports 65535&&Ug v.exports 65535
def right2(n:Net)(i:Nat)(v:Vrf)(h1:An v.imports)(h2:An v.exports):Sp 56 [Aa i,Ca v,.ref 8 (Am n) 0] (Ab (Amh n v)):=cT F56 ntmps56 λF hF=>by
 conv=>whnf
 (repeat' (first|(refine⟨λh=>?_,λh=>?_⟩<;>(repeat (first|simp only[Ah]at h|simp only[zJ]at h|simp only[zX]at h|simp only[zE]at h|simp only[yM]at h|simp only[yQ]at h|simp only[xY]at h))<;>((refine oO ?_);repeat((refine aF ?_);(refine oO ?_))))|(refine At rfl (.cons .tmp .nil) ?_ rfl)|(refine c0 (Je 5 Ax n.devices v.dev) F54 ?_;((refine oO ?_)))|(refine c0 (Aks v.imports 65535 h1) F57 ?_;((refine oO ?_)))|(refine c0 (Aks v.exports 65535 h2) F57 ?_;((refine oO ?_)))))
 all_goals (refine zH Ab ?_;clear hF;grind [Amh,Ug,Ah])
def Ac(n:Net):Bool :=
 Aga n&&Ik (O1 n) n.domains&&Ik (Qa n) n.domains&&Ik (Jd n) n.ports&&Ik (Tp n) n.links&&Ik (λ_=>Lb n) n.statics&&Ik (λ_=>M8 n) n.floods&&Ik (λ_=>Amh n) n.vrfs&&Ik (Afu n) n.irbs
def Aqk{n:Net}(h:Ik (O1 n) n.domains=true){i:Nat}(hi:i<n.domains.length):Ah n.domains[i].dev n.devices.length=true:=by
 have:=allB_iff.1 h i hi;simp only[O1,zE]at this;exact this.1.1.1.1.1.1
def A1(n:Net)(hn:n.Fin):Sp 22 [Am n] (Ab (Ac n)):=cT F22 ntmps22 λF hF=>by
 conv=>whnf
 refine Bf 1 8 (Am n) E E E ?_
 (repeat' (first|(refine⟨λh=>?_,λh=>?_⟩<;>((refine oO ?_);repeat((refine aF ?_);(refine oO ?_))))|(refine At rfl (.cons .tmp .nil) ?_ rfl)|(refine c0 (fewS n) F42 ?_;((refine oO ?_)))|(refine c0 (Ac6 n.domains (O1 n) 44 [Am n] [] rfl (λi h=>⟨⟨_,_,F44⟩,bareS n i n.domains[i] hn.domains⟩) hn.domains) F43 ?_;((refine oO ?_)))|(refine Oz (Ac6 n.domains (Qa n) 45 [Am n] [] rfl (λi h=>⟨⟨_,_,F45⟩,peersS n i n.domains[i] hn (hn.peers _ (zI _)) (Aqk ‹_› h)⟩) hn.domains) F43 rfl rfl rfl rfl rfl ?_;((refine oO ?_)))|(refine Oz (Azi n.ports (Jd n) 47 [Am n] [] rfl (λi h=>⟨⟨_,_,F47⟩,Atb n i n.ports[i] hn (hn.tagged _ (zI _))⟩) hn.ports) F46 rfl rfl rfl rfl rfl ?_;((refine oO ?_)))|(refine c0 (Azj n.links (Tp n) 49 [Am n] [] rfl (λi h=>⟨⟨_,_,F49⟩,Atc n i n.links[i]⟩) hn.links) F48 ?_;((refine oO ?_)))|(refine c0 (Aqm n.statics (λ_=>Lb n) 51 [Am n] [] rfl (λi h=>⟨⟨_,_,F51⟩,Ald n i n.statics[i] hn⟩) hn.statics) F50 ?_;((refine oO ?_)))|(refine c0 (Auk n.floods (λ_=>M8 n) 53 [] [.ref 8 (Am n) 0] rfl (λi h=>⟨⟨_,_,F53⟩,right1 n i n.floods[i]⟩) hn.floods) F52 ?_;((refine oO ?_)))|(refine Oz (A4b n.vrfs (λ_=>Amh n) 56 [] [.ref 8 (Am n) 0] rfl (λi h=>⟨⟨_,_,F56⟩,right2 n i n.vrfs[i] (hn.imports _ (zI _)) (hn.exports _ (zI _))⟩) hn.vrfs) F55 rfl rfl rfl rfl rfl ?_;((refine oO ?_)))|(refine c0 (A4c n.irbs (Afu n) 59 [Am n] [] rfl (λi h=>⟨⟨_,_,F59⟩,Aym n i n.irbs[i]⟩) hn.irbs) F58 ?_;((refine oO ?_)))))
 all_goals (refine zH Ab ?_)
 all_goals (clear hF;simp_all[Ac])
end Go.Sy.YticmobkdaneelaaGreatDoor
namespace Go.Sy
def Aqr(C:Cx){β:Type}(I:β→Prop)(L:β→List (Nat×SV))(O:β→Obs)(μ:β→Nat)(x:β)(a:Act)(w:World):Prop :=
 ∃x':{y:β // I y},∃κ,μ x'.1<μ x∧St C.F C.n (mkS (L x'.1) (O x'.1)) κ a w
def C3{C:Cx}{k:List KI}{s:SS}{body:Code}{β:Type}(I:β→Prop)(L:β→List (Nat×SV))(O:β→Obs)(μ:β→Nat)(x₀:β)(ρ:List (Nat×Nat))(h0:I x₀)(bc:Sub C s ρ (L x₀) (O x₀))(h:∀x,I x→G C (.code body::.inv (Aqr C I L O μ x)::k) (mkS (L x) (O x))):G C (.code (.loop body)::k) s :=
 Vr (α:={y:β // I y}) (λx=>L x.1) (λx=>O x.1) (λx=>μ x.1) ⟨x₀,h0⟩ ρ bc (λx=>h x.1 x.2)
def Be{C:Cx}{k:List KI}{s:SS}{β:Type}{I:β→Prop}{L:β→List (Nat×SV)}{O:β→Obs}{μ:β→Nat}{x:β}(x':β)(ρ:List (Nat×Nat))(h':I x')(hμ:μ x'<μ x)(bc:Sub C s ρ (L x') (O x')):G C (.inv (Aqr C I L O μ x)::k) s:=λ_ _ _ hs=>⟨⟨x',h'⟩,_,hμ,bc.st hs⟩
def Vq{C:Cx}{kk:List KI}{s:SS}(k d:Nat){sz:Nat}{α:Type}{e:α→SV}{l:List α}(h:s.h k=.row sz e l)(hd:s.h d=.fresh)(ck:k≠d)(hg:G C kk ⟨λi=>frz k (.osl d) (s.σ i),upd (λj=>bif Nat.beq j k then .non else Ayv k (.osl d) (s.h j)) d (.row sz e l)⟩):G C kk s:=λκ a w hs=>by
 have cj:=hs.obj k;rw[h]at cj;have a6:κ d=.new:=by have:=hs.obj d;rwa [hd]at this
 have fin:∀κ':Ka,(∀j,j≠k→j≠d→κ' j=κ j)→Step (λj=>j=k∨j=d) κ w κ' w→Inv κ' w→(∀v,Rd κ w (.osl k) v→Rd κ' w (.osl d) v)→ObOK κ' w d (.row sz e l)→den C.P C.B kk .normal a w:=by
  intro κ' ag st inv hv ho;refine hg κ' a w ⟨hs.defers,hs.size,inv,hs.ctx.step inv st,λj=>Alh st hv _ _ (hs.slot j),λj=>?_⟩;show ObOK κ' w j (upd (λj=>bif Nat.beq j k then .non else Ayv k (.osl d) (s.h j)) d (.row sz e l) j);by_cases hj:j=d
  ·subst hj;rw[B1];exact ho
  ·rw[Cp _ _ hj];by_cases an:j=k
   ·subst an;rw[show Nat.beq j j=true from tL j];trivial
   ·rw[show Nat.beq j k=false from by cases hb:Nat.beq j k with|false=>rfl|true=>exact zY (yK hb) an];have hb:=ObOK.step st (λe=>e.elim an hj) _ (hs.obj j);have h0:=hs.obj j;show ObOK κ' w j (Ayv k (.osl d) (s.h j));cases hh:s.h j with
    |box m=>
     rw[hh]at h0 hb;obtain ⟨b,cs,T,fr,e1,e2,e3,e4,e5⟩:=h0;exact⟨b,cs,T,fr,(ag j an hj).trans e1,e2,e3,e4,Kr st hv m cs e5⟩
    |tbox T m=>
     rw[hh]at h0 hb;obtain ⟨b,cs,fr,e1,e2,e3,e4,e5⟩:=h0;exact⟨b,cs,fr,(ag j an hj).trans e1,e2,e3,e4,Kr st hv m cs e5⟩
    |fresh=>rw[hh]at hb;exact hb
    |non=>rw[hh]at hb;exact hb
    |row dz e' l'=>rw[hh]at hb;exact hb
    |lit dz svs=>rw[hh]at hb;exact hb
    |glob dz x' g'=>rw[hh]at hb;exact hb
    |pin b' n' dx dz e' l'=>rw[hh]at hb;exact hb
    |dat v' dz e' l'=>rw[hh]at hb;exact hb
    |trow T' m'=>rw[hh]at hb;exact hb
    |rown dz e' l' i' xd=>
     rw[hh]at h0;obtain ⟨b2,ri,vk,T2,xc,f1,f2,f3,f4,f5,f6,f7,yl,v1,v2,v3,v4⟩:=h0;refine⟨b2,ri,vk,T2,xc,(ag j an hj).trans f1,f2,f3,f4,f5,λm y hm hy=>?_,f7,yl,v1,v2,Kr st hv xd yl v3,v4⟩;obtain ⟨g0,u,g1,g2⟩:=f6 m y hm hy;exact⟨g0,u,RdD.keep st.keeps _ _ g1,g2⟩
 rcases cj with ⟨h1,rfl⟩|⟨b,cap,cs,T,fr,e1,e2,e3,e4,e5,e6⟩
 ·have st:=J9 (Lr hs.inv (some k)) (by show Ec κ k .dead d=.new;rw[B8 _ _ (Ne.symm ck)];exact a6) (e:=.nil) (Grew.refl w) (λb hb=>by cases hb);refine fin _ (λj h1 h2=>by rw[B8 _ _ h2];exact B8 _ _ h1) (((Ju (some k)).weaken (λj hj=>.inl (Option.some.inj hj).symm)).trans (st.1.weaken (λj hj=>.inr hj))) st.2 (λv hv=>?_) (.inl ⟨Az _ _ _,E⟩);simp only[Rd,h1]at hv;simp[Rd,Az,hv]
 ·obtain ⟨st,inv⟩:=Qk (n':=l.length) (w':=w) hs.inv e1 a6 rfl rfl rfl rfl (λ_ _=>rfl);refine fin _ (λj h1 h2=>by rw[B8 _ _ h2];exact B8 _ _ h1) st inv (λv hv=>?_) (.inr ⟨b,cap,cs,T,fr,Az _ _ _,e2,e3,e4,e5,λi x hx=>?_⟩)
  ·simp only[Rd,e1]at hv;simp[Rd,Az,hv]
  ·obtain ⟨q1,u,q2,q3⟩:=e6 i x hx;exact⟨q1,u,RdD.keep st.keeps _ _ q2,q3⟩
def Vs{C:Cx}{k:List KI}{s:SS}(d:Nat){sz:Nat}{α:Type}(e:α→SV)(l:List α){svs:List SV}(h:s.h d=.lit sz svs)(hl:l.map e=svs)(hg:G C k ⟨s.σ,upd s.h d (.row sz e l)⟩):G C k s:=λκ a w hs=>by
 refine hg κ a w ⟨hs.defers,hs.size,hs.inv,hs.ctx,hs.slot,λj=>?_⟩;show ObOK κ w j (upd s.h d (.row sz e l) j);by_cases hj:j=d
 ·subst hj;rw[B1];have cj:=hs.obj j;rw[h]at cj;have hlen:l.length=svs.length:=by rw[←hl,xF]
  obtain ⟨b,cap,cs,T,fr,e1,e2,e3,e4,e5,e6⟩:=cj;exact .inr ⟨b,cap,cs,T,fr,by rw[hlen];exact e1,e2,e3,e4,by omega,λi x hx=>by rw[hlen];exact e6 i x (Qm hl i x hx)⟩
 ·rw[Cp _ _ hj];exact hs.obj j
end Go.Sy
