/- Parts of a proof. -/
import Derived.Test.YticmobkdaneelaaGreatDoorYE46
set_option linter.all false
set_option linter.unusedVariables false
set_option linter.unusedSimpArgs false
set_option linter.deprecated false
namespace Go.Sy.YticmobkdaneelaaGreatDoor
open Go.Proofs Go.Proofs.Tryz
attribute [local irreducible] Go.Sy.G Go.Sy.DR
set_option maxRecDepth 100000
set_option maxHeartbeats 4000000
def A0l(n:Net)(s:Int)(h:n.links.length<100000):Wd (Yu n s).1:=by
 unfold Wd;rw[Akh];split
 ·simp[Lh]
 split
 ·simp
 split
 ·simp[Qe,h]
 ·simp
def Aen(n:Net)(h:n.links.length<100000):∀(k:Nat) (s:Int),∀x∈(B6 n k s).1,Wd x
 |0,s=>by simp[B6]
 |k+1,s=>by
  intro x hx;simp only[B6,yI,yB]at hx;rcases hx with hx|rfl
  ·exact Aen n h k s x hx
  ·exact A0l n _ h
def A6s:StepM:=⟨4,0,0,0,[],[]⟩
def A3j:B6 noNet 2 0=([A6s,A6s],Ao (Ao 0)):=by kernel_rfl
def Apy:Sp 4 [] (Ab true):=cT F4 ntmps4 λF hF=>by
 have q1:=Ah0 noNet 0 2 Ais (by decide +kernel) j_ (λx hx=>by cases hx);rw[A3j]at q1;dsimp only at q1;have q2:=Agg noNet 0 61 Ais (by decide +kernel);have e1:Ao 0=1442695040888963407:=by kernel_rfl
 refine fW ?_;refine G_vw 8 (Am noNet) (.agg vL) ?_;refine c0 q1 F9 ?_;refine fU ?_;refine G_vw 14 (Am noNet) (.agg vL) ?_;refine c0 q2 F9 ?_;refine fU ?_
 (repeat' (first|(refine⟨λh=>?_,λh=>?_⟩<;>(repeat (first|simp only[zJ]at h|simp only[zX]at h|simp only[yJ]at h|simp only[zR]at h|simp only[xG]at h|simp only[bne_eq_false_iff_eq]at h|simp only[zE]at h|simp only[yM]at h|simp only[yQ]at h|simp only[xY]at h|simp only[yU]at h|simp only[wB]at h|simp only[yW]at h|simp only[tC]at h|simp only[wJ]at h))<;>((first|refine rg ?_|refine rd z_ ?_);(conv=>whnf);repeat((first|refine aF ?_|refine aT ?_);(first|refine rg ?_|refine rd z_ ?_);(conv=>whnf))))|(refine At rfl (.cons .tmp .nil) ?_ rfl)|(refine⟨z_,?_⟩;((conv=>whnf);repeat((first|refine aF ?_|refine aT ?_);(first|refine rg ?_|refine rd z_ ?_);(conv=>whnf))))|(refine⟨by (first|(unfold I64;omega)|omega|(simp only[zU];omega)|((first|decide|(simp[I64])))),by (first|(unfold I64;omega)|omega|(simp only[zU];omega)|((first|decide|(simp[I64])))),?_⟩;((conv=>whnf);repeat((first|refine aF ?_|refine aT ?_);(first|refine rg ?_|refine rd z_ ?_);(conv=>whnf))))|(refine⟨by (first|(unfold I64;omega)|omega|(simp only[zU];omega)|((first|decide|(simp[I64])))),?_⟩;((conv=>whnf);repeat((first|refine aF ?_|refine aT ?_);(first|refine rg ?_|refine rd z_ ?_);(conv=>whnf))))|(refine c0 (M9 0) F10 ?_;((first|refine rg ?_|refine rd z_ ?_);(conv=>whnf);repeat((first|refine aF ?_|refine aT ?_);(first|refine rg ?_|refine rd z_ ?_);(conv=>whnf))))|(refine cD (M9 0) F10 ?_;((first|refine rg ?_|refine rd z_ ?_);(conv=>whnf);repeat((first|refine aF ?_|refine aT ?_);(first|refine rg ?_|refine rd z_ ?_);(conv=>whnf))))|(refine c0 (M9 (Ao 0)) F10 ?_;((first|refine rg ?_|refine rd z_ ?_);(conv=>whnf);repeat((first|refine aF ?_|refine aT ?_);(first|refine rg ?_|refine rd z_ ?_);(conv=>whnf))))|(refine cD (M9 (Ao 0)) F10 ?_;((first|refine rg ?_|refine rd z_ ?_);(conv=>whnf);repeat((first|refine aF ?_|refine aT ?_);(first|refine rg ?_|refine rd z_ ?_);(conv=>whnf))))))
 all_goals rfl
end Go.Sy.YticmobkdaneelaaGreatDoor
namespace Go.Sy.YticmobkdaneelaaGreatDoor
open Go.Proofs Go.Proofs.Tryz
structure RepM where
 scripts:Int
 steps:Int
 seen:Int
 crossed:Int
 script:List StepM
abbrev repL(r:RepM):List SV:=[Aa r.scripts,Aa r.steps,Aa r.seen,Aa r.crossed,.sl 6 Db r.script]
abbrev repSV(r:RepM):SV:=.agg [Aa r.scripts,Aa r.steps,Aa r.seen,Aa r.crossed,.sl 6 Db r.script]
def Aex(n:Net)(of:List Int)(r:RepM)(l:List StepM):RepM :=
 ⟨r.scripts,r.steps+l.length,r.seen+(runT n l).1.length,if crossB n of [] l=true then r.crossed+1 else r.crossed,if crossB n of [] l=true∧r.crossed=0 then l else r.script⟩
def Jc(n:Net)(of:List Int)(size:Nat)(k s:Int):Nat→RepM×Int
 |0=>(⟨k,0,0,0,[]⟩,s)
 |j+1=>(Aex n of (Jc n of size k s j).1 (B6 n size (Jc n of size k s j).2).1,(B6 n size (Jc n of size k s j).2).2)
def drillT(n:Net)(of:List Int)(s k size:Int):RepM×Int :=
 if (0≤size∧size≤60)∧(0≤k∧k≤50)∧Ds n of=true∧okB n (Aal n)=true then ((Jc n of size.toNat k s k.toNat).1,0) else (⟨0,0,0,0,[]⟩,2)
def Ayw(d s t:Nat)(b:List UInt8):(frame d s t b).length=14+b.length:=by
 have:=Hh ⟨d,s,t,b⟩;exact this
def Ahp(n:Net)(s:Int)(hn:I4 n):(Lh n s).1.bytes.length≤2000:=by
 have hf:=λv=>(Ajg n v hn).2.2.2
 simp only[Lh];rw[Ayw];split
 ·rename_i h;have:=hf (Abt (nth n.ports (nth (Dn n n.ports.length) (Co (Ao s) (Dn n n.ports.length).length))) (Ao s)).2;simp only[Awn,zW,yL,xM];omega
 ·have:=hf (Abt (nth n.ports (nth (Dn n n.ports.length) (Co (Ao s) (Dn n n.ports.length).length))) (Ao s)).2;omega
def Amw(n:Net)(s:Int)(hn:I4 n):(Yu n s).1.bytes.length≤2000:=by
 rw[Akh];split
 ·exact Ahp n _ hn
 split
 ·simp
 split
 ·simp
 ·simp
def Ws(n:Net)(hn:I4 n):∀(k:Nat) (s:Int),∀x∈(B6 n k s).1,x.bytes.length≤2000
 |0,s=>by simp[B6]
 |k+1,s=>by
  intro x hx;simp only[B6,yI,yB]at hx;rcases hx with hx|rfl
  ·exact Ws n hn k s x hx
  ·exact Amw n _ hn
def Arw(n:Net)(hn:I4 n)(k:Nat)(hk:k≤60)(s:Int):ScriptOK (B6 n k s).1:=⟨by rw[E8];omega,Ws n hn k s⟩
def Am6{n:Net}(hn:n.Fin)(l:List StepM):(runT n l).1.length≤l.length*4294967296:=by
 unfold runT;split
 ·exact Uc hn l _
 ·simp
def Au4{n:Net}(hn:n.Fin)(ha:I4 n)(of:List Int)(size:Nat)(hs:size≤60)(ak:n.links.length<100000)(k s:Int):∀j:Nat,
  (Jc n of size k s j).1.scripts=k∧(0≤(Jc n of size k s j).1.steps∧(Jc n of size k s j).1.steps≤60*j)∧(0≤(Jc n of size k s j).1.seen∧(Jc n of size k s j).1.seen≤60*4294967296*j) ∧
  (0≤(Jc n of size k s j).1.crossed∧(Jc n of size k s j).1.crossed≤j)∧((Jc n of size k s j).1.script.length≤60∧∀x∈(Jc n of size k s j).1.script,Wd x)
 |0=>⟨rfl,by simp[Jc],by simp[Jc],by simp[Jc],by simp[Jc]⟩
 |j+1=>by
  obtain ⟨h1,h2,h3,h4,h5⟩:=Au4 hn ha of size hs ak k s j;have hl:=E8 n size (Jc n of size k s j).2;have hr:=Am6 hn (B6 n size (Jc n of size k s j).2).1;rw[hl]at hr;rw[Jc];simp only[Aex];refine⟨h1,by omega,by omega,?_,?_⟩
  ·split<;>omega
  ·split
   ·exact⟨by omega,Aen n ak _ _⟩
   ·exact h5
attribute [local irreducible] Go.Sy.G Go.Sy.DR
set_option maxRecDepth 100000
set_option maxHeartbeats 8000000
def noTabs:TabsOK []:=⟨by decide,λt ht=>(by cases ht),λt ht=>(by cases ht)⟩
def Ay4(n:Net)(hn:n.Fin)(dt:n.Num)(ha:I4 n)(of:List Int)(s k size:Int):Sp 7 [Am n,.sl 1 Aa of,A2 s,Aa k,Aa size] (.tup [repSV (drillT n of s k size).1,Aa (drillT n of s k size).2]):=cT F7 ntmps7 λF hF=>by
 have aa:=drillT.eq_1 n of s k size;generalize drillT n of s k size=res at *;have q1:=Su n hn of;have df:¬((0≤size∧size≤60)∧(0≤k∧k≤50))∨Ds n of=false∨okB n (Aal n)=false→res=(⟨0,0,0,0,[]⟩,2):=λh=>by
  rw[aa,zD];rintro ⟨h1,h2,h3,h4⟩;rcases h with h|h|h
  ·exact h ⟨h1,h2⟩
  ·rw[h]at h3;cases h3
  ·rw[h]at h4;cases h4
 by_cases bg:(0≤size∧size≤60)∧(0≤k∧k≤50);rotate_left
 ·have df:=df (.inl bg);subst df;by_cases hs0:size<0
  ·refine T ?_;refine Ak 10 [Aa 0,Aa 0,Aa 0,Aa 0,.sl 6 Db []] E vL ?_;exact D
  by_cases xn:60<size
  ·refine T ?_;refine Ak 10 [Aa 0,Aa 0,Aa 0,Aa 0,.sl 6 Db []] E vL ?_;exact D
  by_cases cm:k<0
  ·refine T ?_;refine Ak 10 [Aa 0,Aa 0,Aa 0,Aa 0,.sl 6 Db []] E vL ?_;exact D
  have fg:50<k:=by omega
  refine T ?_;refine Ak 10 [Aa 0,Aa 0,Aa 0,Aa 0,.sl 6 Db []] E vL ?_;exact D
 obtain ⟨⟨hs0,xn⟩,cm,fg⟩:=bg;refine gD q1 F15 ?_;cases ho:Ds n of
 ·have df:=df (.inr (.inl ho));subst df;refine T ?_;refine Ak 10 [Aa 0,Aa 0,Aa 0,Aa 0,.sl 6 Db []] E vL ?_;exact D
 refine T ?_;refine G_vw 45 (Am n) (.refl _) ?_;cases ar:okB n (Aal n)
 ·have df:=df (.inr (.inr ar));subst df;refine C (Xs n hn ar) F16 ?_;refine Ak 10 [Aa 0,Aa 0,Aa 0,Aa 0,.sl 6 Db []] E vL ?_;exact D
 rw[zG ⟨⟨hs0,xn⟩,⟨cm,fg⟩,ho,ar⟩]at aa;clear df;have hb:=(ok_iff.1 ar).2.1;have cq:=Au5 hb;obtain ⟨sz,rfl⟩:=xB hs0;obtain ⟨kn,rfl⟩:=xB cm;rw[zU,zU]at aa;have gm:=Au4 hn ha of sz q_ q_ (kn:Int) s;refine X (Ad [(0,800),(1,801),(2,802),(3,803)] E F16 (Akl n hn ar) E Y E V) ?_;refine X (Ad [(0,810),(1,811)] E F17 (A6y n s q_) E Y E V) ?_;refine Ak 16 (repL ⟨(kn:Int),0,0,0,[]⟩) E vL ?_;refine A5 kn (λj=>[(1,.sl 1 Aa of),(4,Aa (sz:Int)),(5,.ptr 5 0),(10,.ptr 10 0),(14,.ptr 0 0),(16,.ptr 16 0),(60,Aa (kn:Int)),(61,Aa j)])
  (λj=>[(0,.box (Afh n (.sl 1 Aa (Dn n n.ports.length)) 1)),(1,.box [A2 (Jc n of sz kn s j).2]),(5,.box (C6 n)),(10,.box [Aa 0,Aa 0,Aa 0,Aa 0,.val (.slice none 0 0)]),(16,.box (repL (Jc n of sz kn s j).1))]) [(0,810),(1,811)] U ?_
 intro j hj;obtain ⟨h1,h2,h3,h4,h5⟩:=gm j;have nm:Jc n of sz kn s (j+1)=(Aex n of (Jc n of sz kn s j).1 (B6 n sz (Jc n of sz kn s j).2).1,(B6 n sz (Jc n of sz kn s j).2).2):=rfl;refine T ?_;constructor<;>intro h
 ·have ab:j<kn:=qA h;generalize cn:Jc n of sz (kn:Int) s j=st at *;obtain ⟨r,t⟩:=st;dsimp only at *;have hlen:=E8 n sz t;have zc:=Arw n ha sz q_ t;have mf:=Am6 hn (B6 n sz t).1;have qs:=Au0 n t sz q_ hb ha;have qr:=A44 n hn dt (B6 n sz t).1 zc;have qc:=Aem n hn dt of [] noTabs (B6 n sz t).1 zc;have od:=crossB.eq_1 n of [] (B6 n sz t).1;generalize B6 n sz t=sc at *;obtain ⟨l,t'⟩:=sc;dsimp only at *;unfold Aex at nm;generalize crossesT n of [] l=ct at *;generalize crossB n of [] l=cb at *;subst od;generalize runT n l=rt at *;obtain ⟨c1,c2,c3⟩:=ct;dsimp only at *;clear h;refine T ?_;refine X (Ad [] E F18 qs E W E V) ?_;refine C qr F19 ?_;refine X (Af2 [] [] E F20 qc vL Y E Y E) ?_;cases c3
  ·rw[zD y_,zD y_]at nm;refine T ?_;refine Ay [] ab ⟨⟨E,E,E,E,E,E,E,E,E,E,E,E,E,E,E,E,Y⟩,?_,E,E⟩;dsimp only;rw[nm];exact Uo
  ·rw[zG rfl]at nm;refine T ?_;constructor<;>intro h
   ·have hz:r.crossed=0:=by simpa using h
    rw[zG ⟨rfl,hz⟩]at nm;refine T ?_;refine Ay [] ab ⟨⟨E,E,E,E,E,E,E,E,E,E,E,E,E,E,E,E,Y⟩,?_,E,E⟩;dsimp only;rw[nm];exact Uo
   ·have hz:¬r.crossed=0:=by simpa using h
    rw[zD (λy=>hz y.2)]at nm;refine T ?_;refine Ay [] ab ⟨⟨E,E,E,E,E,E,E,E,E,E,E,E,E,E,E,E,Y⟩,?_,E,E⟩;dsimp only;rw[nm];exact Uo
 ·have gg:j=kn:=qB h;subst gg;subst aa;exact gA
end Go.Sy.YticmobkdaneelaaGreatDoor
