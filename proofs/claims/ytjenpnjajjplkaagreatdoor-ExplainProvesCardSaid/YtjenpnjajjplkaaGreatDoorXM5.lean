/-
  E21 E29 I6 I11 I41 S0 I31 I7l I8l S3 I37 I15 I16 I17 I18 I12 I13 I14 I19 Sy30 Sy31 Sy32 Sy33 I32 I33 I34 I35 I27 I28 Sy34 Sy35 Sy36 Sy37 Sy38 Sy39 Sy40 I29 I30 I36 I39 I38 I40 I42 I43 I44 I45 Sy23 O1 O6 I46 D0 D5 D6 E16 E17 E18 E20: parts of a proof, joined by program.
-/
import Derived.Test.YtjenpnjajjplkaaGreatDoorXM4
import Derived.Test.YtjenpnjajjplkaaGreatDoorXM3
import Derived.Test.YtjenpnjajjplkaaGreatDoorXM1
import Derived.Laws.LoneSync
import Derived.Test.YtjenpnjajjplkaaGreatDoorXM2
import Derived.Defers
import Derived.Tactics
import Derived.Tactics2
import Derived.Laws.Pointers
import Derived.RegionTactic
import Derived.RegionCalls
set_option linter.all false
set_option linter.unusedVariables false
set_option linter.unusedSimpArgs false
set_option linter.deprecated false
namespace Go.Sy.YtjenpnjajjplkaaGreatDoor
open Go.Proofs
attribute [local irreducible] Go.Sy.G Go.Sy.DR
set_option maxRecDepth 20000
set_option maxHeartbeats 4000000
theorem Aex {n:Net} {irb dst:Int} (h:(lookT n irb dst).2=true):Mj n irb dst (lookT n irb dst).1.toNat=true:=by
 unfold lookT at h ⊢
 split at h
 ·cases h
 rename_i h1
 rw[if_neg h1]
 split at h
 ·cases h
 rename_i h2
 rw[if_neg h2]
 have hm:=Ko (Mw n irb) (Dq n irb dst) (List.length_pos_iff.2 h2) ((Dq n irb dst).length-1) (by have:=List.length_pos_iff.2 h2;omega)
 exact((filtI_mem (p:=Mj n irb dst) (j:=n.irbs.length)).1 hm).2.2
theorem Aed (x:Int) (i:Irb):Sy.Spec Tryz.prog 388 [Bf i,.ref 1 (A5 x) 0] [] (Ab (i.addr == x)) []:=cT F388 Tryz.ntmps388 fun F hF=>by
 ((conv=>whnf);repeat((first|refine aF ?_|refine aT ?_);(first|refine rG Γ hm ?_|refine rD Γ hm z_ ?_);conv=>whnf))
 exact dN
theorem Aef (x:Int) (i:Irb):Sy.Spec Tryz.prog 326 [Bf i,.ref 1 (A5 x) 0] [] (Ab (i.addr == x)) []:=cT F326 Tryz.ntmps326 fun F hF=>by
 ((conv=>whnf);repeat((first|refine aF ?_|refine aT ?_);(first|refine rG Γ hm ?_|refine rD Γ hm z_ ?_);conv=>whnf))
 exact dN
def De (n:Net) (a:Int):Bool:=decide (0≤Bd (fun i:Irb=>i.addr == a) n.irbs)
def pastI (n:Net) (a led:Int):Int:=if De n a=true then a+1 else Cy (nth n.irbs led).addr (nth n.irbs led).bits+1
theorem Aan (n:Net) (hn:n.Fin) (hu:Bp n) (a led:Int) (ha:0≤a∧a<4294967296) (hl:De n a=false→InIrbs n led) :
  Sy.Spec Tryz.prog 327 [Ae n,A5 a,Aa led] [] (Aa (pastI n a led)) []:=cT F327 Tryz.ntmps327 fun F hF=>by
 have hlk:=pastI.eq_1 n a led
 generalize pastI n a led=res at *
 have q7:=Dc n.irbs (fun i:Irb=>i.addr == a) 388 [] [.ref 1 (A5 a) 0] rfl (fun i _=>⟨⟨_,_,F388⟩,Aed a i⟩) hn.irbs
 have ht:decide (0≤Bd (fun i:Irb=>i.addr == a) n.irbs)=De n a:=rfl
 rw[ht]at q7
 generalize De n a=tk at *
 ((conv=>whnf);repeat((first|refine aF ?_|refine aT ?_);(first|refine rG Γ hm ?_|refine rD Γ hm z_ ?_);conv=>whnf))
 refine A1 3 8 (Ae n) E E E ?_
 refine A1 4 1 (A5 a) E E E ?_
 ((first|refine rG Γ hm ?_|refine rD Γ hm z_ ?_);(conv=>whnf);repeat((first|refine aF ?_|refine aT ?_);(first|refine rG Γ hm ?_|refine rD Γ hm z_ ?_);conv=>whnf))
 refine c0 q7 F263 ?_
 cases tk
 rotate_left
 ·rw[if_pos rfl]at hlk
  subst hlk
  ((first|refine rG Γ hm ?_|refine rD Γ hm z_ ?_);(conv=>whnf);repeat((first|refine aF ?_|refine aT ?_);(first|refine rG Γ hm ?_|refine rD Γ hm z_ ?_);conv=>whnf))
  rw[Le q_ q_]
  refine iL ?_
  ((conv=>whnf);repeat((first|refine aF ?_|refine aT ?_);(first|refine rG Γ hm ?_|refine rD Γ hm z_ ?_);conv=>whnf))
  exact dN
 rw[if_neg y_]at hlk
 have hli:=hl rfl
 rw[Ad hli.2]at hlk
 have hui:=hu _ (List.getElem_mem hli.2)
 obtain ⟨x,hx⟩:∃ x,n.irbs[led.toNat]'hli.2=x:=⟨_,rfl⟩
 rw[hx]at hlk hui
 obtain ⟨y,hy⟩:=Int.eq_ofNat_of_zero_le hui.1
 have q:=Sd y x.bits q_
 have hle:=I5 x.addr x.bits hui
 rw[← hy]at q
 generalize Cy x.addr x.bits=z at *
 subst hlk
 ((first|refine rG Γ hm ?_|refine rD Γ hm z_ ?_);(conv=>whnf);repeat((first|refine aF ?_|refine aT ?_);(first|refine rG Γ hm ?_|refine rD Γ hm z_ ?_);conv=>whnf))
 refine⟨E,hli.1,hli.2,?_⟩
 rw[hx]
 ((conv=>whnf);repeat((first|refine aF ?_|refine aT ?_);(first|refine rG Γ hm ?_|refine rD Γ hm z_ ?_);conv=>whnf))
 first | refine cD q F308 ?_ | refine c0 q F308 ?_
 ((first|refine rG Γ hm ?_|refine rD Γ hm z_ ?_);(conv=>whnf);repeat((first|refine aF ?_|refine aT ?_);(first|refine rG Γ hm ?_|refine rD Γ hm z_ ?_);conv=>whnf))
 rw[Le q_ q_]
 refine iL ?_
 ((conv=>whnf);repeat((first|refine aF ?_|refine aT ?_);(first|refine rG Γ hm ?_|refine rD Γ hm z_ ?_);conv=>whnf))
 exact dN
theorem Zh {n:Net} (hu:Bp n) (hb:Ac n=true) {irb a:Int} (ha:0≤a∧a<4294967296) (h:De n a=false→(lookT n irb a).2=true) :
  a<pastI n a (lookT n irb a).1∧pastI n a (lookT n irb a).1≤4294967296:=by
 rw[pastI]
 split
 ·omega
 rename_i ht
 have h2:=h (by simpa using ht)
 have hw:=Aex h2
 have hi:=Kq h2
 have e:((lookT n irb a).1.toNat:Int)=(lookT n irb a).1:=by have:=hi.1;omega
 rw[Mj,Bool.and_eq_true,e]at hw
 rw[Ad hi.2]at hw ⊢
 have hui:=hu _ (List.getElem_mem hi.2)
 have hbi:=(B3 hb hi.2).2.2
 have h3:=(Kw _ _ _ hbi hui ha).1 hw.1
 have h4:=I5 _ (n.irbs[(lookT n irb a).1.toNat]'hi.2).bits hui
 omega
def addrGo (n:Net) (irb to e:Int) (x:Int):Int × Bool :=
 if x≤e then
  if (lookT n irb x).2=true∧(lookT n irb x).1=to∧De n x=false then (x,true)
  else if (lookT n irb x).2=false∧De n x=false then (0,false)
  else if x<pastI n x (lookT n irb x).1 then addrGo n irb to e (pastI n x (lookT n irb x).1) else (0,false)
 else (0,false)
 termination_by (e+1-x).toNat
 decreasing_by omega
def addrT (n:Net) (irb to:Int):Int × Bool :=
 if (0≤irb∧irb<n.irbs.length)∧(0≤to∧to<n.irbs.length)∧Ac n=true then
  addrGo n irb to (Cy (nth n.irbs to).addr (nth n.irbs to).bits) (B2 (nth n.irbs to).addr (nth n.irbs to).bits) else (0,false)
theorem Va (n:Net) (hn:n.Fin) (hu:Bp n) (irb to:Int):Sy.Spec Tryz.prog 266 [Ae n,Aa irb,Aa to] [] (.tup [A5 (addrT n irb to).1,Ab (addrT n irb to).2]) []:=cT F266 Tryz.ntmps266 fun F hF=>by
 have hlk:=addrT.eq_1 n irb to
 generalize addrT n irb to=res at *
 have hr:=Aw n hn
 have hsi:=hn.irbs
 unfold Ag at hsi
 ((conv=>whnf);repeat((first|refine aF ?_|refine aT ?_);(first|refine rG Γ hm ?_|refine rD Γ hm z_ ?_);conv=>whnf))
 refine⟨fun h=>?_,fun h=>?_⟩
 ·rw[if_neg (qA h)]at hlk
  subst hlk
  ((first|refine rG Γ hm ?_|refine rD Γ hm z_ ?_);(conv=>whnf);repeat((first|refine aF ?_|refine aT ?_);(first|refine rG Γ hm ?_|refine rD Γ hm z_ ?_);conv=>whnf))
  exact dN
 have h1:¬ irb<0:=of_decide_eq_false h
 ((first|refine rG Γ hm ?_|refine rD Γ hm z_ ?_);(conv=>whnf);repeat((first|refine aF ?_|refine aT ?_);(first|refine rG Γ hm ?_|refine rD Γ hm z_ ?_);conv=>whnf))
 refine⟨fun h=>?_,fun h=>?_⟩
 ·rw[if_neg (qA h)]at hlk
  subst hlk
  ((first|refine rG Γ hm ?_|refine rD Γ hm z_ ?_);(conv=>whnf);repeat((first|refine aF ?_|refine aT ?_);(first|refine rG Γ hm ?_|refine rD Γ hm z_ ?_);conv=>whnf))
  exact dN
 have h2:¬ to<0:=of_decide_eq_false h
 refine A1 3 8 (Ae n) E E E ?_
 ((first|refine rG Γ hm ?_|refine rD Γ hm z_ ?_);(conv=>whnf);repeat((first|refine aF ?_|refine aT ?_);(first|refine rG Γ hm ?_|refine rD Γ hm z_ ?_);conv=>whnf))
 refine⟨fun h=>?_,fun h=>?_⟩
 ·rw[if_neg (qA h)]at hlk
  subst hlk
  ((first|refine rG Γ hm ?_|refine rD Γ hm z_ ?_);(conv=>whnf);repeat((first|refine aF ?_|refine aT ?_);(first|refine rG Γ hm ?_|refine rD Γ hm z_ ?_);conv=>whnf))
  exact dN
 have h3:irb<n.irbs.length:=qB h
 ((first|refine rG Γ hm ?_|refine rD Γ hm z_ ?_);(conv=>whnf);repeat((first|refine aF ?_|refine aT ?_);(first|refine rG Γ hm ?_|refine rD Γ hm z_ ?_);conv=>whnf))
 refine⟨fun h=>?_,fun h=>?_⟩
 ·rw[if_neg (qA h)]at hlk
  subst hlk
  ((first|refine rG Γ hm ?_|refine rD Γ hm z_ ?_);(conv=>whnf);repeat((first|refine aF ?_|refine aT ?_);(first|refine rG Γ hm ?_|refine rD Γ hm z_ ?_);conv=>whnf))
  exact dN
 have h4:to<n.irbs.length:=qB h
 ((first|refine rG Γ hm ?_|refine rD Γ hm z_ ?_);(conv=>whnf);repeat((first|refine aF ?_|refine aT ?_);(first|refine rG Γ hm ?_|refine rD Γ hm z_ ?_);conv=>whnf))
 refine c0 hr F25 ?_
 cases hb:Ac n
 ·rw[if_neg (by simp[hb])]at hlk
  subst hlk
  ((first|refine rG Γ hm ?_|refine rD Γ hm z_ ?_);(conv=>whnf);repeat((first|refine aF ?_|refine aT ?_);(first|refine rG Γ hm ?_|refine rD Γ hm z_ ?_);conv=>whnf))
  exact dN
 rw[if_pos ⟨⟨by omega,h3⟩,⟨by omega,h4⟩,hb⟩]at hlk
 have hti:InIrbs n to:=⟨by omega,by omega⟩
 have hii:InIrbs n irb:=⟨by omega,by omega⟩
 rw[Ad hti.2]at hlk
 have hui:=hu _ (List.getElem_mem hti.2)
 obtain ⟨x,hx⟩:∃ x,n.irbs[to.toNat]'hti.2=x:=⟨_,rfl⟩
 rw[hx]at hlk hui
 obtain ⟨y,hy⟩:=Int.eq_ofNat_of_zero_le hui.1
 have q1:=Vi y x.bits q_
 have q2:=Sd y x.bits q_
 have hf:=Q6 x.addr x.bits hui
 have hle:=I5 x.addr x.bits hui
 rw[← hy]at q1 q2
 generalize Cy x.addr x.bits=e at *
 generalize B2 x.addr x.bits=s at *
 ((first|refine rG Γ hm ?_|refine rD Γ hm z_ ?_);(conv=>whnf);repeat((first|refine aF ?_|refine aT ?_);(first|refine rG Γ hm ?_|refine rD Γ hm z_ ?_);conv=>whnf))
 refine⟨E,hti.1,hti.2,?_⟩
 rw[hx]
 ((conv=>whnf);repeat((first|refine aF ?_|refine aT ?_);(first|refine rG Γ hm ?_|refine rD Γ hm z_ ?_);conv=>whnf))
 refine cD q1 F307 ?_
 ((first|refine rG Γ hm ?_|refine rD Γ hm z_ ?_);(conv=>whnf);repeat((first|refine aF ?_|refine aT ?_);(first|refine rG Γ hm ?_|refine rD Γ hm z_ ?_);conv=>whnf))
 refine cD q2 F308 ?_
 ((first|refine rG Γ hm ?_|refine rD Γ hm z_ ?_);(conv=>whnf);repeat((first|refine aF ?_|refine aT ?_);(first|refine rG Γ hm ?_|refine rD Γ hm z_ ?_);conv=>whnf))
 refine⟨z_,?_⟩
 ((conv=>whnf);repeat((first|refine aF ?_|refine aT ?_);(first|refine rG Γ hm ?_|refine rD Γ hm z_ ?_);conv=>whnf))
 refine Cc (fun z:Int=>0≤z∧z≤4294967296∧res=addrGo n irb to e z) (fun z=>[(1,Aa irb),(2,Aa to),(3,.ref 8 (Ae n) 0),(9,Aa z),(10,Aa e)]) (fun _=>[]) (fun z=>(e+1-z).toNat) s [] ⟨hf.1,by omega,hlk⟩
  ⟨⟨rfl,rfl,rfl,rfl,rfl,rfl,congrArg Aa (Le (x:=s) q_ q_).symm,rfl,congrArg Aa (Le (x:=e) q_ q_).symm,rfl,trivial⟩,trivial,rfl,rfl⟩ ?_
 clear hlk
 rintro z ⟨hz0,hz1,hlk⟩
 ((first|refine rG Γ hm ?_|refine rD Γ hm z_ ?_);(conv=>whnf);repeat((first|refine aF ?_|refine aT ?_);(first|refine rG Γ hm ?_|refine rD Γ hm z_ ?_);conv=>whnf))
 refine⟨fun h=>?_,fun h=>?_⟩
 ·have h5:z≤e:=of_decide_eq_true h
  rw[addrGo,if_pos h5]at hlk
  have hz2:0≤z∧z<4294967296:=by omega
  have q6:=Oc n hn hb irb z hii
  have hgt:=Zh (irb:=irb) hu hb hz2
  have hth:=Kq (n:=n) (irb:=irb) (dst:=z)
  have q8:=fun led hl=>Aan n hn hu z led hz2 hl
  have q7:=Dc n.irbs (fun i:Irb=>i.addr == z) 326 [] [.ref 1 (A5 z) 0] rfl (fun i _=>⟨⟨_,_,F326⟩,Aef z i⟩) hn.irbs
  have ht:decide (0≤Bd (fun i:Irb=>i.addr == z) n.irbs)=De n z:=rfl
  rw[ht]at q7
  clear ht
  generalize De n z=tk at *
  generalize lookT n irb z=ld at *
  obtain ⟨led,ok⟩:=ld
  dsimp only at *
  ((first|refine rG Γ hm ?_|refine rD Γ hm z_ ?_);(conv=>whnf);repeat((first|refine aF ?_|refine aT ?_);(first|refine rG Γ hm ?_|refine rD Γ hm z_ ?_);conv=>whnf))
  rw[Ad0 hz2.1 hz2.2]
  refine c0 q6 F262 ?_
  refine A1 11 1 (A5 z) E E E ?_
  ((first|refine rG Γ hm ?_|refine rD Γ hm z_ ?_);(conv=>whnf);repeat((first|refine aF ?_|refine aT ?_);(first|refine rG Γ hm ?_|refine rD Γ hm z_ ?_);conv=>whnf))
  refine c0 q7 F263 ?_
  cases ok
  ·cases tk
   ·rw[if_neg y_,if_pos ⟨rfl,rfl⟩]at hlk
    subst hlk
    ((first|refine rG Γ hm ?_|refine rD Γ hm z_ ?_);(conv=>whnf);repeat((first|refine aF ?_|refine aT ?_);(first|refine rG Γ hm ?_|refine rD Γ hm z_ ?_);conv=>whnf))
    exact dN
   ·rw[if_neg y_,if_neg y_,if_pos (hgt (fun h=>by cases h)).1]at hlk
    have hg:=hgt (fun h=>by cases h)
    have q:=q8 led (fun h=>by cases h)
    generalize pastI n z led=nx at *
    ((first|refine rG Γ hm ?_|refine rD Γ hm z_ ?_);(conv=>whnf);repeat((first|refine aF ?_|refine aT ?_);(first|refine rG Γ hm ?_|refine rD Γ hm z_ ?_);conv=>whnf))
    refine c0 q F327 ?_
    ((first|refine rG Γ hm ?_|refine rD Γ hm z_ ?_);(conv=>whnf);repeat((first|refine aF ?_|refine aT ?_);(first|refine rG Γ hm ?_|refine rD Γ hm z_ ?_);conv=>whnf))
    exact A8 nx [] ⟨by omega,hg.2,hlk⟩ q_ ⟨⟨E,E,E,E,E,E,E,E,E,E,Y⟩,Y,E,E⟩
  ·have q:=q8 led (fun _=>hth rfl)
   have hg:=hgt (fun _=>rfl)
   cases tk
   ·by_cases hto:led=to
    ·subst hto
     rw[if_pos ⟨rfl,rfl,rfl⟩]at hlk
     subst hlk
     ((first|refine rG Γ hm ?_|refine rD Γ hm z_ ?_);(conv=>whnf);repeat((first|refine aF ?_|refine aT ?_);(first|refine rG Γ hm ?_|refine rD Γ hm z_ ?_);conv=>whnf))
     refine⟨fun h=>?_,fun h=>?_⟩
     ·((first|refine rG Γ hm ?_|refine rD Γ hm z_ ?_);(conv=>whnf);repeat((first|refine aF ?_|refine aT ?_);(first|refine rG Γ hm ?_|refine rD Γ hm z_ ?_);conv=>whnf))
      exact dN
     ·simp at h
    ·rw[if_neg (by simp[hto]),if_neg y_,if_pos hg.1]at hlk
     generalize pastI n z led=nx at *
     ((first|refine rG Γ hm ?_|refine rD Γ hm z_ ?_);(conv=>whnf);repeat((first|refine aF ?_|refine aT ?_);(first|refine rG Γ hm ?_|refine rD Γ hm z_ ?_);conv=>whnf))
     refine⟨fun h=>absurd (by simpa using h) hto,fun h=>?_⟩
     ((first|refine rG Γ hm ?_|refine rD Γ hm z_ ?_);(conv=>whnf);repeat((first|refine aF ?_|refine aT ?_);(first|refine rG Γ hm ?_|refine rD Γ hm z_ ?_);conv=>whnf))
     refine c0 q F327 ?_
     ((first|refine rG Γ hm ?_|refine rD Γ hm z_ ?_);(conv=>whnf);repeat((first|refine aF ?_|refine aT ?_);(first|refine rG Γ hm ?_|refine rD Γ hm z_ ?_);conv=>whnf))
     exact A8 nx [] ⟨by omega,hg.2,hlk⟩ q_ ⟨⟨E,E,E,E,E,E,E,E,E,E,Y⟩,Y,E,E⟩
   ·rw[if_neg y_,if_neg y_,if_pos hg.1]at hlk
    generalize pastI n z led=nx at *
    ((first|refine rG Γ hm ?_|refine rD Γ hm z_ ?_);(conv=>whnf);repeat((first|refine aF ?_|refine aT ?_);(first|refine rG Γ hm ?_|refine rD Γ hm z_ ?_);conv=>whnf))
    refine⟨fun h=>?_,fun h=>?_⟩
    ·((first|refine rG Γ hm ?_|refine rD Γ hm z_ ?_);(conv=>whnf);repeat((first|refine aF ?_|refine aT ?_);(first|refine rG Γ hm ?_|refine rD Γ hm z_ ?_);conv=>whnf))
     refine c0 q F327 ?_
     ((first|refine rG Γ hm ?_|refine rD Γ hm z_ ?_);(conv=>whnf);repeat((first|refine aF ?_|refine aT ?_);(first|refine rG Γ hm ?_|refine rD Γ hm z_ ?_);conv=>whnf))
     exact A8 nx [] ⟨by omega,hg.2,hlk⟩ q_ ⟨⟨E,E,E,E,E,E,E,E,E,E,Y⟩,Y,E,E⟩
    ·((first|refine rG Γ hm ?_|refine rD Γ hm z_ ?_);(conv=>whnf);repeat((first|refine aF ?_|refine aT ?_);(first|refine rG Γ hm ?_|refine rD Γ hm z_ ?_);conv=>whnf))
     refine c0 q F327 ?_
     ((first|refine rG Γ hm ?_|refine rD Γ hm z_ ?_);(conv=>whnf);repeat((first|refine aF ?_|refine aT ?_);(first|refine rG Γ hm ?_|refine rD Γ hm z_ ?_);conv=>whnf))
     exact A8 nx [] ⟨by omega,hg.2,hlk⟩ q_ ⟨⟨E,E,E,E,E,E,E,E,E,E,Y⟩,Y,E,E⟩
 ·have h5:¬ z≤e:=of_decide_eq_false h
  rw[addrGo,if_neg h5]at hlk
  subst hlk
  ((first|refine rG Γ hm ?_|refine rD Γ hm z_ ?_);(conv=>whnf);repeat((first|refine aF ?_|refine aT ?_);(first|refine rG Γ hm ?_|refine rD Γ hm z_ ?_);conv=>whnf))
  exact dN
end Go.Sy.YtjenpnjajjplkaaGreatDoor
namespace Go.Sy.YtjenpnjajjplkaaGreatDoor
open Go.Proofs
attribute [local irreducible] Go.Sy.G Go.Sy.DR
set_option maxRecDepth 20000
set_option maxHeartbeats 8000000
theorem Aay:∀ (n:Nat) (l:List UInt8),n<1000000000000000000→l.length+(revDigs n).length<1000000 →
  Sy.Spec Tryz.prog 258 [.osl 0,Aa n] [(0,.row 1 Cs l)] (.osl 1) [(0,.non),(1,.row 1 Cs (l++(revDigs n).reverse))]:=by
 intro n
 induction n using Nat.strongRecOn with
 | ind n ih =>
  intro l hn hl
  have hpos:=E0 n
  have hrev:=Sm n
  have hlr:(revDigs n).reverse.length=(revDigs n).length:=List.length_reverse
  refine Aai Γ hm 100 F258 Tryz.ntmps258 E fun F hF=>by
   ((conv=>whnf);repeat((first|refine aF ?_|refine aT ?_);(first|refine rG Γ hm ?_|refine rD Γ hm z_ ?_);conv=>whnf))
   refine⟨fun h=>?_,fun h=>?_⟩
   ·have h1:¬ n<10:=qA h
    rw[if_neg h1]at hrev
    have hlen:(revDigs (n / 10)).length+1=(revDigs n).length:=by
     rw[← hlr,hrev];simp
    have q:=ih (n / 10) q_ l q_ q_
    ((first|refine rG Γ hm ?_|refine rD Γ hm z_ ?_);(conv=>whnf);repeat((first|refine aF ?_|refine aT ?_);(first|refine rG Γ hm ?_|refine rD Γ hm z_ ?_);conv=>whnf))
    refine⟨by decide,?_⟩
    ((conv=>whnf);repeat((first|refine aF ?_|refine aT ?_);(first|refine rG Γ hm ?_|refine rD Γ hm z_ ?_);conv=>whnf))
    rw[tdiv10 n hn]
    refine A2 (Aj [(0,0),(1,1000)] E F258 q E ⟨E,Y⟩ E ⟨.inl E,.inr E,Y⟩) E E ?_
    ((first|refine rG Γ hm ?_|refine rD Γ hm z_ ?_);(conv=>whnf);repeat((first|refine aF ?_|refine aT ?_);(first|refine rG Γ hm ?_|refine rD Γ hm z_ ?_);conv=>whnf))
    refine⟨by decide,?_⟩
    ((conv=>whnf);repeat((first|refine aF ?_|refine aT ?_);(first|refine rG Γ hm ?_|refine rD Γ hm z_ ?_);conv=>whnf))
    rw[Afw n]
    refine iL ?_
    ((conv=>whnf);repeat((first|refine aF ?_|refine aT ?_);(first|refine rG Γ hm ?_|refine rD Γ hm z_ ?_);conv=>whnf))
    rw[dig8 n]
    refine A2 (Ai Γ.toTy 17 rfl rfl rfl rfl rfl (.row rfl) (.lit (e:=Cs) (l:=[UInt8.ofNat (48+n % 10)]) rfl rfl) (fun j hj=>by cases hj;decide) (by simp;omega) (by simp;omega)) rfl rfl ?_
    ((first|refine rG Γ hm ?_|refine rD Γ hm z_ ?_);(conv=>whnf);repeat((first|refine aF ?_|refine aT ?_);(first|refine rG Γ hm ?_|refine rD Γ hm z_ ?_);conv=>whnf))
    exact done E (.cons .tmp .nil) [(1,17)] [(0,.non),(1,.row 1 Cs (l++(revDigs n).reverse))] (fun _ h=>h) E E ⟨Y,⟨.inl E,E,.inl (by rw[hrev,← List.append_assoc];rfl),E,Y⟩,E,E⟩
   ·have h1:n<10:=qB h
    rw[if_pos h1,List.nil_append]at hrev
    ((first|refine rG Γ hm ?_|refine rD Γ hm z_ ?_);(conv=>whnf);repeat((first|refine aF ?_|refine aT ?_);(first|refine rG Γ hm ?_|refine rD Γ hm z_ ?_);conv=>whnf))
    refine⟨by decide,?_⟩
    ((conv=>whnf);repeat((first|refine aF ?_|refine aT ?_);(first|refine rG Γ hm ?_|refine rD Γ hm z_ ?_);conv=>whnf))
    rw[Afw n]
    refine iL ?_
    ((conv=>whnf);repeat((first|refine aF ?_|refine aT ?_);(first|refine rG Γ hm ?_|refine rD Γ hm z_ ?_);conv=>whnf))
    rw[dig8 n]
    refine A2 (Ai Γ.toTy 17 E E E E E (.row E) (.lit (e:=Cs) (l:=[UInt8.ofNat (48+n % 10)]) E E) y_ (by simp;omega) (by simp;omega)) E E ?_
    ((first|refine rG Γ hm ?_|refine rD Γ hm z_ ?_);(conv=>whnf);repeat((first|refine aF ?_|refine aT ?_);(first|refine rG Γ hm ?_|refine rD Γ hm z_ ?_);conv=>whnf))
    exact done E (.cons .tmp .nil) [(1,17)] [(0,.non),(1,.row 1 Cs (l++(revDigs n).reverse))] (fun _ h=>h) E E ⟨Y,⟨.inl E,E,.inl (by rw[hrev];rfl),E,Y⟩,E,E⟩
def octN (a i:Nat):Nat:=a / 256 ^ (3-i) % 256
def Ja (a:Nat):Nat→List UInt8
 | 0=>[]
 | j+1=>Ja a j++(if 0<j then [46] else [])++(revDigs (octN a j)).reverse
def D0 (a:Int):ByteArray:=mkT (Ja a.toNat 4)
theorem Sn (a i:Nat):(revDigs (octN a i)).length≤4:=Dt 3 _ (by unfold octN;omega)
theorem Hx (a:Nat):∀ j,(Ja a j).length≤5 * j
 | 0=>by simp[Ja]
 | j+1=>by
  have:=Hx a j
  have h2:=Sn a j
  rw[Ja,List.length_append,List.length_append,List.length_reverse]
  split<;>simp<;>omega
theorem Aeo (a j:Nat) (ha:a<4294967296) (hj:j<4):IntKind.i64.wrap (IntKind.u8.wrap ((a:Int).fdiv (2 ^ (min (8 * (3-(j:Int))).toNat IntKind.u32.bits))))=((octN a j:Nat):Int):=by
 have h:(8 * (3-(j:Int))).toNat=8 * (3-j):=by omega
 have hb:min (8 * (3-j)) IntKind.u32.bits=8 * (3-j):=by show min _ 32=_;omega
 have hp:(2:Nat) ^ (8 * (3-j))=256 ^ (3-j):=by rw[Nat.pow_mul]
 rw[h,hb,show (2:Int) ^ (8 * (3-j))=((2 ^ (8 * (3-j)):Nat):Int) by rw[Int.natCast_pow];rfl,hp,Int.fdiv_eq_ediv_of_nonneg _ (Int.natCast_nonneg _),← Int.natCast_ediv,octN,IntKind.wrap_u8,IntKind.wrap_i64]
 have:a / 256 ^ (3-j)≤a:=Nat.div_le_self _ _
 omega
theorem Afm (a:Nat) (ha:a<4294967296):Sy.Spec Tryz.prog 185 [A5 a] [] (Ak (D0 a)) []:=cT F185 Tryz.ntmps185 fun F hF=>by
 ((conv=>whnf);repeat((first|refine aF ?_|refine aT ?_);(first|refine rG Γ hm ?_|refine rD Γ hm z_ ?_);conv=>whnf))
 refine Cq 3 1000 1 Cs E E ?_
 refine By 4 (fun j=>[(0,A5 a),(3,.osl 1000),(5,Aa j)]) (fun j=>[(1000,.row 1 Cs (Ja a j))]) []
  ⟨⟨rfl,rfl,rfl,rfl,rfl,rfl,trivial⟩,⟨.inl rfl,rfl,trivial⟩,rfl,rfl⟩ ?_
 intro j hj
 have hlu:=Hx a j
 have hsu:Ja a (j+1)=Ja a j++(if 0<j then [46] else [])++(revDigs (octN a j)).reverse:=rfl
 have hro:=Sn a j
 generalize hu:Ja a j=u at *
 ((first|refine rG Γ hm ?_|refine rD Γ hm z_ ?_);(conv=>whnf);repeat((first|refine aF ?_|refine aT ?_);(first|refine rG Γ hm ?_|refine rD Γ hm z_ ?_);conv=>whnf))
 refine⟨fun h=>?_,fun h=>?_⟩
 ·have hlt:j<4:=qA h
  have hsh:=Aeo a j ha hlt
  have hob:octN a j<1000000000000000000:=by unfold octN;omega
  ((first|refine rG Γ hm ?_|refine rD Γ hm z_ ?_);(conv=>whnf);repeat((first|refine aF ?_|refine aT ?_);(first|refine rG Γ hm ?_|refine rD Γ hm z_ ?_);conv=>whnf))
  refine⟨fun h=>?_,fun h=>?_⟩
  ·have h0:0<j:=qA h
   rw[if_pos h0]at hsu
   have q:=Aay (octN a j) (u++[46]) hob (by simp;omega)
   ((first|refine rG Γ hm ?_|refine rD Γ hm z_ ?_);(conv=>whnf);repeat((first|refine aF ?_|refine aT ?_);(first|refine rG Γ hm ?_|refine rD Γ hm z_ ?_);conv=>whnf))
   refine A2 (Ai Γ.toTy 12 E E E E E (.row E) (.lit (e:=Cs) (l:=[46]) E E) j_ (by simp;omega) (by simp;omega)) E E ?_
   ((first|refine rG Γ hm ?_|refine rD Γ hm z_ ?_);(conv=>whnf);repeat((first|refine aF ?_|refine aT ?_);(first|refine rG Γ hm ?_|refine rD Γ hm z_ ?_);conv=>whnf))
   refine iL ?_
   ((conv=>whnf);repeat((first|refine aF ?_|refine aT ?_);(first|refine rG Γ hm ?_|refine rD Γ hm z_ ?_);conv=>whnf))
   refine iL ?_
   ((conv=>whnf);repeat((first|refine aF ?_|refine aT ?_);(first|refine rG Γ hm ?_|refine rD Γ hm z_ ?_);conv=>whnf))
   refine⟨by omega,?_⟩
   ((conv=>whnf);repeat((first|refine aF ?_|refine aT ?_);(first|refine rG Γ hm ?_|refine rD Γ hm z_ ?_);conv=>whnf))
   rw[hsh]
   refine A2 (Aj [(0,12),(1,1001)] E F258 q E ⟨E,Y⟩ E ⟨.inl E,.inr E,Y⟩) E E ?_
   ((first|refine rG Γ hm ?_|refine rD Γ hm z_ ?_);(conv=>whnf);repeat((first|refine aF ?_|refine aT ?_);(first|refine rG Γ hm ?_|refine rD Γ hm z_ ?_);conv=>whnf))
   refine iL ?_
   ((conv=>whnf);repeat((first|refine aF ?_|refine aT ?_);(first|refine rG Γ hm ?_|refine rD Γ hm z_ ?_);conv=>whnf))
   exact Bs [(1000,1001)] hlt ⟨⟨E,E,E,E,E,E,Y⟩,⟨.inl (congrArg (Ob.row 1 Cs) hsu),E,Y⟩,E,E⟩
  ·have h0:¬ 0<j:=qB h
   rw[if_neg h0,List.append_nil]at hsu
   have q:=Aay (octN a j) u hob q_
   ((first|refine rG Γ hm ?_|refine rD Γ hm z_ ?_);(conv=>whnf);repeat((first|refine aF ?_|refine aT ?_);(first|refine rG Γ hm ?_|refine rD Γ hm z_ ?_);conv=>whnf))
   refine iL ?_
   ((conv=>whnf);repeat((first|refine aF ?_|refine aT ?_);(first|refine rG Γ hm ?_|refine rD Γ hm z_ ?_);conv=>whnf))
   refine iL ?_
   ((conv=>whnf);repeat((first|refine aF ?_|refine aT ?_);(first|refine rG Γ hm ?_|refine rD Γ hm z_ ?_);conv=>whnf))
   refine⟨by omega,?_⟩
   ((conv=>whnf);repeat((first|refine aF ?_|refine aT ?_);(first|refine rG Γ hm ?_|refine rD Γ hm z_ ?_);conv=>whnf))
   rw[hsh]
   refine A2 (Aj [(0,1000),(1,1001)] E F258 q E ⟨E,Y⟩ E ⟨.inl E,.inr E,Y⟩) E E ?_
   ((first|refine rG Γ hm ?_|refine rD Γ hm z_ ?_);(conv=>whnf);repeat((first|refine aF ?_|refine aT ?_);(first|refine rG Γ hm ?_|refine rD Γ hm z_ ?_);conv=>whnf))
   refine iL ?_
   ((conv=>whnf);repeat((first|refine aF ?_|refine aT ?_);(first|refine rG Γ hm ?_|refine rD Γ hm z_ ?_);conv=>whnf))
   exact Bs [(1000,1001)] hlt ⟨⟨E,E,E,E,E,E,Y⟩,⟨.inl (congrArg (Ob.row 1 Cs) hsu),E,Y⟩,E,E⟩
 ·have:j=4:=qB h
  subst this
  subst hu
  ((first|refine rG Γ hm ?_|refine rD Γ hm z_ ?_);(conv=>whnf);repeat((first|refine aF ?_|refine aT ?_);(first|refine rG Γ hm ?_|refine rD Γ hm z_ ?_);conv=>whnf))
  refine A2 (Ou Γ.toTy (bs:=Ja a 4) E E E E E E E (.row E)) E E ?_
  ((first|refine rG Γ hm ?_|refine rD Γ hm z_ ?_);(conv=>whnf);repeat((first|refine aF ?_|refine aT ?_);(first|refine rG Γ hm ?_|refine rD Γ hm z_ ?_);conv=>whnf))
  exact dN
end Go.Sy.YtjenpnjajjplkaaGreatDoor
namespace Go.Sy.YtjenpnjajjplkaaGreatDoor
open Go.Proofs
theorem Yp (a b:ByteArray):(a == b)=true↔a=b:=by
 cases a with
 | mk a =>
  cases b with
  | mk b =>
   show (a == b)=true↔_
   simp
instance:LawfulBEq ByteArray where
 eq_of_beq h:=(Yp _ _).1 h
 rfl:=(Yp _ _).2 rfl
def Aey (c:UInt8):Bool:=decide (97≤c.toNat) && decide (c.toNat≤122)
def Agn:List UInt8→Bool
 | []=>false
 | c::l=>Aey c && l.all fun c=>Aey c || Hu c
def Be (s:ByteArray):Bool:=Agn s.data.toList && decide (s.size≤12)
def macAt (s:ByteArray) (i:Nat):Bool:=decide (Aje (Bt s (3 * i))≤15) && decide (Aje (Bt s (3 * i+1))≤15) && (decide (5≤i) || decide ((Bt s (3 * i+2)).toNat=58))
def macV (s:ByteArray):Nat→Int
 | 0=>0
 | i+1=>macV s i * 256+Aje (Bt s (3 * i)) * 16+Aje (Bt s (3 * i+1))
def Tj (s:ByteArray):Int × Bool:=if s.size=17∧(List.range 6).all (macAt s)=true then (macV s 6,true) else (0,false)
def Jp (m:Int):Bool:=decide (m % 281474976710656 / 4294967296=512)
def statB (m:Int):Bool:=decide (m≤281474976710655) && !(Jp m) && !(Xu m.toNat)
def Adj (one:ByteArray→Int × Bool):List Int→List ByteArray→List Int × Bool
 | out,[]=>(out,true)
 | out,p::r=>if (one p).2=false∨out.length=16∨(∃ x,out.getLast? = some x∧(one p).1≤x) then ([],false) else Adj one (out++[(one p).1]) r
def Ag7 (one:ByteArray→Int × Bool) (s:ByteArray):List Int × Bool:=Adj one [] (An 44 s)
def dash:ByteArray:=⟨#[45]⟩
def Sv (most:Int) (s:ByteArray):List Int × Bool:=if s=dash then ([],true) else Ag7 (fun p=>Ui p 1 most) s
def Acu (s:ByteArray):List Int × Bool:=Ag7 Bv s
def Oh (s:ByteArray):(Int × Int) × Bool :=
 if (Aht 47 s).2.2=false∨(Bv (Aht 47 s).1).2=false∨(smallT (Aht 47 s).2.1 32).2=false then ((0,0),false) else (((Bv (Aht 47 s).1).1,(smallT (Aht 47 s).2.1 32).1),true)
def subnetB (a bits:Int):Bool:=decide (1≤bits) && decide (bits≤30) && decide (a≠B2 a bits) && decide (a≠Cy a bits)
def L9 (s:ByteArray):Int :=
 if s=⟨#[100,101,118,105,99,101]⟩ then 1 else if s=⟨#[112,111,114,116]⟩ then 2 else if s=⟨#[108,105,110,107]⟩ then 3 else if s=⟨#[115,116,97,116,105,99]⟩ then 4
 else if s=⟨#[118,116,101,112]⟩ then 5 else if s=⟨#[118,110,105]⟩ then 6 else if s=⟨#[102,108,111,111,100]⟩ then 7 else if s=⟨#[118,114,102]⟩ then 8 else if s=⟨#[105,114,98]⟩ then 9 else 0
def Adv:ByteArray:=⟨#[97,99,99,101,115,115]⟩
def Afv:ByteArray:=⟨#[116,114,117,110,107]⟩
def wdT (w:List ByteArray) (i:Nat):ByteArray:=(w[i]?).getD ⟨#[]⟩
def membersB (vlan:Int) (tagged:List Int):Bool:=(decide (0<vlan) || !tagged.isEmpty) && !(tagged.contains vlan)
def lineZ:LineM:=⟨0,0,⟨#[]⟩,⟨#[]⟩,⟨#[]⟩,⟨#[]⟩,⟨#[]⟩,0,0,0,0,0,0,[],[],[],[]⟩
def I0 (s:ByteArray):Int × Bool:=Ui s 1 4094
def Aii (s:ByteArray):Int × Bool:=Ui s 1 16777215
def Ze (w:List ByteArray):Int × List Int × List (Bool × Int) :=
 if wdT w 4=Adv then ((I0 (wdT w 5)).1,[],[(!(I0 (wdT w 5)).2,21)])
 else if wdT w 4=Afv then
  (if wdT w 5=dash then (0,(Sv 4094 (wdT w 6)).1,[(!(Sv 4094 (wdT w 6)).2,21)])
   else ((I0 (wdT w 5)).1,(Sv 4094 (wdT w 6)).1,[(!(I0 (wdT w 5)).2,21),(!(Sv 4094 (wdT w 6)).2,21)]))
 else (0,[],[])
def Wd (w:List ByteArray) (row:Int):LineM × List (Bool × Int) :=
 let n:=fun i=>(!(Be (wdT w i)),(20:Int))
 let k:=L9 (wdT w 0)
 if k=1 then ({ lineZ with row:=row,kind:=1,dev:=wdT w 1,num:=(Ui (wdT w 2) 0 65535).1,mac:=(Tj (wdT w 3)).1 },[n 1,(!(Ui (wdT w 2) 0 65535).2,21),(!((Tj (wdT w 3)).2 && statB (Tj (wdT w 3)).1),21)])
 else if k=2 then ({ lineZ with row:=row,kind:=2,dev:=wdT w 1,port:=wdT w 2,cost:=(Ui (wdT w 3) 1 65535).1,vlan:=(Ze w).1,tagged:=(Ze w).2.1 },
  [n 1,n 2,(!(Ui (wdT w 3) 1 65535).2,21),(decide (wdT w 4≠Adv) && decide (wdT w 4≠Afv),20)]++(Ze w).2.2++[(!(membersB (Ze w).1 (Ze w).2.1),21)])
 else if k=3 then ({ lineZ with row:=row,kind:=3,dev:=wdT w 1,port:=wdT w 2,peer:=wdT w 3,far:=wdT w 4 },[n 1,n 2,n 3,n 4])
 else if k=4 then ({ lineZ with row:=row,kind:=4,dev:=wdT w 1,vlan:=(I0 (wdT w 2)).1,mac:=(Tj (wdT w 3)).1,port:=wdT w 4 },[n 1,(!(I0 (wdT w 2)).2,21),(!((Tj (wdT w 3)).2 && statB (Tj (wdT w 3)).1),21),n 4])
 else if k=5 then ({ lineZ with row:=row,kind:=5,dev:=wdT w 1,addr:=(Bv (wdT w 2)).1 },[n 1,(!((Bv (wdT w 2)).2 && decide ((Bv (wdT w 2)).1≠0)),21)])
 else if k=6 then ({ lineZ with row:=row,kind:=6,dev:=wdT w 1,vlan:=(I0 (wdT w 2)).1,num:=(Aii (wdT w 3)).1 },[n 1,(!(I0 (wdT w 2)).2,21),(!(Aii (wdT w 3)).2,21)])
 else if k=7 then ({ lineZ with row:=row,kind:=7,dev:=wdT w 1,num:=(Aii (wdT w 2)).1,addrs:=(Acu (wdT w 3)).1 },[n 1,(!(Aii (wdT w 2)).2,21),(!((Acu (wdT w 3)).2 && decide ((Acu (wdT w 3)).1.head? ≠ some 0)),21)])
 else if k=8 then ({ lineZ with row:=row,kind:=8,dev:=wdT w 1,name:=wdT w 2,imports:=(Sv 65535 (wdT w 3)).1,exports:=(Sv 65535 (wdT w 4)).1 },[n 1,n 2,(!(Sv 65535 (wdT w 3)).2,21),(!(Sv 65535 (wdT w 4)).2,21)])
 else ({ lineZ with row:=row,kind:=9,dev:=wdT w 1,vlan:=(I0 (wdT w 2)).1,name:=wdT w 3,addr:=(Oh (wdT w 4)).1.1,bits:=(Oh (wdT w 4)).1.2 },
  [n 1,(!(I0 (wdT w 2)).2,21),n 3,(!((Oh (wdT w 4)).2 && subnetB (Oh (wdT w 4)).1.1 (Oh (wdT w 4)).1.2),21)])
def I2 (a b:LineM):Bool :=
 a.row == b.row && (a.kind == b.kind && (a.dev == b.dev && (a.port == b.port && (a.peer == b.peer && (a.far == b.far && (a.name == b.name && (a.mac == b.mac && (a.addr == b.addr && (a.bits == b.bits &&
 (a.vlan == b.vlan && (a.num == b.num && (a.cost == b.cost && (a.tagged == b.tagged && (a.imports == b.imports && (a.exports == b.exports && a.addrs == b.addrs)))))))))))))))
def Bb (n lo hi:Int):Bool:=decide (lo≤n) && decide (n≤hi)
abbrev D9 (l:List Int) (hi:Int):Bool:=Y3 l hi
def J0 (l:List Int):Bool:=(List.range l.length).all (fun i=>decide (l.getD i 0≠0) && (i == 0 || decide (l.getD (i-1) 0<l.getD i 0))) && (decide (0<l.length) && decide (l.length≤16))
def A9 (l:LineM):LineM × Bool :=
 let u:LineM:={ lineZ with row:=l.row,kind:=l.kind,dev:=l.dev }
 if l.kind=1 then ({ u with num:=l.num,mac:=l.mac },Bb l.num 0 65535 && statB l.mac)
 else if l.kind=2 then ({ u with port:=l.port,cost:=l.cost,vlan:=l.vlan,tagged:=l.tagged },Be l.port && (Bb l.cost 1 65535 && (Bb l.vlan 0 4094 && (D9 l.tagged 4094 && membersB l.vlan l.tagged))))
 else if l.kind=3 then ({ u with port:=l.port,peer:=l.peer,far:=l.far },Be l.port && (Be l.peer && Be l.far))
 else if l.kind=4 then ({ u with vlan:=l.vlan,mac:=l.mac,port:=l.port },Bb l.vlan 1 4094 && (statB l.mac && Be l.port))
 else if l.kind=5 then ({ u with addr:=l.addr },decide (l.addr≠0))
 else if l.kind=6 then ({ u with vlan:=l.vlan,num:=l.num },Bb l.vlan 1 4094 && Bb l.num 1 16777215)
 else if l.kind=7 then ({ u with num:=l.num,addrs:=l.addrs },Bb l.num 1 16777215 && J0 l.addrs)
 else if l.kind=8 then ({ u with name:=l.name,imports:=l.imports,exports:=l.exports },Be l.name && (D9 l.imports 65535 && D9 l.exports 65535))
 else if l.kind=9 then ({ u with vlan:=l.vlan,name:=l.name,addr:=l.addr,bits:=l.bits },Bb l.vlan 1 4094 && (Be l.name && subnetB l.addr l.bits))
 else (u,false)
def B0 (l:LineM):Bool:=(A9 l).2 && (Be l.dev && I2 (A9 l).1 l)
end Go.Sy.YtjenpnjajjplkaaGreatDoor
namespace Go.Sy.YtjenpnjajjplkaaGreatDoor
open Go.Proofs
attribute [local irreducible] Go.Sy.G Go.Sy.DR
structure Bx (Q:Prop):Prop where out:Q
theorem sE {α:Sort _} {a b:α} {K:Prop} (e:a=b) (h:K):a=b∧K:=⟨e,h⟩
theorem xE {α:Sort _} {a b:α} {K:a=b→Prop} (e:a=b) (h:K e):∃ e:a=b,K e:=⟨e,h⟩
theorem sL {a b:Int} {K:Prop} (e:a≤b) (h:K):a≤b∧K:=⟨e,h⟩
theorem xL {a b:Int} {K:a≤b→Prop} (e:a≤b) (h:K e):∃ e:a≤b,K e:=⟨e,h⟩
theorem sM {a b:Nat} {K:Prop} (e:a≤b) (h:K):a≤b∧K:=⟨e,h⟩
theorem sT {a b:Nat} {K:Prop} (e:a<b) (h:K):a<b∧K:=⟨e,h⟩
theorem xT {a b:Nat} {K:a<b→Prop} (e:a<b) (h:K e):∃ e:a<b,K e:=⟨e,h⟩
theorem sN {a b:Int} {K:Prop} (e:a≠b) (h:K):a≠b∧K:=⟨e,h⟩
theorem sI {a:Int} {K:Prop} (e:I64 a) (h:K):I64 a∧K:=⟨e,h⟩
theorem ct {p q:Prop} {b:Bool} (h:q) (e:b=true→False:=by
 intro _h
 first | exact absurd _h j_ | exact Bool.false_ne_true (Eq.trans (Eq.symm (by with_reducible assumption)) _h) | (simp at _h;done) | (simp at _h;omega)):(b=true→p)∧(b=false→q):=⟨fun x=>(e x).elim,fun _=>h⟩
theorem cf {p q:Prop} {b:Bool} (h:p) (e:b=false→False:=by
 intro _h
 first | exact absurd _h j_ | exact Bool.false_ne_true (Eq.trans (Eq.symm _h) (by with_reducible assumption)) | (simp at _h;done) | (simp at _h;omega)):(b=true→p)∧(b=false→q):=⟨fun _=>h,fun x=>(e x).elim⟩
theorem S {P Q:Prop} (h:Q) (e:Bx Q→P:=by
 intro hb
 first | refine rg ?_ | refine rd z_ ?_ | skip
 conv=>whnf
 repeat (first
  | ((first | refine aF ?_ | refine aT ?_ | refine ct ?_ | refine cf ?_);(first | refine rg ?_ | refine rd z_ ?_);(conv=>whnf))
  | ((first | refine⟨(by kernel_rfl:X3 _ _=true),?_⟩ | refine sI (by unfold I64;omega) ?_);(conv=>whnf)))
 exact hb.out):P:=e ⟨h⟩
theorem T {P Q:Prop} (h:Q) (e:Bx Q→P:=by
 intro hb
 refine S ?_
 repeat ((first | refine sE (by exact rfl) ?_ | refine sL (by first | omega | decide) ?_ | refine xL (by first | omega | decide) ?_ | refine sT (by first | omega | decide) ?_ | refine xT (by first | omega | decide) ?_ | refine sM (by first | omega | decide) ?_ | refine sN (by first | omega | decide) ?_ | refine xE (by exact rfl) ?_);refine S ?_)
 exact hb.out):P:=e ⟨h⟩
theorem D {P:Prop} (h:P:=by
 apply At
 ·exact E
 ·(repeat (first | exact ResVs.nil | (apply ResVs.cons;(first | exact .tmp | exact .cell rfl rfl rfl rfl))))
 ·exact E
 ·exact E):P:=h
theorem U {P:Prop} (h:P:=by
 refine⟨?_,?_,E,E⟩
 ·repeat (first | exact trivial | exact rfl | refine⟨rfl,rfl,?_⟩)
 ·repeat (first | exact trivial | refine⟨.inl rfl,rfl,?_⟩ | refine⟨.inr rfl,rfl,?_⟩)):P:=h
theorem W {P:Prop} (h:P:=by
 repeat (first | exact trivial | exact rfl | refine⟨rfl,?_⟩)):P:=h
theorem V {P:Prop} (h:P:=by
 repeat (first | exact trivial | refine⟨.inl rfl,?_⟩ | refine⟨.inr rfl,?_⟩)):P:=h
theorem C {P:Program} {f:FuncId} {fn:Func} {c:Code} {A:List SV} {R:SV} {Z Q:Prop} (hs:Sy.Spec P f A [] R []) (hf:Fun P f fn c) (h:Q) (e:Sy.Spec P f A [] R []→Fun P f fn c→Bx Q→Z:=by
 intro hs hf hb
 first | refine I9 hs hf rfl rfl rfl rfl rfl ?_ | refine Ahw hs hf rfl rfl rfl z_ rfl ?_
 refine T ?_
 exact hb.out):Z:=e hs hf ⟨h⟩
theorem X {C:Cx} {k:List KI} {s:SS} {all:Array Oper} {o:Oper} {rest:List Oper} {V:Up} {Q:Prop} (hg:Good C.P o s V) (h:Q) (hd:K4 C.n o=true:=by exact rfl) (hw:C1 C.n all o s=some true:=by exact rfl) (e:Bx Q→G C (.ops all rest::k) (s.upd o.dst V):=by
 intro hb
 refine T ?_
 exact hb.out):G C (.ops all (o::rest)::k) s:=A2 hg hd hw (e ⟨h⟩)
theorem Xd {C:Cx} {k:List KI} {s:SS} {all:Array Oper} {done:List Stp} {o:Oper} {rest:List Oper} {V:Up} {Q:Prop} (hg:Good C.P o s V) (h:Q) (hi:all[done.length]? = some o:=by kernel_rfl) (hw:C1 C.n all o s=some true:=by exact rfl) (hn:(E4 o || J5 o)=false:=by exact rfl) (e:Bx Q→DR C k all (done++[⟨done.length,o,V,true⟩]) rest (s.upd o.dst V):=by
 intro hb
 refine T ?_
 exact hb.out):DR C k all done (o::rest) s:=Dr hg hi hw (e ⟨h⟩) hn
end Go.Sy.YtjenpnjajjplkaaGreatDoor
namespace Go.Sy.YtjenpnjajjplkaaGreatDoor
open Go.Proofs
attribute [local irreducible] Go.Sy.G Go.Sy.DR
set_option maxRecDepth 100000
set_option maxHeartbeats 4000000
structure LineFin (l:LineM):Prop where
 t:l.tagged.length≤100000
 i:l.imports.length≤100000
 e:l.exports.length≤100000
 a:l.addrs.length≤100000
theorem Lb {κ:Ka} {w:World} {k sz:Nat} {α:Type} {e:α→SV} {l:List α} (hne:l≠[]) (h:ObOK κ w k (.row sz e l)):∃ b n c,κ k=.row b n c:=by
 rcases h with ⟨_,h⟩ | ⟨b,cap,_,_,_,h,_⟩
 ·exact absurd h hne
 ·exact⟨b,_,cap,h⟩
theorem Er (l:List Int) (hl:l.length<2147483648):Sy.Spec Tryz.prog 159 [.sl 1 Aa l] [] (.sl 1 Aa l) []:=cT F159 Tryz.ntmps159 fun F hF=>by
 conv=>whnf
 refine D2 E (.inl E) E E E .sl E E ?_
 intro b hb
 cases b
 ·refine oF ?_
  refine A2 (Ai Γ.toTy 7 E E E E E (.lit (e:=Aa) (l:=[]) E E) .sl y_ (by simp;omega) (by simp;omega)) E E ?_
  refine Ah 7 E ?_
  refine oO ?_
  exact dN
 ·have h0:l=[]:=List.eq_nil_of_length_eq_zero (hb rfl)
  subst h0
  refine oT ?_
  refine Ci 2 1 Aa E ?_
  exact dN
theorem W6 (l:List Int) (hl:l.length<2147483648):Sy.Spec Tryz.prog 160 [.sl 1 A5 l] [] (.sl 1 A5 l) []:=cT F160 Tryz.ntmps160 fun F hF=>by
 conv=>whnf
 refine D2 E (.inl E) E E E .sl E E ?_
 intro b hb
 cases b
 ·refine oF ?_
  refine A2 (Ai Γ.toTy 7 E E E E E (.lit (e:=A5) (l:=[]) E E) .sl y_ (by simp;omega) (by simp;omega)) E E ?_
  refine Ah 7 E ?_
  refine oO ?_
  exact dN
 ·have h0:l=[]:=List.eq_nil_of_length_eq_zero (hb rfl)
  subst h0
  refine oT ?_
  refine Ci 2 1 A5 E ?_
  exact dN
theorem Acl (l:List Port) (hl:l.length<2147483648):Sy.Spec Tryz.prog 152 [.sl 7 As l] [] (.osl 0) [(0,.row 7 As l)]:=cT F152 Tryz.ntmps152 fun F hF=>by
 conv=>whnf
 refine D2 E (.inl E) E E E .sl E E ?_
 intro b hb
 cases b
 ·refine oF ?_
  refine A2 (Ai Γ.toTy 7 E E E E E (.lit (e:=As) (l:=[]) E E) .sl y_ (by simp;omega) (by simp;omega)) E E ?_
  refine oO ?_
  exact done E (.cons .tmp .nil) [(0,7)] [(0,.row 7 As l)] (fun _ h=>h) E E ⟨Y,⟨.inl E,E,Y⟩,E,E⟩
 ·have h0:l=[]:=List.eq_nil_of_length_eq_zero (hb rfl)
  subst h0
  refine oT ?_
  refine Cq 2 1000 7 As E E ?_
  exact done E (.cons .tmp .nil) [(0,1000)] [(0,.row 7 As [])] (fun _ h=>h) E E ⟨Y,⟨.inl E,E,Y⟩,E,E⟩
theorem Ya (l:List Domain) (hl:l.length<2147483648):Sy.Spec Tryz.prog 154 [.sl 6 Af l] [] (.osl 0) [(0,.row 6 Af l)]:=cT F154 Tryz.ntmps154 fun F hF=>by
 conv=>whnf
 refine D2 E (.inl E) E E E .sl E E ?_
 intro b hb
 cases b
 ·refine oF ?_
  refine A2 (Ai Γ.toTy 7 E E E E E (.lit (e:=Af) (l:=[]) E E) .sl y_ (by simp;omega) (by simp;omega)) E E ?_
  refine oO ?_
  exact done E (.cons .tmp .nil) [(0,7)] [(0,.row 6 Af l)] (fun _ h=>h) E E ⟨Y,⟨.inl E,E,Y⟩,E,E⟩
 ·have h0:l=[]:=List.eq_nil_of_length_eq_zero (hb rfl)
  subst h0
  refine oT ?_
  refine Cq 2 1000 6 Af E E ?_
  exact done E (.cons .tmp .nil) [(0,1000)] [(0,.row 6 Af [])] (fun _ h=>h) E E ⟨Y,⟨.inl E,E,Y⟩,E,E⟩
theorem Aam (l:List Flood) (hl:l.length<2147483648):Sy.Spec Tryz.prog 156 [.sl 4 Ax l] [] (.osl 0) [(0,.row 4 Ax l)]:=cT F156 Tryz.ntmps156 fun F hF=>by
 conv=>whnf
 refine D2 E (.inl E) E E E .sl E E ?_
 intro b hb
 cases b
 ·refine oF ?_
  refine A2 (Ai Γ.toTy 7 E E E E E (.lit (e:=Ax) (l:=[]) E E) .sl y_ (by simp;omega) (by simp;omega)) E E ?_
  refine oO ?_
  exact done E (.cons .tmp .nil) [(0,7)] [(0,.row 4 Ax l)] (fun _ h=>h) E E ⟨Y,⟨.inl E,E,Y⟩,E,E⟩
 ·have h0:l=[]:=List.eq_nil_of_length_eq_zero (hb rfl)
  subst h0
  refine oT ?_
  refine Cq 2 1000 4 Ax E E ?_
  exact done E (.cons .tmp .nil) [(0,1000)] [(0,.row 4 Ax [])] (fun _ h=>h) E E ⟨Y,⟨.inl E,E,Y⟩,E,E⟩
theorem Afd (l:List Vrf) (hl:l.length<2147483648):Sy.Spec Tryz.prog 157 [.sl 5 Bh l] [] (.osl 0) [(0,.row 5 Bh l)]:=cT F157 Tryz.ntmps157 fun F hF=>by
 conv=>whnf
 refine D2 E (.inl E) E E E .sl E E ?_
 intro b hb
 cases b
 ·refine oF ?_
  refine A2 (Ai Γ.toTy 7 E E E E E (.lit (e:=Bh) (l:=[]) E E) .sl y_ (by simp;omega) (by simp;omega)) E E ?_
  refine oO ?_
  exact done E (.cons .tmp .nil) [(0,7)] [(0,.row 5 Bh l)] (fun _ h=>h) E E ⟨Y,⟨.inl E,E,Y⟩,E,E⟩
 ·have h0:l=[]:=List.eq_nil_of_length_eq_zero (hb rfl)
  subst h0
  refine oT ?_
  refine Cq 2 1000 5 Bh E E ?_
  exact done E (.cons .tmp .nil) [(0,1000)] [(0,.row 5 Bh [])] (fun _ h=>h) E E ⟨Y,⟨.inl E,E,Y⟩,E,E⟩
def L5 (i:Nat) (c:UInt8):Bool:=Aey c || (Hu c && decide (i≠0))
theorem Ago (s:ByteArray):Be s=(Do L5 s.data.toList && (decide (0<s.size) && decide (s.size≤12))):=by
 have hsz:s.data.toList.length=s.size:=rfl
 rw[Be,← hsz]
 cases hl:s.data.toList with
 | nil=>rfl
 | cons c l =>
  have e:Do L5 (c::l)=(Aey c && l.all fun c=>Aey c || Hu c):=by
   rw[Bool.eq_iff_iff,allB_iff,Bool.and_eq_true,List.all_eq_true]
   constructor
   ·intro h
    refine⟨by have:=h 0 y_;simpa [L5] using this,fun x hx=>?_⟩
    obtain ⟨i,hi,rfl⟩:=List.mem_iff_getElem.1 hx
    have:=h (i+1) (by simp;omega)
    simpa [L5] using this
   ·rintro ⟨h1,h2⟩ i hi
    cases i with
    | zero=>simp[L5,h1]
    | succ i =>
     have:=h2 (l[i]'(by simp at hi;omega)) (List.getElem_mem _)
     simpa [L5] using this
  rw[e,Agn]
  simp
theorem E2 (s:ByteArray) (hs:s.size≤1000000):Sy.Spec Tryz.prog 299 [Ak s] [] (Ab (Be s)) []:=cT F299 Tryz.ntmps299 fun F hF=>by
 have hsz:s.data.toList.length=s.size:=rfl
 have hw:=Ago s
 obtain ⟨r,hr⟩:∃ r,Be s=r:=⟨_,rfl⟩
 rw[hr]at hw ⊢
 refine T ?_
 refine Az s.size (fun j=>Dp L5 s.data.toList j) (fun j=>[(0,Ak s),(7,Aa s.size),(8,Aa j)]) (fun _=>[]) [] (A7 _ _) U ?_
 intro j hj hI
 refine T ?_
 refine⟨fun h=>?_,fun h=>?_⟩
 ·have hlt:j<s.data.toList.length:=qA h
  have hb:Bt s j=s.data.toList[j]:=Tx hlt
  have hno:=fun h=>Br (p:=L5) hlt h
  have hnx:=fun h=>A6 (p:=L5) hI hlt h
  rw[← hb]at hno hnx
  clear h
  have hx:L5 j (Bt s j)=((decide (97≤(Bt s j).toNat) && decide ((Bt s j).toNat≤122)) || ((decide (48≤(Bt s j).toNat) && decide ((Bt s j).toNat≤57)) && decide (j≠0))):=rfl
  rcases (by omega:(Bt s j).toNat<48∨(48≤(Bt s j).toNat∧(Bt s j).toNat≤57)∨(57<(Bt s j).toNat∧(Bt s j).toNat<97)∨(97≤(Bt s j).toNat∧(Bt s j).toNat≤122)∨122<(Bt s j).toNat) with h | h | h | h | h
  ·rw[hno (by rw[hx,decide_eq_false (by omega:¬ 97≤(Bt s j).toNat),decide_eq_false (by omega:¬ 48≤(Bt s j).toNat)];rfl),Bool.false_and]at hw
   subst hw
   refine T ?_
   exact D
  ·by_cases h0:j=0
   ·subst h0
    rw[hno (by rw[hx,decide_eq_false (by omega:¬ 97≤(Bt s 0).toNat)];simp),Bool.false_and]at hw
    subst hw
    refine T ?_
    exact D
   ·refine T ?_
    exact Ay [] hI q_ (hnx (by rw[hx];simp[h,h0])) U
  ·rw[hno (by rw[hx,decide_eq_false (by omega:¬ 97≤(Bt s j).toNat),decide_eq_false (by omega:¬ (Bt s j).toNat≤57)];simp),Bool.false_and]at hw
   subst hw
   refine T ?_
   exact D
  ·refine T ?_
   exact Ay [] hI q_ (hnx (by rw[hx];simp[h])) U
  ·rw[hno (by rw[hx,decide_eq_false (by omega:¬ (Bt s j).toNat≤122),decide_eq_false (by omega:¬ (Bt s j).toNat≤57)];simp),Bool.false_and]at hw
   subst hw
   refine T ?_
   exact D
 ·have hje:j=s.size:=qB h
  subst hje
  rw[C2 hI (Nat.le_refl _),Bool.true_and]at hw
  clear h
  subst hw
  by_cases h0:0<s.size
  ·refine T ?_
   refine⟨fun _=>?_,fun h=>absurd (of_decide_eq_false h) q_⟩
   refine T ?_
   refine At E (.cons .tmp .nil) (congrArg Ab ?_) E
   rw[decide_eq_true h0,Bool.true_and]
   exact decide_eq_decide.2 q_
  ·rw[decide_eq_false h0,Bool.false_and]
   refine T ?_
   exact D
theorem Zw (m:Nat) (h:m<18446744073709551616):(((bits .and .u64 (m:Int) 281474976710655).fdiv (2 ^ min (Int.toNat 32) IntKind.u64.bits)) != 512)=!(Jp m):=by
 have e:=bits_and_u64_nat m 281474976710655 h j_
 have e2:m &&& 281474976710655=m % 281474976710656:=Nat.and_two_pow_sub_one_eq_mod m 48
 have e3:bits .and .u64 (m:Int) 281474976710655=((m % 281474976710656:Nat):Int):=by rw[← e2];exact e
 have e4:((m % 281474976710656:Nat):Int).fdiv (2 ^ min (Int.toNat 32) IntKind.u64.bits)=((m % 281474976710656 / 4294967296:Nat):Int):=by
  show ((m % 281474976710656:Nat):Int).fdiv 4294967296=_
  rw[Int.fdiv_eq_ediv_of_nonneg _ j_,Int.natCast_ediv];rfl
 rw[e3,e4,Jp]
 by_cases hh:m % 281474976710656 / 4294967296=512
 ·rw[hh,decide_eq_true q_];rfl
 ·rw[decide_eq_false q_]
  simp;omega
def Ahd (m:Int):Int:=if Jp m=true then IntKind.u32.wrap (bits .and .u64 m 281474976710655) else 0
theorem Ai4 (m:Nat) (h:m<18446744073709551616):Sy.Spec Tryz.prog 365 [Ig m] [] (.tup [A5 (Ahd m),Ab (Jp m)]) []:=cT F365 Tryz.ntmps365 fun F hF=>by
 have hb:=Zw m h
 rw[Ahd]
 cases hh:Jp m with
 | true =>
  have hb:=hb.trans (by rw[hh];rfl:_=false)
  rw[if_pos rfl]
  refine T ?_
  exact D
 | false =>
  have hb:=hb.trans (by rw[hh];rfl:_=true)
  rw[if_neg y_]
  refine T ?_
  exact D
theorem Aew (m:Nat) (h:m<18446744073709551616):Sy.Spec Tryz.prog 366 [Ig m] [] (Ab (Xu m)) []:=cT F366 Tryz.ntmps366 fun F hF=>by
 have hb:=Ae3 m h
 refine T ?_
 exact At E (.cons .tmp .nil) (congrArg Ab hb.symm) E
theorem Yu (m:Nat) (h:m<18446744073709551616):Sy.Spec Tryz.prog 301 [Ig m] [] (Ab (statB m)) []:=cT F301 Tryz.ntmps301 fun F hF=>by
 have q1:=Ai4 m h
 have q2:=Aew m h
 have hw:=statB.eq_1 (m:Int)
 rw[Int.toNat_natCast]at hw
 generalize statB (m:Int)=r at *
 generalize Ahd (m:Int)=hv at *
 by_cases c1:(m:Int)≤281474976710655
 ·rw[decide_eq_true c1,Bool.true_and]at hw
  have f1:decide ((m:Int)≤281474976710655)=true:=decide_eq_true c1
  cases hh:Jp m with
  | true =>
   rw[hh]at q1 hw
   simp at hw
   subst hw
   refine T ?_
   refine C q1 F365 ?_
   exact D
  | false =>
   rw[hh]at q1 hw
   simp at hw
   subst hw
   refine T ?_
   refine C q1 F365 ?_
   refine C q2 F366 ?_
   exact D
 ·rw[decide_eq_false c1]at hw
  have f1:decide ((m:Int)≤281474976710655)=false:=decide_eq_false c1
  simp at hw
  subst hw
  refine T ?_
  refine C q1 F365 ?_
  exact D
end Go.Sy.YtjenpnjajjplkaaGreatDoor
namespace Go.Sy.YtjenpnjajjplkaaGreatDoor
open Go.Proofs
theorem Tv (d:Nat) (h:d<10):(UInt8.ofNat (48+d)).toNat=48+d:=UInt8.toNat_ofNat_of_lt' (by show _<256;omega)
theorem Ahs (d:Nat) (h:d<10):Hu (UInt8.ofNat (48+d))=true:=by
 rw[Hu,Tv d h,decide_eq_true q_,decide_eq_true q_];rfl
theorem Tu (n:Nat):(∀ c∈(revDigs n).reverse,Hu c=true)∧X8 (revDigs n).reverse=n:=by
 induction n using Nat.strongRecOn with
 | ind n ih =>
  rw[Sm]
  have h10:n % 10<10:=Nat.mod_lt _ j_
  by_cases h:n<10
  ·rw[if_pos h,List.nil_append]
   refine⟨fun c hc=>?_,?_⟩
   ·simp only[List.mem_singleton]at hc
    rw[hc];exact Ahs _ h10
   ·have:=Sb [] (UInt8.ofNat (48+n % 10))
    rw[List.nil_append]at this
    rw[this,Tv _ h10]
    have h0:X8 []=0:=rfl
    rw[h0];omega
  ·rw[if_neg h]
   obtain ⟨h1,h2⟩:=ih (n / 10) q_
   refine⟨fun c hc=>?_,?_⟩
   ·rcases List.mem_append.1 hc with hc | hc
    ·exact h1 c hc
    ·simp only[List.mem_singleton]at hc
     rw[hc];exact Ahs _ h10
   ·rw[Sb,h2,Tv _ h10];omega
theorem Afc (n:Nat) (c:UInt8) (h:(revDigs n).reverse.head? = some c):Hu c=true:=by
 refine(Tu n).1 c ?_
 cases hd:(revDigs n).reverse with
 | nil=>rw[hd]at h;cases h
 | cons x l=>rw[hd]at h;simp at h;rw[h];simp
theorem Ads {c:UInt8} (h:Hu c=true) (d:UInt8) (hd:d.toNat<48∨57<d.toNat):c≠d:=by
 intro e;subst e
 simp only[Hu,Bool.and_eq_true,decide_eq_true_eq]at h
 omega
theorem Un (n:Nat):Aiw (mkT (revDigs n).reverse)=false:=by
 rw[Aiw,Cf]
 cases hh:(revDigs n).reverse.head? with
 | none=>rfl
 | some c =>
  have:=Ads (Afc n c hh) 45 (.inl j_)
  simp[this]
theorem Aeq (n:Nat):S7 (Dx (n:Int))=(revDigs n).reverse:=by
 rw[Ug,S7,if_neg (by rw[Un];simp),Cf]
theorem Aer {n lo hi:Int} (h0:0≤n) (h1:n<1000000000) (hlo:lo≤n) (hhi:n≤hi):Ui (Dx n) lo hi=(n,true):=by
 obtain ⟨m,rfl⟩:∃ m:Nat,n=m:=⟨n.toNat,by omega⟩
 have hd:=Aeq m
 have hs:=Dt 9 m q_
 have hp:=E0 m
 obtain ⟨ha,hv⟩:=Tu m
 have hall:(S7 (Dx (m:Int))).all Hu=true:=by rw[hd,List.all_eq_true];exact ha
 have hnv:Aep (Dx (m:Int))=m:=by rw[Aep,if_neg (by rw[Ug,Un];simp),hd,hv]
 rw[Ui,if_neg (by rw[hd,List.length_reverse];omega),if_neg (by rw[hall];simp),hnv,if_neg q_,if_pos y_]
theorem Wa (D:List UInt8):∀ j,j≤D.length→Jb (mkT D) j=X8 (D.take j)
 | 0,_=>by simp[Jb,X8]
 | j+1,h=>by
  have hlt:j<D.length:=h
  rw[Jb,Wa D j q_,List.take_succ_eq_append_getElem hlt,Sb]
  have e:Bt (mkT D) j=D[j]:=by
   rw[Tx (by rw[Cf];exact hlt)]
   simp[mkT]
  rw[e]
theorem Abk (n:Nat) (most:Int) (h:n<1000):smallT (mkT (revDigs n).reverse) most=((n:Int),decide ((n:Int)≤most)):=by
 obtain ⟨ha,hv⟩:=Tu n
 have hp:=E0 n
 have h3:=E1 2 n
 have hsz:(mkT (revDigs n).reverse).size=(revDigs n).length:=by rw[Df,List.length_reverse]
 have e3:n / 10 ^ (2+1)=0:=by show n / 1000=0;omega
 rw[e3]at h3
 have hval:Jb (mkT (revDigs n).reverse) (revDigs n).length=n:=by
  rw[Wa _ _ (by rw[List.length_reverse];exact Nat.le_refl _),List.take_of_length_le (by rw[List.length_reverse];exact Nat.le_refl _),hv]
 have hdg:W5 (mkT (revDigs n).reverse)=true:=Sa fun i hi=>by
  have hi2:i<(revDigs n).reverse.length:=by rw[hsz]at hi;rw[List.length_reverse];exact hi
  rw[Tx (by rw[Cf];exact hi2)]
  refine ha _ ?_
  have:(mkT (revDigs n).reverse).data.toList[i]'(by rw[Cf];exact hi2)=(revDigs n).reverse[i]:=by simp[mkT]
  rw[this]
  exact List.getElem_mem _
 have hlead:¬ (1<(mkT (revDigs n).reverse).size∧(Bt (mkT (revDigs n).reverse) 0).toNat=48):=by
  rintro ⟨h1,h2⟩
  rw[hsz]at h1
  have hl0:0<(revDigs n).reverse.length:=by rw[List.length_reverse];omega
  rw[Tx (by rw[Cf];exact hl0)]at h2
  have e:(mkT (revDigs n).reverse).data.toList[0]'(by rw[Cf];exact hl0)=(revDigs n).reverse[0]:=by simp[mkT]
  rw[e,List.getElem_reverse,Kf]at h2
  obtain ⟨k,hk⟩:∃ k,(revDigs n).length=k+2:=⟨(revDigs n).length-2,by omega⟩
  have a1:=E1 k n
  have a2:=E1 (k+1) n
  rw[hk]at a1 a2
  have e2:(revDigs n).length-1-0=k+1:=by omega
  rw[e2]at h2
  have b1:0<n / 10 ^ (k+1):=a1.1 q_
  have b2:¬ 0<n / 10 ^ (k+1+1):=fun hh=>by have:=a2.2 hh;omega
  rw[Nat.pow_succ 10 (k+1),← Nat.div_div_eq_div_mul]at b2
  rw[Tv _ (Nat.mod_lt _ j_)]at h2
  omega
 rw[smallT,if_neg,hsz,hval]
 rintro (hh | hh | hh | hh)
 ·rw[hsz]at hh;omega
 ·rw[hsz]at hh;omega
 ·exact hlead hh
 ·rw[hdg]at hh;cases hh
theorem D3 (d:UInt8):∀ (p cur r:List UInt8),d∉p→Cn d cur (p++d::r)=mkT (cur++p)::Cn d [] r
 | [],cur,r,_=>by rw[List.nil_append,Cn,if_pos rfl,List.append_nil]
 | c::p,cur,r,h=>by
  simp only[List.mem_cons,not_or]at h
  rw[List.cons_append,Cn,if_neg (Ne.symm h.1),D3 d p _ r h.2]
  simp
theorem X7 (n:Nat) (d:UInt8) (hd:d.toNat<48∨57<d.toNat):d∉(revDigs n).reverse:=fun hm=>Ads ((Tu n).1 d hm) d hd rfl
theorem Aiq (a b:Nat) (ha:a<4294967296) (hb:b<4294967296):bits .or .u32 (a:Int) (b:Int)=((a ||| b:Nat):Int):=by
 have x1:(BitVec.ofInt 32 (a:Int)).toNat=a:=by rw[BitVec.ofInt_natCast,BitVec.toNat_ofNat];exact Nat.mod_eq_of_lt ha
 have x2:(BitVec.ofInt 32 (b:Int)).toNat=b:=by rw[BitVec.ofInt_natCast,BitVec.toNat_ofNat];exact Nat.mod_eq_of_lt hb
 have key:(BitVec.ofInt 32 (a:Int) ||| BitVec.ofInt 32 (b:Int)).toNat=a ||| b:=by rw[BitVec.toNat_or,x1,x2]
 show IntKind.u32.wrap (((BitVec.ofInt 32 (a:Int) ||| BitVec.ofInt 32 (b:Int)).toNat:Nat):Int)=_
 rw[key,IntKind.wrap_u32]
 have:a ||| b<2 ^ 32:=Nat.or_lt_two_pow q_ q_
 omega
theorem Lj (a o:Nat) (ha:a<16777216) (ho:o<256):bits .or .u32 (IntKind.u32.wrap ((a:Int) * 2 ^ 8)) (IntKind.u32.wrap (o:Int))=((a * 256+o:Nat):Int):=by
 have e1:IntKind.u32.wrap ((a:Int) * 2 ^ 8)=((a * 256:Nat):Int):=by
  rw[IntKind.wrap_u32];omega
 have e2:IntKind.u32.wrap (o:Int)=(o:Int):=by rw[IntKind.wrap_u32];omega
 rw[e1,e2,Aiq _ _ q_ q_]
 have h:=Nat.two_pow_add_eq_or_of_lt (i:=8) (b:=o) q_ a
 rw[Nat.mul_comm a 256]
 exact congrArg _ h.symm
def Ue (a i:Nat):ByteArray:=mkT (revDigs (octN a i)).reverse
theorem Acx (a:Nat):An 46 (D0 (a:Int))=[Ue a 0,Ue a 1,Ue a 2,Ue a 3]:=by
 have h:=fun i=>X7 (octN a i) 46 (.inl j_)
 have e:Ja a 4=(revDigs (octN a 0)).reverse++46::((revDigs (octN a 1)).reverse++46::((revDigs (octN a 2)).reverse++46::(revDigs (octN a 3)).reverse)):=by
  simp[Ja]
 rw[D0,Int.toNat_natCast,Wf,Cf,e,D3 46 _ _ _ (h 0),D3 46 _ _ _ (h 1),D3 46 _ _ _ (h 2),Hk 46 _ _ (h 3)]
 rfl
theorem Ad8 (a i:Nat):smallT (Ue a i) 255=((octN a i:Int),true):=by
 have h:octN a i<256:=Nat.mod_lt _ j_
 rw[Ue,Abk _ _ q_,decide_eq_true q_]
theorem Aej (a:Nat) (ha:a<4294967296):Bv (D0 (a:Int))=((a:Int),true):=by
 have h:=fun i=>Ad8 a i
 have hb:∀ i,Zi (Ue a i)=true:=fun i=>by rw[Zi,h]
 have e0:octN a 0<256:=Nat.mod_lt _ j_
 have e1:octN a 1<256:=Nat.mod_lt _ j_
 have e2:octN a 2<256:=Nat.mod_lt _ j_
 have e3:octN a 3<256:=Nat.mod_lt _ j_
 have hv:Mi [Ue a 0,Ue a 1,Ue a 2,Ue a 3]=(a:Int):=by
  simp only[Mi,List.foldl_cons,List.foldl_nil,h]
  have s0:=Lj 0 (octN a 0) q_ e0
  rw[show ((0:Nat):Int)=0 from rfl]at s0
  rw[s0,Lj _ _ q_ e1,Lj _ _ q_ e2,Lj _ _ q_ e3]
  have d0:octN a 0=a / 16777216 % 256:=rfl
  have d1:octN a 1=a / 65536 % 256:=rfl
  have d2:octN a 2=a / 256 % 256:=rfl
  have d3:octN a 3=a / 1 % 256:=rfl
  omega
 rw[Bv,Acx,if_pos ⟨rfl,by simp[hb]⟩,hv]
theorem Ajl (a:Nat) (d:UInt8) (h46:d≠46) (hd:d.toNat<48∨57<d.toNat):d∉(D0 (a:Int)).data.toList:=by
 have h:=fun i=>X7 (octN a i) d hd
 rw[D0,Int.toNat_natCast,Cf]
 simp only[Ja]
 intro hm
 simp[h46]at hm
 have g:=fun i hi=>h i (List.mem_reverse.2 hi)
 rcases hm with hm | hm | hm | hm
 ·exact g 0 hm
 ·exact g 1 hm
 ·exact g 2 hm
 ·exact g 3 hm
theorem T5 (d:UInt8):∀ (r:List (List UInt8)) (x:List UInt8),d∉x→(∀ y∈r,d∉y)→Cn d [] (Lib.join (x::r) [d])=(x::r).map mkT
 | [],x,h,_=>by rw[Lib.join_one,Hk d _ _ h];rfl
 | y::r,x,h,h2=>by
  have ih:=T5 d r y (h2 y y_) (fun z hz=>h2 z (by simp[hz]))
  have e:Lib.join (x::y::r) [d]=x++d::Lib.join (y::r) [d]:=by
   rw[Lib.join_cons,Lib.join_cons,Lib.joinTail,Lib.joinTail]
   simp
  rw[e,D3 d x [] _ h,ih]
  rfl
theorem Agh (n:Int) (h0:0≤n) (d:UInt8) (hd:d.toNat<48∨57<d.toNat):d∉(Dx n).data.toList:=by
 obtain ⟨m,rfl⟩:∃ m:Nat,n=m:=⟨n.toNat,by omega⟩
 rw[Ug,Cf]
 exact X7 m d hd
theorem Aaw (s:ByteArray):0≤(Bv s).1:=by
 rw[Bv]
 split
 ·dsimp only
  generalize An 46 s=l
  cases hl:l.reverse with
  | nil =>
   have:l=[]:=by simpa using hl
   subst this;exact Int.le_refl _
  | cons x r =>
   have:l=r.reverse++[x]:=by
    have:=congrArg List.reverse hl
    simpa using this
   rw[this,My]
   show 0≤IntKind.u32.wrap _
   rw[IntKind.wrap_u32];omega
 ·exact Int.le_refl _
theorem Acw (s:ByteArray):(Bv s).1<4294967296:=by
 rw[Bv]
 split
 ·dsimp only
  generalize An 46 s=l
  cases hl:l.reverse with
  | nil =>
   have:l=[]:=by simpa using hl
   subst this;decide
  | cons x r =>
   have:l=r.reverse++[x]:=by
    have:=congrArg List.reverse hl
    simpa using this
   rw[this,My]
   show IntKind.u32.wrap _<_
   rw[IntKind.wrap_u32];omega
 ·decide
end Go.Sy.YtjenpnjajjplkaaGreatDoor
namespace Go.Sy.YtjenpnjajjplkaaGreatDoor
open Go.Proofs
set_option maxHeartbeats 4000000
theorem k1:L9 ⟨#[100,101,118,105,99,101]⟩=1:=by decide +kernel
theorem k2:L9 ⟨#[112,111,114,116]⟩=2:=by decide +kernel
theorem k3:L9 ⟨#[108,105,110,107]⟩=3:=by decide +kernel
theorem k4:L9 ⟨#[115,116,97,116,105,99]⟩=4:=by decide +kernel
theorem k5:L9 ⟨#[118,116,101,112]⟩=5:=by decide +kernel
theorem k6:L9 ⟨#[118,110,105]⟩=6:=by decide +kernel
theorem k7:L9 ⟨#[102,108,111,111,100]⟩=7:=by decide +kernel
theorem k8:L9 ⟨#[118,114,102]⟩=8:=by decide +kernel
theorem k9:L9 ⟨#[105,114,98]⟩=9:=by decide +kernel
theorem wd0 (a:ByteArray) (l:List ByteArray):wdT (a::l) 0=a:=rfl
theorem st1 (d n m:ByteArray) (r:Int):Wd [⟨#[100,101,118,105,99,101]⟩,d,n,m] r=({ lineZ with row:=r,kind:=1,dev:=d,num:=(Ui n 0 65535).1,mac:=(Tj m).1 },[(!(Be d),20),(!(Ui n 0 65535).2,21),(!((Tj m).2 && statB (Tj m).1),21)]):=by
 unfold Wd
 simp only[wd0,k1]
 rfl
theorem st3 (d p q f:ByteArray) (r:Int):Wd [⟨#[108,105,110,107]⟩,d,p,q,f] r=({ lineZ with row:=r,kind:=3,dev:=d,port:=p,peer:=q,far:=f },[(!(Be d),20),(!(Be p),20),(!(Be q),20),(!(Be f),20)]):=by
 unfold Wd
 simp only[wd0,k3]
 rfl
theorem st4 (d v m p:ByteArray) (r:Int):Wd [⟨#[115,116,97,116,105,99]⟩,d,v,m,p] r=({ lineZ with row:=r,kind:=4,dev:=d,vlan:=(I0 v).1,mac:=(Tj m).1,port:=p },[(!(Be d),20),(!(I0 v).2,21),(!((Tj m).2 && statB (Tj m).1),21),(!(Be p),20)]):=by
 unfold Wd
 simp only[wd0,k4]
 rfl
theorem within_iff {n lo hi:Int}:Bb n lo hi=true↔lo≤n∧n≤hi:=by simp[Bb]
theorem V9 {v:Int} (h:Bb v 1 4094=true):I0 (Dx v)=(v,true):=by
 have:=within_iff.1 h
 exact Aer q_ q_ this.1 this.2
theorem Yq {a b:Int} (h:subnetB a b=true):1≤b∧b≤30:=by
 simp only[subnetB,Bool.and_eq_true,decide_eq_true_eq]at h
 omega
structure LineOK (l:LineM):Prop where
 mac:0≤l.mac∧l.mac<18446744073709551616
 addr:0≤l.addr∧l.addr<4294967296
 addrs:∀ x∈l.addrs,0≤x∧x<4294967296
end Go.Sy.YtjenpnjajjplkaaGreatDoor
namespace Go.Sy.YtjenpnjajjplkaaGreatDoor
open Go.Proofs
attribute [local irreducible] Go.Sy.G Go.Sy.DR
set_option maxRecDepth 100000
set_option maxHeartbeats 4000000
theorem Yt (a:Nat) (b:Int) (ha:a<4294967296):Sy.Spec Tryz.prog 243 [I4 a b] [] (Ab (subnetB a b)) []:=cT F243 Tryz.ntmps243 fun F hF=>by
 have q1:=Vi a b ha
 have q2:=Sd a b ha
 have hs:=subnetB.eq_1 (a:Int) b
 generalize subnetB (a:Int) b=r at *
 generalize B2 (a:Int) b=fi at *
 generalize Cy (a:Int) b=la at *
 by_cases h1:1≤b
 ·by_cases h2:b≤30
  ·by_cases h3:(a:Int)=fi
   ·have f3:((a:Int) != fi)=false:=by rw[bne_eq_false_iff_eq];exact h3
    have hr:r=false:=by rw[hs];simp[h3]
    subst hr
    refine T ?_
    refine C q1 F307 ?_
    exact D
   ·have f3:((a:Int) != fi)=true:=by rw[bne_iff_ne];exact h3
    by_cases h4:(a:Int)=la
    ·have f4:((a:Int) != la)=false:=by rw[bne_eq_false_iff_eq];exact h4
     have hr:r=false:=by rw[hs];simp[h4]
     subst hr
     refine T ?_
     refine C q1 F307 ?_
     refine C q2 F308 ?_
     refine At E (.cons .tmp .nil) (congrArg Ab f4.symm) E
    ·have f4:((a:Int) != la)=true:=by rw[bne_iff_ne];exact h4
     have hr:r=true:=by rw[hs];simp[h1,h2,h3,h4]
     subst hr
     refine T ?_
     refine C q1 F307 ?_
     refine C q2 F308 ?_
     refine At E (.cons .tmp .nil) (congrArg Ab f4.symm) E
  ·have hr:r=false:=by rw[hs];simp[h2]
   subst hr
   refine T ?_
   exact D
 ·have hr:r=false:=by rw[hs];simp[h1]
  subst hr
  refine T ?_
  exact D
theorem Zy (l:List Int) (v:Int):l.contains v=inB l v:=by
 induction l with
 | nil=>rfl
 | cons x l ih =>
  rw[List.contains_cons,ih,inB,inB,List.any_cons]
  congr 1
  exact Bool.beq_comm
theorem Xg (l:LineM) (hl:Ag l.tagged):Sy.Spec Tryz.prog 302 [Au l] [] (Ab (membersB l.vlan l.tagged)) []:=cT F302 Tryz.ntmps302 fun F hF=>by
 have q:=Dk l.tagged l.vlan hl
 have hm2:=membersB.eq_1 l.vlan l.tagged
 rw[Zy]at hm2
 generalize membersB l.vlan l.tagged=r at *
 generalize inB l.tagged l.vlan=ib at *
 unfold Ag at hl
 by_cases h1:0<l.vlan
 ·have hr:r=!ib:=by rw[hm2];simp[h1]
  subst hr
  refine T ?_
  refine C q F100 ?_
  exact D
 ·by_cases h2:l.tagged.length=0
  ·have hr:r=false:=by
    rw[hm2,decide_eq_false h1,List.eq_nil_of_length_eq_zero h2];rfl
   subst hr
   refine T ?_
   exact D
  ·have hr:r=!ib:=by
    rw[hm2]
    have:l.tagged.isEmpty=false:=by cases ht:l.tagged<;>simp_all
    simp[this]
   have f2:decide ((l.tagged.length:Int)>0)=true:=decide_eq_true q_
   subst hr
   refine T ?_
   refine C q F100 ?_
   exact D
end Go.Sy.YtjenpnjajjplkaaGreatDoor
namespace Go.Sy
theorem J2 {P:Program} (Γ:Ty P) {o:Oper} {s:SS} {t:TypeId} {ti:TI} {et:TypeId} {len esz sz g:Nat} {y:Operand} {ik:IntKind} {n:Int} {z:SV} (k:Nat)
  (h:o.op=.indexAddr t (.global g) y) (ht:Γ.get t=some ti) (hk:ti.k=.array et len esz) (hb:s.h k=.glob sz z g) (hy:ev s y=.val (.int ik n)) (h0:0≤n) (hn:n.toNat<len) :
  Good P o s ⟨.ref sz z (n.toNat * esz),[k],[]⟩ :=
 Good.pure fun κ a w _ hr ho=>by
  have h1:=ho k y_
  have h2:=hr y (by simp[h,Op.operands])
  rw[hb]at h1
  rw[hy]at h2
  simp only[ObOK,Rd,RdD]at h1
  obtain ⟨b,oo,u,e1,e2,e3,e4,e5⟩:=h1
  obtain ⟨hu,i,q1,q2⟩:=K8 Γ ht hk
  simp only[Nat.add_zero,Value.pointer.injEq,Option.some.injEq,Addr.mk.injEq,and_true]at e1
  obtain ⟨rfl,rfl⟩:=e1
  refine⟨.pointer (some ⟨g,0+n.toNat * esz,none⟩),?_,?_⟩
  ·have hg:a.eval (.global g)=.pointer (some ⟨g,0,none⟩):=rfl
   simp only[execOp,h,hg,h2.val]
   simp[Jd w hu q1 q2 h0 hn]
  ·simp only[Rd,RdD]
   exact⟨g,0,u,E,e2,e3,e4,e5⟩
theorem Ob.shp_glob {x:Ob} {sz g:Nat} {z:SV} (h:x.shp=(Ob.glob sz z g).shp):x=.glob sz z g:=by
 cases x<;>simp_all[Ob.shp]
theorem GoodX.glob {P:Program} (Γ:Ty P) {o:Oper} {s:SS} {t:TypeId} {ti:TI} {et:TypeId} {len esz sz g:Nat} {y:Operand} {ik:IntKind} {n:Int} {z:SV} (k:Nat)
  (h:o.op=.indexAddr t (.global g) y) (ht:Γ.get t=some ti) (hk:ti.k=.array et len esz) (hb:s.h k=.glob sz z g) (hy:ev s y=.val (.int ik n)) (h0:0≤n) (hn:n.toNat<len) :
  GoodX P o s ⟨.ref sz z (n.toNat * esz),[k],[]⟩ where
 good:=(J2 Γ k h ht hk hb hy h0 hn).two
 idx _:=⟨rfl,fun s' h1 h2=>J2 Γ k h ht hk (Ob.shp_glob ((h2 k y_).trans (congrArg Ob.shp hb))) ((h1 y (by simp[h,Op.operands])).trans hy) h0 hn⟩
 st hs:=by simp[J5,h]at hs
section
open Go.ChangeShapes Go.WideShapes Go.ChangeAt Go.RowKit
variable {H:Type} {enc:TypeId × Value→H} {P:Program}
end
end Go.Sy
namespace Go.Sy
theorem Cm {P:Program} (Γ:Ty P) {o:Oper} {s:SS} {t:TypeId} {ti:TI} {et:TypeId} {len:Nat} {x y:Operand} {ik:IntKind} {n:Int} {l:List SV} {z:SV} {k:EK} (h:o.op=.index t x y) (ht:Γ.get t=some ti) (hk:ti.k=.array et len 1)
  (he:P.underlying et=some (EK.desc k)) (hx:ev s x=.agg l) (hy:ev s y=.val (.int ik n)) (h0:0≤n) (hn:n.toNat<len) (hz:Ee l n.toNat=some z):Good P o s ⟨z,[],[]⟩ :=
 Good.pure fun κ a w _ hr _=>by
  have h1:=hr x (by simp[h,Op.operands])
  have h2:=hr y (by simp[h,Op.operands])
  rw[hx]at h1
  rw[hy]at h2
  simp only[Rd]at h1
  obtain ⟨cs,e1,_,e2⟩:=h1
  obtain ⟨v,e3,e4⟩:=e2.getT hz
  obtain ⟨hu,i,q1,q2⟩:=K8 Γ ht hk
  have hp:=T8 (P:=P) w he cs.toArray e3
  have hlt:n<len:=by omega
  refine⟨v,?_,e4⟩
  simp[execOp,h,e1,h2.val,Instr.index,run_underlying hu,asIntOf,h0,hlt,sizeOf,typeInfo,q1,q2,hp]
theorem Am {C:Cx} {k:List KI} {s:SS} (d:Nat) (l':List SV) {l:List SV} (h:s.h d=.box l) (hv:VwL s [] l l') (hg:G C k ⟨s.σ,upd s.h d (.box l')⟩):G C k s:=fun κ a w hs =>
 hg κ a w ⟨hs.defers,hs.size,hs.inv,hs.ctx,hs.slot,fun i=>by
  show ObOK κ w i (upd s.h d (.box l') i)
  by_cases hi:i=d
  ·subst hi
   rw[Bm]
   have:=hs.obj i
   rw[h]at this
   obtain ⟨b,cs,T,fr,e1,e2,e3,e4,e5⟩:=this
   exact⟨b,cs,T,fr,e1,e2,e3,e4,VwL.rd hs.inv (fun _ hn=>by cases hn) hv e5⟩
  ·rw[Ca _ _ hi];exact hs.obj i⟩
end Go.Sy
namespace Go.Sy.YtjenpnjajjplkaaGreatDoor
open Go.Proofs
attribute [local irreducible] Go.Sy.G Go.Sy.DR
set_option maxRecDepth 100000
set_option maxHeartbeats 4000000
theorem He (l m:List Int) (hl:l.length≤1000000) (hm1:m.length≤1000000):Sy.Spec Tryz.prog 52 [.sl 1 Aa l,.sl 1 Aa m] [] (Ab (l == m)) []:=cT F52 Tryz.ntmps52 fun F hF=>by
 by_cases hlen:l.length=m.length
 rotate_left
 ·have hr:(l == m)=false:=by
   rw[beq_eq_false_iff_ne];intro e;exact hlen (by rw[e])
  have f0:((l.length:Int) != (m.length:Int))=true:=by rw[bne_iff_ne];omega
  rw[hr]
  refine T ?_
  exact D
 have f0:((l.length:Int) != (m.length:Int))=false:=by rw[bne_eq_false_iff_eq];omega
 refine T ?_
 refine Az l.length (fun j=>l.take j=m.take j) (fun j=>[(0,.sl 1 Aa l),(1,.sl 1 Aa m),(12,Aa l.length),(13,Aa j)]) (fun _=>[]) [] E U ?_
 intro j hj hI
 refine T ?_
 refine⟨fun h=>?_,fun h=>?_⟩
 ·have hlt:j<l.length:=qA h
  have hlm:j<m.length:=by omega
  have hlt0:((j:Nat):Int).toNat<l.length:=hlt
  have hlm0:((j:Nat):Int).toNat<m.length:=hlm
  clear h
  by_cases he:l[j]=m[j]
  ·have f1:(l[((j:Nat):Int).toNat]'hlt0 != m[((j:Nat):Int).toNat]'hlm0)=false:=by rw[bne_eq_false_iff_eq];exact he
   refine T ?_
   refine Ay [] hI q_ ?_ U
   rw[List.take_succ_eq_append_getElem hlt,List.take_succ_eq_append_getElem hlm,hI,he]
  ·have f1:(l[((j:Nat):Int).toNat]'hlt0 != m[((j:Nat):Int).toNat]'hlm0)=true:=by rw[bne_iff_ne];exact he
   have hr:(l == m)=false:=by
    rw[beq_eq_false_iff_ne];intro e;subst e;exact he rfl
   rw[hr]
   refine T ?_
   exact D
 ·have hje:j=l.length:=qB h
  subst hje
  have hr:(l == m)=true:=by
   rw[beq_iff_eq]
   rw[List.take_length,hlen,List.take_length]at hI
   exact hI
  rw[hr]
  clear h
  refine T ?_
  exact D
theorem Ti (l m:List Int) (hl:l.length≤1000000) (hm1:m.length≤1000000):Sy.Spec Tryz.prog 57 [.sl 1 A5 l,.sl 1 A5 m] [] (Ab (l == m)) []:=cT F57 Tryz.ntmps57 fun F hF=>by
 by_cases hlen:l.length=m.length
 rotate_left
 ·have hr:(l == m)=false:=by
   rw[beq_eq_false_iff_ne];intro e;exact hlen (by rw[e])
  have f0:((l.length:Int) != (m.length:Int))=true:=by rw[bne_iff_ne];omega
  rw[hr]
  refine T ?_
  exact D
 have f0:((l.length:Int) != (m.length:Int))=false:=by rw[bne_eq_false_iff_eq];omega
 refine T ?_
 refine Az l.length (fun j=>l.take j=m.take j) (fun j=>[(0,.sl 1 A5 l),(1,.sl 1 A5 m),(12,Aa l.length),(13,Aa j)]) (fun _=>[]) [] E U ?_
 intro j hj hI
 refine T ?_
 refine⟨fun h=>?_,fun h=>?_⟩
 ·have hlt:j<l.length:=qA h
  have hlm:j<m.length:=by omega
  have hlt0:((j:Nat):Int).toNat<l.length:=hlt
  have hlm0:((j:Nat):Int).toNat<m.length:=hlm
  clear h
  by_cases he:l[j]=m[j]
  ·have f1:(l[((j:Nat):Int).toNat]'hlt0 != m[((j:Nat):Int).toNat]'hlm0)=false:=by rw[bne_eq_false_iff_eq];exact he
   refine T ?_
   refine Ay [] hI q_ ?_ U
   rw[List.take_succ_eq_append_getElem hlt,List.take_succ_eq_append_getElem hlm,hI,he]
  ·have f1:(l[((j:Nat):Int).toNat]'hlt0 != m[((j:Nat):Int).toNat]'hlm0)=true:=by rw[bne_iff_ne];exact he
   have hr:(l == m)=false:=by
    rw[beq_eq_false_iff_ne];intro e;subst e;exact he rfl
   rw[hr]
   refine T ?_
   exact D
 ·have hje:j=l.length:=qB h
  subst hje
  have hr:(l == m)=true:=by
   rw[beq_iff_eq]
   rw[List.take_length,hlen,List.take_length]at hI
   exact hI
  rw[hr]
  clear h
  refine T ?_
  exact D
theorem Ad5 (a b:LineM) (ha:LineFin a) (hb:LineFin b):Sy.Spec Tryz.prog 411 [Au a,Au b] [] (Ab (I2 a b)) []:=cT F411 Tryz.ntmps411 fun F hF=>by
 have ht:=ha.t;have hi:=ha.i;have he:=ha.e;have haa:=ha.a
 have ht2:=hb.t;have hi2:=hb.i;have he2:=hb.e;have haa2:=hb.a
 have q0:=He a.tagged b.tagged q_ q_
 have q1:=He a.imports b.imports q_ q_
 have q2:=He a.exports b.exports q_ q_
 have q3:=Ti a.addrs b.addrs q_ q_
 rw[I2]
 cases h_row:(a.row == b.row)
 ·rw[Bool.false_and]
  refine T ?_
  exact D
 rw[Bool.true_and]
 cases h_kind:(a.kind == b.kind)
 ·rw[Bool.false_and]
  refine T ?_
  exact D
 rw[Bool.true_and]
 cases h_dev:(a.dev == b.dev)
 ·rw[Bool.false_and]
  refine T ?_
  exact D
 rw[Bool.true_and]
 cases h_port:(a.port == b.port)
 ·rw[Bool.false_and]
  refine T ?_
  exact D
 rw[Bool.true_and]
 cases h_peer:(a.peer == b.peer)
 ·rw[Bool.false_and]
  refine T ?_
  exact D
 rw[Bool.true_and]
 cases h_far:(a.far == b.far)
 ·rw[Bool.false_and]
  refine T ?_
  exact D
 rw[Bool.true_and]
 cases h_name:(a.name == b.name)
 ·rw[Bool.false_and]
  refine T ?_
  exact D
 rw[Bool.true_and]
 cases h_mac:(a.mac == b.mac)
 ·rw[Bool.false_and]
  refine T ?_
  exact D
 rw[Bool.true_and]
 cases h_addr:(a.addr == b.addr)
 ·rw[Bool.false_and]
  refine T ?_
  exact D
 rw[Bool.true_and]
 cases h_bits:(a.bits == b.bits)
 ·rw[Bool.false_and]
  refine T ?_
  exact D
 rw[Bool.true_and]
 cases h_vlan:(a.vlan == b.vlan)
 ·rw[Bool.false_and]
  refine T ?_
  exact D
 rw[Bool.true_and]
 cases h_num:(a.num == b.num)
 ·rw[Bool.false_and]
  refine T ?_
  exact D
 rw[Bool.true_and]
 cases h_cost:(a.cost == b.cost)
 ·rw[Bool.false_and]
  refine T ?_
  exact D
 rw[Bool.true_and]
 cases h_tagged:(a.tagged == b.tagged)
 ·rw[h_tagged]at q0
  rw[Bool.false_and]
  refine T ?_
  refine C q0 F52 ?_
  exact D
 rw[h_tagged]at q0
 rw[Bool.true_and]
 cases h_imports:(a.imports == b.imports)
 ·rw[h_imports]at q1
  rw[Bool.false_and]
  refine T ?_
  refine C q0 F52 ?_
  refine C q1 F52 ?_
  exact D
 rw[h_imports]at q1
 rw[Bool.true_and]
 cases h_exports:(a.exports == b.exports)
 ·rw[h_exports]at q2
  rw[Bool.false_and]
  refine T ?_
  refine C q0 F52 ?_
  refine C q1 F52 ?_
  refine C q2 F52 ?_
  exact D
 rw[h_exports]at q2
 rw[Bool.true_and]
 cases h_addrs:(a.addrs == b.addrs)
 ·rw[h_addrs]at q3
  skip
  refine T ?_
  refine C q0 F52 ?_
  refine C q1 F52 ?_
  refine C q2 F52 ?_
  refine C q3 F57 ?_
  exact D
 rw[h_addrs]at q3
 refine T ?_
 refine C q0 F52 ?_
 refine C q1 F52 ?_
 refine C q2 F52 ?_
 refine C q3 F57 ?_
 exact D
theorem Cw (n lo hi:Int):Sy.Spec Tryz.prog 439 [Aa n,Aa lo,Aa hi] [] (Ab (Bb n lo hi)) []:=cT F439 Tryz.ntmps439 fun F hF=>by
 rw[Bb]
 by_cases h1:lo≤n
 ·have f1:decide (n≥lo)=true:=decide_eq_true h1
  rw[decide_eq_true h1,Bool.true_and]
  refine T ?_
  exact D
 ·have f1:decide (n≥lo)=false:=decide_eq_false h1
  rw[decide_eq_false h1,Bool.false_and]
  refine T ?_
  exact D
theorem Qp (l:List Int) (most:Int) (hl:l.length≤100000):Sy.Spec Tryz.prog 440 [.sl 1 Aa l,Aa most] [] (Ab (D9 l most)) []:=cT F440 Tryz.ntmps440 fun F hF=>by
 have q:=Uh l 1 most (by simp only[Ag];omega)
 rw[D9,Y3]
 by_cases h0:l.length=0
 ·rw[decide_eq_true h0,Bool.true_or]
  have f0:((l.length:Int) == 0)=true:=by rw[h0];rfl
  refine T ?_
  exact D
 ·rw[decide_eq_false h0,Bool.false_or]
  have f0:((l.length:Int) == 0)=false:=by rw[beq_eq_false_iff_ne];omega
  refine T ?_
  refine C q F180 ?_
  exact D
def La (l:List Int) (i:Nat) (x:Int):Bool:=decide (x≠0) && (i == 0 || decide (l.getD (i-1) 0<x))
theorem Acv (l:List Int):J0 l=(Do (La l) l && (decide (0<l.length) && decide (l.length≤16))):=by
 have e:(List.range l.length).all (fun i=>decide (l.getD i 0≠0) && (i == 0 || decide (l.getD (i-1) 0<l.getD i 0)))=Do (La l) l:=by
  rw[Bool.eq_iff_iff,List.all_eq_true,allB_iff]
  constructor
  ·intro h i hi
   have:=h i (List.mem_range.2 hi)
   rw[show l.getD i 0=l[i] by rw[List.getD_eq_getElem?_getD,List.getElem?_eq_getElem hi];rfl]at this
   exact this
  ·intro h i hi
   have hi:=List.mem_range.1 hi
   rw[show l.getD i 0=l[i] by rw[List.getD_eq_getElem?_getD,List.getElem?_eq_getElem hi];rfl]
   exact h i hi
 rw[J0,e]
theorem Abg (l:List Int) (hl:l.length≤100000):Sy.Spec Tryz.prog 441 [.sl 1 A5 l] [] (Ab (J0 l)) []:=cT F441 Tryz.ntmps441 fun F hF=>by
 have hres:=Acv l
 generalize J0 l=r at *
 refine T ?_
 refine Az l.length (fun j=>Dp (La l) l j) (fun j=>[(0,.sl 1 A5 l),(5,.sl 1 A5 l),(6,Aa l.length),(7,Aa j)]) (fun _=>[]) [] (A7 _ _) U ?_
 intro j hj hI
 refine T ?_
 refine⟨fun h=>?_,fun h=>?_⟩
 ·have hlt:j<l.length:=qA h
  have hlt0:((j:Nat):Int).toNat<l.length:=hlt
  have hno:=fun h=>Br (p:=La l) hlt h
  have hnx:=fun h=>A6 (p:=La l) hI hlt h
  clear h
  by_cases h1:l[j]=0
  ·have f1:(l[((j:Nat):Int).toNat]'hlt0 == 0)=true:=beq_iff_eq.2 h1
   rw[hno (by simp[La,h1]),Bool.false_and]at hres
   subst hres
   refine T ?_
   exact D
  ·have f1:(l[((j:Nat):Int).toNat]'hlt0 == 0)=false:=beq_eq_false_iff_ne.2 h1
   by_cases h2:j=0
   ·subst h2
    refine T ?_
    exact Ay [] hI q_ (hnx (by simp[La,h1])) U
   ·have f2:decide ((j:Int)>0)=true:=decide_eq_true q_
    have hk:((j:Int)-1).toNat<l.length:=by omega
    have hg:l.getD (j-1) 0=l[((j:Int)-1).toNat]'hk:=by
     rw[List.getD_eq_getElem?_getD,List.getElem?_eq_getElem (by omega:j-1<l.length)]
     have:((j:Int)-1).toNat=j-1:=by omega
     simp only[this]
     rfl
    have hx:La l j l[j]=(decide (l[j]≠0) && (j == 0 || decide (l.getD (j-1) 0<l[j]))):=rfl
    rw[hg]at hx
    by_cases h3:l[((j:Int)-1).toNat]'hk<l[j]
    ·have f3:decide (l[((j:Int)-1).toNat]'hk≥l[((j:Nat):Int).toNat]'hlt0)=false:=decide_eq_false (by show ¬ _≥l[j];omega)
     refine T ?_
     exact Ay [] hI q_ (hnx (by rw[hx,decide_eq_true h1,decide_eq_true h3,Bool.or_true];rfl)) U
    ·have f3:decide (l[((j:Int)-1).toNat]'hk≥l[((j:Nat):Int).toNat]'hlt0)=true:=decide_eq_true (by show _≥l[j];omega)
     rw[hno (by rw[hx,decide_eq_false h3,beq_eq_false_iff_ne.2 h2];simp),Bool.false_and]at hres
     subst hres
     refine T ?_
     exact D
 ·have hje:j=l.length:=qB h
  subst hje
  rw[C2 hI (Nat.le_refl _),Bool.true_and]at hres
  subst hres
  clear h
  by_cases h0:0<l.length
  ·rw[decide_eq_true h0,Bool.true_and]
   have f0:decide ((l.length:Int)>0)=true:=decide_eq_true q_
   refine T ?_
   refine At E (.cons .tmp .nil) (congrArg Ab ?_) E
   exact decide_eq_decide.2 q_
  ·rw[decide_eq_false h0,Bool.false_and]
   have f0:decide ((l.length:Int)>0)=false:=decide_eq_false q_
   refine T ?_
   exact D
structure LineW (l:LineM):Prop where
 fin:LineFin l
 ok:LineOK l
 dev:l.dev.size≤100000
 port:l.port.size≤100000
 peer:l.peer.size≤100000
 far:l.far.size≤100000
 name:l.name.size≤100000
theorem Abe (l:LineM) (hw:LineW l) (hk:l.kind=1):Sy.Spec Tryz.prog 410 [Au l] [] (.tup [Au (A9 l).1,Ab (A9 l).2]) []:=cT F410 Tryz.ntmps410 fun F hF=>by
 have hU:A9 l=({ lineZ with row:=l.row,kind:=1,dev:=l.dev,num:=l.num,mac:=l.mac },(Bb l.num 0 65535 && statB l.mac)):=by
  simp only[A9,hk]
  rfl
 rw[hU]
 have q0:=Cw l.num 0 65535
 have q1:Sy.Spec Tryz.prog 301 [Ig l.mac] [] (Ab (statB l.mac)) []:=by
  have:=hw.ok.mac
  obtain ⟨m,hm1⟩:∃ m:Nat,l.mac=m:=⟨l.mac.toNat,by omega⟩
  rw[hm1];exact Yu m q_
 obtain ⟨row,kind,dev,port,peer,far,name,mac,addr,bits,vlan,num,cost,tagged,imports,exports,addrs⟩:=l
 dsimp only at hk q0 q1 ⊢
 subst hk
 clear hU hw
 generalize Bb num 0 65535=b0 at *
 generalize statB mac=b1 at *
 cases b0
 ·rw[Bool.false_and]
  refine T ?_
  refine C q0 F439 ?_
  refine Am 2 (C4 { lineZ with row:=row,kind:=1,dev:=dev,num:=num,mac:=mac }) rfl (.cons (.refl _) (.cons (.refl _) (.cons (.refl _) (.cons (.refl _) (.cons (.refl _) (.cons (.refl _) (.cons (.refl _) (.cons (.refl _) (.cons (.refl _) (.cons (.refl _) (.cons (.refl _) (.cons (.refl _) (.cons (.refl _) (.cons .nil (.cons .nil (.cons .nil (.cons .nil .nil))))))))))))))))) ?_
  refine T ?_
  exact D
 rw[Bool.true_and]
 refine T ?_
 refine C q0 F439 ?_
 refine C q1 F301 ?_
 refine Am 2 (C4 { lineZ with row:=row,kind:=1,dev:=dev,num:=num,mac:=mac }) rfl (.cons (.refl _) (.cons (.refl _) (.cons (.refl _) (.cons (.refl _) (.cons (.refl _) (.cons (.refl _) (.cons (.refl _) (.cons (.refl _) (.cons (.refl _) (.cons (.refl _) (.cons (.refl _) (.cons (.refl _) (.cons (.refl _) (.cons .nil (.cons .nil (.cons .nil (.cons .nil .nil))))))))))))))))) ?_
 refine T ?_
 exact D
theorem Abd (l:LineM) (hw:LineW l) (hk:l.kind=2):Sy.Spec Tryz.prog 410 [Au l] [] (.tup [Au (A9 l).1,Ab (A9 l).2]) []:=cT F410 Tryz.ntmps410 fun F hF=>by
 have hU:A9 l=({ lineZ with row:=l.row,kind:=2,dev:=l.dev,port:=l.port,cost:=l.cost,vlan:=l.vlan,tagged:=l.tagged },(Be l.port && (Bb l.cost 1 65535 && (Bb l.vlan 0 4094 && (D9 l.tagged 4094 && membersB l.vlan l.tagged))))):=by
  simp only[A9,hk]
  rfl
 rw[hU]
 have q0:=E2 l.port (by have:=hw.port;omega)
 have q1:=Cw l.cost 1 65535
 have q2:=Cw l.vlan 0 4094
 have q3:=Qp l.tagged 4094 hw.fin.t
 have q4:=Xg l (by have:=hw.fin.t;simp only[Ag];omega)
 obtain ⟨row,kind,dev,port,peer,far,name,mac,addr,bits,vlan,num,cost,tagged,imports,exports,addrs⟩:=l
 dsimp only at hk q0 q1 q2 q3 q4 ⊢
 subst hk
 clear hU hw
 generalize Be port=b0 at *
 generalize Bb cost 1 65535=b1 at *
 generalize Bb vlan 0 4094=b2 at *
 generalize D9 tagged 4094=b3 at *
 generalize membersB vlan tagged=b4 at *
 cases b0
 ·rw[Bool.false_and]
  refine T ?_
  refine C q0 F299 ?_
  refine Am 2 (C4 { lineZ with row:=row,kind:=2,dev:=dev,port:=port,cost:=cost,vlan:=vlan,tagged:=tagged }) rfl (.cons (.refl _) (.cons (.refl _) (.cons (.refl _) (.cons (.refl _) (.cons (.refl _) (.cons (.refl _) (.cons (.refl _) (.cons (.refl _) (.cons (.refl _) (.cons (.refl _) (.cons (.refl _) (.cons (.refl _) (.cons (.refl _) (.cons (.refl _) (.cons .nil (.cons .nil (.cons .nil .nil))))))))))))))))) ?_
  refine T ?_
  exact D
 rw[Bool.true_and]
 cases b1
 ·rw[Bool.false_and]
  refine T ?_
  refine C q0 F299 ?_
  refine C q1 F439 ?_
  refine Am 2 (C4 { lineZ with row:=row,kind:=2,dev:=dev,port:=port,cost:=cost,vlan:=vlan,tagged:=tagged }) rfl (.cons (.refl _) (.cons (.refl _) (.cons (.refl _) (.cons (.refl _) (.cons (.refl _) (.cons (.refl _) (.cons (.refl _) (.cons (.refl _) (.cons (.refl _) (.cons (.refl _) (.cons (.refl _) (.cons (.refl _) (.cons (.refl _) (.cons (.refl _) (.cons .nil (.cons .nil (.cons .nil .nil))))))))))))))))) ?_
  refine T ?_
  exact D
 rw[Bool.true_and]
 cases b2
 ·rw[Bool.false_and]
  refine T ?_
  refine C q0 F299 ?_
  refine C q1 F439 ?_
  refine C q2 F439 ?_
  refine Am 2 (C4 { lineZ with row:=row,kind:=2,dev:=dev,port:=port,cost:=cost,vlan:=vlan,tagged:=tagged }) rfl (.cons (.refl _) (.cons (.refl _) (.cons (.refl _) (.cons (.refl _) (.cons (.refl _) (.cons (.refl _) (.cons (.refl _) (.cons (.refl _) (.cons (.refl _) (.cons (.refl _) (.cons (.refl _) (.cons (.refl _) (.cons (.refl _) (.cons (.refl _) (.cons .nil (.cons .nil (.cons .nil .nil))))))))))))))))) ?_
  refine T ?_
  exact D
 rw[Bool.true_and]
 cases b3
 ·rw[Bool.false_and]
  refine T ?_
  refine C q0 F299 ?_
  refine C q1 F439 ?_
  refine C q2 F439 ?_
  refine C q3 F440 ?_
  refine Am 2 (C4 { lineZ with row:=row,kind:=2,dev:=dev,port:=port,cost:=cost,vlan:=vlan,tagged:=tagged }) rfl (.cons (.refl _) (.cons (.refl _) (.cons (.refl _) (.cons (.refl _) (.cons (.refl _) (.cons (.refl _) (.cons (.refl _) (.cons (.refl _) (.cons (.refl _) (.cons (.refl _) (.cons (.refl _) (.cons (.refl _) (.cons (.refl _) (.cons (.refl _) (.cons .nil (.cons .nil (.cons .nil .nil))))))))))))))))) ?_
  refine T ?_
  exact D
 rw[Bool.true_and]
 refine T ?_
 refine C q0 F299 ?_
 refine C q1 F439 ?_
 refine C q2 F439 ?_
 refine C q3 F440 ?_
 refine C q4 F302 ?_
 refine Am 2 (C4 { lineZ with row:=row,kind:=2,dev:=dev,port:=port,cost:=cost,vlan:=vlan,tagged:=tagged }) rfl (.cons (.refl _) (.cons (.refl _) (.cons (.refl _) (.cons (.refl _) (.cons (.refl _) (.cons (.refl _) (.cons (.refl _) (.cons (.refl _) (.cons (.refl _) (.cons (.refl _) (.cons (.refl _) (.cons (.refl _) (.cons (.refl _) (.cons (.refl _) (.cons .nil (.cons .nil (.cons .nil .nil))))))))))))))))) ?_
 refine T ?_
 exact D
theorem Abc (l:LineM) (hw:LineW l) (hk:l.kind=3):Sy.Spec Tryz.prog 410 [Au l] [] (.tup [Au (A9 l).1,Ab (A9 l).2]) []:=cT F410 Tryz.ntmps410 fun F hF=>by
 have hU:A9 l=({ lineZ with row:=l.row,kind:=3,dev:=l.dev,port:=l.port,peer:=l.peer,far:=l.far },(Be l.port && (Be l.peer && Be l.far))):=by
  simp only[A9,hk]
  rfl
 rw[hU]
 have q0:=E2 l.port (by have:=hw.port;omega)
 have q1:=E2 l.peer (by have:=hw.peer;omega)
 have q2:=E2 l.far (by have:=hw.far;omega)
 obtain ⟨row,kind,dev,port,peer,far,name,mac,addr,bits,vlan,num,cost,tagged,imports,exports,addrs⟩:=l
 dsimp only at hk q0 q1 q2 ⊢
 subst hk
 clear hU hw
 generalize Be port=b0 at *
 generalize Be peer=b1 at *
 generalize Be far=b2 at *
 cases b0
 ·rw[Bool.false_and]
  refine T ?_
  refine C q0 F299 ?_
  refine Am 2 (C4 { lineZ with row:=row,kind:=3,dev:=dev,port:=port,peer:=peer,far:=far }) rfl (.cons (.refl _) (.cons (.refl _) (.cons (.refl _) (.cons (.refl _) (.cons (.refl _) (.cons (.refl _) (.cons (.refl _) (.cons (.refl _) (.cons (.refl _) (.cons (.refl _) (.cons (.refl _) (.cons (.refl _) (.cons (.refl _) (.cons .nil (.cons .nil (.cons .nil (.cons .nil .nil))))))))))))))))) ?_
  refine T ?_
  exact D
 rw[Bool.true_and]
 cases b1
 ·rw[Bool.false_and]
  refine T ?_
  refine C q0 F299 ?_
  refine C q1 F299 ?_
  refine Am 2 (C4 { lineZ with row:=row,kind:=3,dev:=dev,port:=port,peer:=peer,far:=far }) rfl (.cons (.refl _) (.cons (.refl _) (.cons (.refl _) (.cons (.refl _) (.cons (.refl _) (.cons (.refl _) (.cons (.refl _) (.cons (.refl _) (.cons (.refl _) (.cons (.refl _) (.cons (.refl _) (.cons (.refl _) (.cons (.refl _) (.cons .nil (.cons .nil (.cons .nil (.cons .nil .nil))))))))))))))))) ?_
  refine T ?_
  exact D
 rw[Bool.true_and]
 refine T ?_
 refine C q0 F299 ?_
 refine C q1 F299 ?_
 refine C q2 F299 ?_
 refine Am 2 (C4 { lineZ with row:=row,kind:=3,dev:=dev,port:=port,peer:=peer,far:=far }) rfl (.cons (.refl _) (.cons (.refl _) (.cons (.refl _) (.cons (.refl _) (.cons (.refl _) (.cons (.refl _) (.cons (.refl _) (.cons (.refl _) (.cons (.refl _) (.cons (.refl _) (.cons (.refl _) (.cons (.refl _) (.cons (.refl _) (.cons .nil (.cons .nil (.cons .nil (.cons .nil .nil))))))))))))))))) ?_
 refine T ?_
 exact D
theorem Abb (l:LineM) (hw:LineW l) (hk:l.kind=4):Sy.Spec Tryz.prog 410 [Au l] [] (.tup [Au (A9 l).1,Ab (A9 l).2]) []:=cT F410 Tryz.ntmps410 fun F hF=>by
 have hU:A9 l=({ lineZ with row:=l.row,kind:=4,dev:=l.dev,vlan:=l.vlan,mac:=l.mac,port:=l.port },(Bb l.vlan 1 4094 && (statB l.mac && Be l.port))):=by
  simp only[A9,hk]
  rfl
 rw[hU]
 have q0:=Cw l.vlan 1 4094
 have q1:Sy.Spec Tryz.prog 301 [Ig l.mac] [] (Ab (statB l.mac)) []:=by
  have:=hw.ok.mac
  obtain ⟨m,hm1⟩:∃ m:Nat,l.mac=m:=⟨l.mac.toNat,by omega⟩
  rw[hm1];exact Yu m q_
 have q2:=E2 l.port (by have:=hw.port;omega)
 obtain ⟨row,kind,dev,port,peer,far,name,mac,addr,bits,vlan,num,cost,tagged,imports,exports,addrs⟩:=l
 dsimp only at hk q0 q1 q2 ⊢
 subst hk
 clear hU hw
 generalize Bb vlan 1 4094=b0 at *
 generalize statB mac=b1 at *
 generalize Be port=b2 at *
 cases b0
 ·rw[Bool.false_and]
  refine T ?_
  refine C q0 F439 ?_
  refine Am 2 (C4 { lineZ with row:=row,kind:=4,dev:=dev,vlan:=vlan,mac:=mac,port:=port }) rfl (.cons (.refl _) (.cons (.refl _) (.cons (.refl _) (.cons (.refl _) (.cons (.refl _) (.cons (.refl _) (.cons (.refl _) (.cons (.refl _) (.cons (.refl _) (.cons (.refl _) (.cons (.refl _) (.cons (.refl _) (.cons (.refl _) (.cons .nil (.cons .nil (.cons .nil (.cons .nil .nil))))))))))))))))) ?_
  refine T ?_
  exact D
 rw[Bool.true_and]
 cases b1
 ·rw[Bool.false_and]
  refine T ?_
  refine C q0 F439 ?_
  refine C q1 F301 ?_
  refine Am 2 (C4 { lineZ with row:=row,kind:=4,dev:=dev,vlan:=vlan,mac:=mac,port:=port }) rfl (.cons (.refl _) (.cons (.refl _) (.cons (.refl _) (.cons (.refl _) (.cons (.refl _) (.cons (.refl _) (.cons (.refl _) (.cons (.refl _) (.cons (.refl _) (.cons (.refl _) (.cons (.refl _) (.cons (.refl _) (.cons (.refl _) (.cons .nil (.cons .nil (.cons .nil (.cons .nil .nil))))))))))))))))) ?_
  refine T ?_
  exact D
 rw[Bool.true_and]
 refine T ?_
 refine C q0 F439 ?_
 refine C q1 F301 ?_
 refine C q2 F299 ?_
 refine Am 2 (C4 { lineZ with row:=row,kind:=4,dev:=dev,vlan:=vlan,mac:=mac,port:=port }) rfl (.cons (.refl _) (.cons (.refl _) (.cons (.refl _) (.cons (.refl _) (.cons (.refl _) (.cons (.refl _) (.cons (.refl _) (.cons (.refl _) (.cons (.refl _) (.cons (.refl _) (.cons (.refl _) (.cons (.refl _) (.cons (.refl _) (.cons .nil (.cons .nil (.cons .nil (.cons .nil .nil))))))))))))))))) ?_
 refine T ?_
 exact D
theorem Aa9 (l:LineM) (hw:LineW l) (hk:l.kind=6):Sy.Spec Tryz.prog 410 [Au l] [] (.tup [Au (A9 l).1,Ab (A9 l).2]) []:=cT F410 Tryz.ntmps410 fun F hF=>by
 have hU:A9 l=({ lineZ with row:=l.row,kind:=6,dev:=l.dev,vlan:=l.vlan,num:=l.num },(Bb l.vlan 1 4094 && Bb l.num 1 16777215)):=by
  simp only[A9,hk]
  rfl
 rw[hU]
 have q0:=Cw l.vlan 1 4094
 have q1:=Cw l.num 1 16777215
 obtain ⟨row,kind,dev,port,peer,far,name,mac,addr,bits,vlan,num,cost,tagged,imports,exports,addrs⟩:=l
 dsimp only at hk q0 q1 ⊢
 subst hk
 clear hU hw
 generalize Bb vlan 1 4094=b0 at *
 generalize Bb num 1 16777215=b1 at *
 cases b0
 ·rw[Bool.false_and]
  refine T ?_
  refine C q0 F439 ?_
  refine Am 2 (C4 { lineZ with row:=row,kind:=6,dev:=dev,vlan:=vlan,num:=num }) rfl (.cons (.refl _) (.cons (.refl _) (.cons (.refl _) (.cons (.refl _) (.cons (.refl _) (.cons (.refl _) (.cons (.refl _) (.cons (.refl _) (.cons (.refl _) (.cons (.refl _) (.cons (.refl _) (.cons (.refl _) (.cons (.refl _) (.cons .nil (.cons .nil (.cons .nil (.cons .nil .nil))))))))))))))))) ?_
  refine T ?_
  exact D
 rw[Bool.true_and]
 refine T ?_
 refine C q0 F439 ?_
 refine C q1 F439 ?_
 refine Am 2 (C4 { lineZ with row:=row,kind:=6,dev:=dev,vlan:=vlan,num:=num }) rfl (.cons (.refl _) (.cons (.refl _) (.cons (.refl _) (.cons (.refl _) (.cons (.refl _) (.cons (.refl _) (.cons (.refl _) (.cons (.refl _) (.cons (.refl _) (.cons (.refl _) (.cons (.refl _) (.cons (.refl _) (.cons (.refl _) (.cons .nil (.cons .nil (.cons .nil (.cons .nil .nil))))))))))))))))) ?_
 refine T ?_
 exact D
theorem Aa8 (l:LineM) (hw:LineW l) (hk:l.kind=7):Sy.Spec Tryz.prog 410 [Au l] [] (.tup [Au (A9 l).1,Ab (A9 l).2]) []:=cT F410 Tryz.ntmps410 fun F hF=>by
 have hU:A9 l=({ lineZ with row:=l.row,kind:=7,dev:=l.dev,num:=l.num,addrs:=l.addrs },(Bb l.num 1 16777215 && J0 l.addrs)):=by
  simp only[A9,hk]
  rfl
 rw[hU]
 have q0:=Cw l.num 1 16777215
 have q1:=Abg l.addrs hw.fin.a
 obtain ⟨row,kind,dev,port,peer,far,name,mac,addr,bits,vlan,num,cost,tagged,imports,exports,addrs⟩:=l
 dsimp only at hk q0 q1 ⊢
 subst hk
 clear hU hw
 generalize Bb num 1 16777215=b0 at *
 generalize J0 addrs=b1 at *
 cases b0
 ·rw[Bool.false_and]
  refine T ?_
  refine C q0 F439 ?_
  refine Am 2 (C4 { lineZ with row:=row,kind:=7,dev:=dev,num:=num,addrs:=addrs }) rfl (.cons (.refl _) (.cons (.refl _) (.cons (.refl _) (.cons (.refl _) (.cons (.refl _) (.cons (.refl _) (.cons (.refl _) (.cons (.refl _) (.cons (.refl _) (.cons (.refl _) (.cons (.refl _) (.cons (.refl _) (.cons (.refl _) (.cons .nil (.cons .nil (.cons .nil (.cons (.refl _) .nil))))))))))))))))) ?_
  refine T ?_
  exact D
 rw[Bool.true_and]
 refine T ?_
 refine C q0 F439 ?_
 refine C q1 F441 ?_
 refine Am 2 (C4 { lineZ with row:=row,kind:=7,dev:=dev,num:=num,addrs:=addrs }) rfl (.cons (.refl _) (.cons (.refl _) (.cons (.refl _) (.cons (.refl _) (.cons (.refl _) (.cons (.refl _) (.cons (.refl _) (.cons (.refl _) (.cons (.refl _) (.cons (.refl _) (.cons (.refl _) (.cons (.refl _) (.cons (.refl _) (.cons .nil (.cons .nil (.cons .nil (.cons (.refl _) .nil))))))))))))))))) ?_
 refine T ?_
 exact D
theorem Aa7 (l:LineM) (hw:LineW l) (hk:l.kind=8):Sy.Spec Tryz.prog 410 [Au l] [] (.tup [Au (A9 l).1,Ab (A9 l).2]) []:=cT F410 Tryz.ntmps410 fun F hF=>by
 have hU:A9 l=({ lineZ with row:=l.row,kind:=8,dev:=l.dev,name:=l.name,imports:=l.imports,exports:=l.exports },(Be l.name && (D9 l.imports 65535 && D9 l.exports 65535))):=by
  simp only[A9,hk]
  rfl
 rw[hU]
 have q0:=E2 l.name (by have:=hw.name;omega)
 have q1:=Qp l.imports 65535 hw.fin.i
 have q2:=Qp l.exports 65535 hw.fin.e
 obtain ⟨row,kind,dev,port,peer,far,name,mac,addr,bits,vlan,num,cost,tagged,imports,exports,addrs⟩:=l
 dsimp only at hk q0 q1 q2 ⊢
 subst hk
 clear hU hw
 generalize Be name=b0 at *
 generalize D9 imports 65535=b1 at *
 generalize D9 exports 65535=b2 at *
 cases b0
 ·rw[Bool.false_and]
  refine T ?_
  refine C q0 F299 ?_
  refine Am 2 (C4 { lineZ with row:=row,kind:=8,dev:=dev,name:=name,imports:=imports,exports:=exports }) rfl (.cons (.refl _) (.cons (.refl _) (.cons (.refl _) (.cons (.refl _) (.cons (.refl _) (.cons (.refl _) (.cons (.refl _) (.cons (.refl _) (.cons (.refl _) (.cons (.refl _) (.cons (.refl _) (.cons (.refl _) (.cons (.refl _) (.cons .nil (.cons (.refl _) (.cons (.refl _) (.cons .nil .nil))))))))))))))))) ?_
  refine T ?_
  exact D
 rw[Bool.true_and]
 cases b1
 ·rw[Bool.false_and]
  refine T ?_
  refine C q0 F299 ?_
  refine C q1 F440 ?_
  refine Am 2 (C4 { lineZ with row:=row,kind:=8,dev:=dev,name:=name,imports:=imports,exports:=exports }) rfl (.cons (.refl _) (.cons (.refl _) (.cons (.refl _) (.cons (.refl _) (.cons (.refl _) (.cons (.refl _) (.cons (.refl _) (.cons (.refl _) (.cons (.refl _) (.cons (.refl _) (.cons (.refl _) (.cons (.refl _) (.cons (.refl _) (.cons .nil (.cons (.refl _) (.cons (.refl _) (.cons .nil .nil))))))))))))))))) ?_
  refine T ?_
  exact D
 rw[Bool.true_and]
 refine T ?_
 refine C q0 F299 ?_
 refine C q1 F440 ?_
 refine C q2 F440 ?_
 refine Am 2 (C4 { lineZ with row:=row,kind:=8,dev:=dev,name:=name,imports:=imports,exports:=exports }) rfl (.cons (.refl _) (.cons (.refl _) (.cons (.refl _) (.cons (.refl _) (.cons (.refl _) (.cons (.refl _) (.cons (.refl _) (.cons (.refl _) (.cons (.refl _) (.cons (.refl _) (.cons (.refl _) (.cons (.refl _) (.cons (.refl _) (.cons .nil (.cons (.refl _) (.cons (.refl _) (.cons .nil .nil))))))))))))))))) ?_
 refine T ?_
 exact D
theorem Aa6 (l:LineM) (hw:LineW l) (hk:l.kind=9):Sy.Spec Tryz.prog 410 [Au l] [] (.tup [Au (A9 l).1,Ab (A9 l).2]) []:=cT F410 Tryz.ntmps410 fun F hF=>by
 have hU:A9 l=({ lineZ with row:=l.row,kind:=9,dev:=l.dev,vlan:=l.vlan,name:=l.name,addr:=l.addr,bits:=l.bits },(Bb l.vlan 1 4094 && (Be l.name && subnetB l.addr l.bits))):=by
  simp only[A9,hk]
  rfl
 rw[hU]
 have q0:=Cw l.vlan 1 4094
 have q1:=E2 l.name (by have:=hw.name;omega)
 have q2:Sy.Spec Tryz.prog 243 [I4 l.addr l.bits] [] (Ab (subnetB l.addr l.bits)) []:=by
  have:=hw.ok.addr
  obtain ⟨m,hm1⟩:∃ m:Nat,l.addr=m:=⟨l.addr.toNat,by omega⟩
  rw[hm1];exact Yt m l.bits q_
 obtain ⟨row,kind,dev,port,peer,far,name,mac,addr,bits,vlan,num,cost,tagged,imports,exports,addrs⟩:=l
 dsimp only at hk q0 q1 q2 ⊢
 subst hk
 clear hU hw
 generalize Bb vlan 1 4094=b0 at *
 generalize Be name=b1 at *
 generalize subnetB addr bits=b2 at *
 cases b0
 ·rw[Bool.false_and]
  refine T ?_
  refine C q0 F439 ?_
  refine Am 2 (C4 { lineZ with row:=row,kind:=9,dev:=dev,vlan:=vlan,name:=name,addr:=addr,bits:=bits }) rfl (.cons (.refl _) (.cons (.refl _) (.cons (.refl _) (.cons (.refl _) (.cons (.refl _) (.cons (.refl _) (.cons (.refl _) (.cons (.refl _) (.cons (.refl _) (.cons (.refl _) (.cons (.refl _) (.cons (.refl _) (.cons (.refl _) (.cons .nil (.cons .nil (.cons .nil (.cons .nil .nil))))))))))))))))) ?_
  refine T ?_
  exact D
 rw[Bool.true_and]
 cases b1
 ·rw[Bool.false_and]
  refine T ?_
  refine C q0 F439 ?_
  refine C q1 F299 ?_
  refine Am 2 (C4 { lineZ with row:=row,kind:=9,dev:=dev,vlan:=vlan,name:=name,addr:=addr,bits:=bits }) rfl (.cons (.refl _) (.cons (.refl _) (.cons (.refl _) (.cons (.refl _) (.cons (.refl _) (.cons (.refl _) (.cons (.refl _) (.cons (.refl _) (.cons (.refl _) (.cons (.refl _) (.cons (.refl _) (.cons (.refl _) (.cons (.refl _) (.cons .nil (.cons .nil (.cons .nil (.cons .nil .nil))))))))))))))))) ?_
  refine T ?_
  exact D
 rw[Bool.true_and]
 refine T ?_
 refine C q0 F439 ?_
 refine C q1 F299 ?_
 refine C q2 F243 ?_
 refine Am 2 (C4 { lineZ with row:=row,kind:=9,dev:=dev,vlan:=vlan,name:=name,addr:=addr,bits:=bits }) rfl (.cons (.refl _) (.cons (.refl _) (.cons (.refl _) (.cons (.refl _) (.cons (.refl _) (.cons (.refl _) (.cons (.refl _) (.cons (.refl _) (.cons (.refl _) (.cons (.refl _) (.cons (.refl _) (.cons (.refl _) (.cons (.refl _) (.cons .nil (.cons .nil (.cons .nil (.cons .nil .nil))))))))))))))))) ?_
 refine T ?_
 exact D
theorem Aba (l:LineM) (hw:LineW l) (hk:l.kind=5):Sy.Spec Tryz.prog 410 [Au l] [] (.tup [Au (A9 l).1,Ab (A9 l).2]) []:=cT F410 Tryz.ntmps410 fun F hF=>by
 have hU:A9 l=({ lineZ with row:=l.row,kind:=5,dev:=l.dev,addr:=l.addr },decide (l.addr≠0)):=by
  simp only[A9,hk]
  rfl
 rw[hU]
 obtain ⟨row,kind,dev,port,peer,far,name,mac,addr,bits,vlan,num,cost,tagged,imports,exports,addrs⟩:=l
 dsimp only at hk ⊢
 subst hk
 clear hU hw
 have hb:decide (addr≠0)=(addr != 0):=by
  by_cases h:addr=0
  ·rw[h];rfl
  ·rw[decide_eq_true h,bne_iff_ne.2 h]
 rw[hb]
 refine T ?_
 refine Am 2 (C4 { lineZ with row:=row,kind:=5,dev:=dev,addr:=addr }) rfl (.cons (.refl _) (.cons (.refl _) (.cons (.refl _) (.cons (.refl _) (.cons (.refl _) (.cons (.refl _) (.cons (.refl _) (.cons (.refl _) (.cons (.refl _) (.cons (.refl _) (.cons (.refl _) (.cons (.refl _) (.cons (.refl _) (.cons .nil (.cons .nil (.cons .nil (.cons .nil .nil))))))))))))))))) ?_
 refine T ?_
 exact D
theorem Abf (l:LineM) (hk:¬ (1≤l.kind∧l.kind≤9)):Sy.Spec Tryz.prog 410 [Au l] [] (.tup [Au (A9 l).1,Ab (A9 l).2]) []:=cT F410 Tryz.ntmps410 fun F hF=>by
 have n1:¬ l.kind=1:=by omega
 have f1:(l.kind == 1)=false:=beq_eq_false_iff_ne.2 n1
 have n2:¬ l.kind=2:=by omega
 have f2:(l.kind == 2)=false:=beq_eq_false_iff_ne.2 n2
 have n3:¬ l.kind=3:=by omega
 have f3:(l.kind == 3)=false:=beq_eq_false_iff_ne.2 n3
 have n4:¬ l.kind=4:=by omega
 have f4:(l.kind == 4)=false:=beq_eq_false_iff_ne.2 n4
 have n5:¬ l.kind=5:=by omega
 have f5:(l.kind == 5)=false:=beq_eq_false_iff_ne.2 n5
 have n6:¬ l.kind=6:=by omega
 have f6:(l.kind == 6)=false:=beq_eq_false_iff_ne.2 n6
 have n7:¬ l.kind=7:=by omega
 have f7:(l.kind == 7)=false:=beq_eq_false_iff_ne.2 n7
 have n8:¬ l.kind=8:=by omega
 have f8:(l.kind == 8)=false:=beq_eq_false_iff_ne.2 n8
 have n9:¬ l.kind=9:=by omega
 have f9:(l.kind == 9)=false:=beq_eq_false_iff_ne.2 n9
 have hU:A9 l=({ lineZ with row:=l.row,kind:=l.kind,dev:=l.dev },false):=by
  simp only[A9,if_neg n1,if_neg n2,if_neg n3,if_neg n4,if_neg n5,if_neg n6,if_neg n7,if_neg n8,if_neg n9]
 rw[hU]
 refine T ?_
 refine Am 2 (C4 { lineZ with row:=l.row,kind:=l.kind,dev:=l.dev }) rfl (.cons (.refl _) (.cons (.refl _) (.cons (.refl _) (.cons (.refl _) (.cons (.refl _) (.cons (.refl _) (.cons (.refl _) (.cons (.refl _) (.cons (.refl _) (.cons (.refl _) (.cons (.refl _) (.cons (.refl _) (.cons (.refl _) (.cons .nil (.cons .nil (.cons .nil (.cons .nil .nil))))))))))))))))) ?_
 refine T ?_
 exact D
theorem Ad4 (l:LineM) (hw:LineW l):Sy.Spec Tryz.prog 410 [Au l] [] (.tup [Au (A9 l).1,Ab (A9 l).2]) []:=by
 by_cases hk:1≤l.kind∧l.kind≤9
 ·rcases (by omega:l.kind=1∨l.kind=2∨l.kind=3∨l.kind=4∨l.kind=5∨l.kind=6∨l.kind=7∨l.kind=8∨l.kind=9) with h | h | h | h | h | h | h | h | h
  ·exact Abe l hw h
  ·exact Abd l hw h
  ·exact Abc l hw h
  ·exact Abb l hw h
  ·exact Aba l hw h
  ·exact Aa9 l hw h
  ·exact Aa8 l hw h
  ·exact Aa7 l hw h
  ·exact Aa6 l hw h
 ·exact Abf l hk
theorem Adz {l:LineM} (h:LineFin l):LineFin (A9 l).1:=by
 have ht:=h.t;have hi:=h.i;have he:=h.e;have haa:=h.a
 unfold A9
 dsimp only
 repeat' split
 all_goals exact⟨by first | exact ht | (show 0≤100000;decide),by first | exact hi | (show 0≤100000;decide),by first | exact he | (show 0≤100000;decide),by first | exact haa | (show 0≤100000;decide)⟩
theorem Ej (l:LineM) (hw:LineW l):Sy.Spec Tryz.prog 343 [Au l] [] (Ab (B0 l)) []:=cT F343 Tryz.ntmps343 fun F hF=>by
 have q1:=Ad4 l hw
 have q2:=E2 l.dev (by have:=hw.dev;omega)
 have q3:=Ad5 (A9 l).1 l (Adz hw.fin) hw.fin
 rw[B0]
 generalize A9 l=u at *
 obtain ⟨ul,ub⟩:=u
 dsimp only at q1 q3 ⊢
 cases ub
 ·rw[Bool.false_and]
  refine T ?_
  refine C q1 F410 ?_
  exact D
 rw[Bool.true_and]
 cases hn:Be l.dev
 ·rw[hn]at q2
  rw[Bool.false_and]
  refine T ?_
  refine C q1 F410 ?_
  refine C q2 F299 ?_
  exact D
 rw[hn]at q2
 rw[Bool.true_and]
 refine T ?_
 refine C q1 F410 ?_
 refine C q2 F299 ?_
 refine C q3 F411 ?_
 exact D
theorem Aax (a:Int):(D0 a).size≤100:=by
 have:=Hx a.toNat 4
 rw[D0,Df];omega
end Go.Sy.YtjenpnjajjplkaaGreatDoor
namespace Go.Sy
theorem U3 {f g:Nat→Option (Nat × Nat)}:∀ (ps:List (Nat × Value)) (cs:Array Value),(∀ p∈ps,f p.1=g p.1)→Instr.fill f cs ps=Instr.fill g cs ps
 | [],cs,_=>rfl
 | (i,v)::ps,cs,h=>by
  have h1:=h (i,v) y_
  simp only[Instr.fill]
  dsimp only at h1
  rw[h1]
  cases g i with
  | none=>rfl
  | some os =>
   dsimp only
   split
   ·rfl
   ·exact U3 ps _ (fun p hp=>h p (by simp[hp]))
theorem Z6 {P:Program} (Γ:Ty P) {o:Oper} {s:SS} {t et:TypeId} {ti:TI} {len esz:Nat} {ps:List (Nat × Operand)} {out:List SV} (h:o.op=.build t ps.toArray) (ht:Γ.get t=some ti) (hk:ti.k=.array et len esz)
  (h1:Sr ti.zero=true) (hps:(ps.all fun p=>Nat.blt p.1 len)=true) (hf:U4 ((List.range len).map fun i=>(i * esz,esz)) (ti.zero.map .val) (ps.map fun p=>(p.1,ev s p.2))=some out):Good P o s ⟨.agg out,[],[]⟩ :=
 Good.pure fun κ a w _ hr _=>by
  obtain ⟨d,info,z,k1,k2,k3,k4,k5,k6⟩:=Γ.ok t ti ht
  obtain ⟨hu,i,q1,q2⟩:=K8 Γ ht hk
  have hops:∀ p∈ps,Rd κ w (ev s p.2) (a.eval p.2):=fun p hp=>hr p.2 (by
   simp only[h,Op.operands]
   simp only[List.mem_toArray,List.mem_map]
   exact⟨p,hp,E⟩)
  obtain ⟨r,r1,r2,r3⟩:=X0 (κ:=κ) (w:=w) (a:=a) ps _ out z.cells (by rw[k6];exact Qk _) (by rw[k6];exact Kl h1) hops hf
  refine⟨.agg r,?_,?_⟩
  ·have hcg:=U3 (f:=fun i=>some (i * esz,esz)) (g:=fun i=>((List.range len).map fun i=>(i * esz,esz))[i]?) (ps.map fun p=>(p.1,a.eval p.2)) z.cells (fun p hp=>by
    obtain ⟨x,hx,rfl⟩:=List.mem_map.1 hp
    have hlt:x.1<len:=Nat.le_of_ble_eq_true (List.all_eq_true.1 hps x hx)
    dsimp only
    rw[List.getElem?_map,List.getElem?_range hlt]
    rfl)
   simp only[execOp,h,Sem.run_bind,Instr.build,zeroValue,typeInfo,run_program,Result.andThen_ok,k3,k5,Sem.run_pure,run_underlying hu,sizeOf,q1,q2,List.map_toArray]
   rw[hcg,r1]
   simp
  ·simp only[Rd]
   exact⟨r.toList,by simp,r3,r2⟩
theorem VwL.get {s:SS} {V:List Nat}:∀ {l m:List SV} (_:VwL s V l m) {i:Nat} {y:SV},Ee m i=some y→∃ x,Ee l i=some x∧Vw s V x y
 | _,_,.nil,i,y,h=>by cases i<;>simp[Ee]at h
 | _,_,.cons (x:=x) h0 hs,0,y,h=>by
  simp only[Ee,Option.some.injEq]at h
  subst h
  exact⟨x,E,h0⟩
 | _,_,.cons h0 hs,i+1,y,h=>VwL.get hs (i:=i) h
theorem VwL.len {s:SS} {V:List Nat}:∀ {l m:List SV} (_:VwL s V l m),m.length=l.length
 | _,_,.nil=>rfl
 | _,_,.cons _ hs=>by simp[VwL.len hs]
theorem RdL.setI {κ:Ka} {w:World} {x:SV} {v:Value} (hx:Rd κ w x v):∀ {l:List SV} {cs:List Value} (i:Nat),RdL κ w l cs→RdL κ w (l.set i x) (cs.set i v)
 | [],cs,i,h=>by simp only[RdL]at h;subst h;simp[RdL]
 | y::l,cs,0,h=>by
  simp only[RdL]at h
  obtain ⟨u,r,rfl,h1,h2⟩:=h
  simp only[List.set_cons_zero,RdL]
  exact⟨v,r,E,hx,h2⟩
 | y::l,cs,i+1,h=>by
  simp only[RdL]at h
  obtain ⟨u,r,rfl,h1,h2⟩:=h
  simp only[List.set_cons_succ,RdL]
  exact⟨u,_,E,h1,h2.setI hx i⟩
theorem Im {κ:Ka} {w:World} {k:Nat} {l:List SV} (hi:Inv κ w) (h:ObOK κ w k (.box l)) {off:Nat} {x:SV} {v:Value} (_hx:x.plain=true) (hv:∀ κ w,Rd κ w x v) (h1:v.oneCell'=true) :
  ∃ b,κ k=.blk b∧(∀ j y,Ee l j=some y→∃ u,w.cell? ⟨b,j,none⟩=some u∧Rd κ w y u)∧(∀ j,j<l.length→w.frozen? ⟨b,j,none⟩=false) ∧
   Step (·=k) κ w κ (w.setCell ⟨b,off,none⟩ v)∧Inv κ (w.setCell ⟨b,off,none⟩ v)∧ObOK κ (w.setCell ⟨b,off,none⟩ v) k (.box (l.set off x)):=by
 obtain ⟨b,cs,T,fr,e1,e2,e3,e4,e5⟩:=h
 have hsame:(w.setCell ⟨b,off,none⟩ v).heap[b]? = some (.cells (cs.set off v).toArray T fr):=by
  simp[World.setCell,Array.getElem?_modify,e2]
 have hoth:∀ j,j≠b→(w.setCell ⟨b,off,none⟩ v).heap[j]? = w.heap[j]?:=fun j hj=>heap_setCell_other w ⟨b,off,none⟩ j v hj
 obtain ⟨st,inv⟩:=Mk (w':=w.setCell ⟨b,off,none⟩ v) hi (k:=k) (b:=b) (by rw[e1];rfl) rfl rfl rfl y_ hoth
 have hlen:=e5.length
 refine⟨b,e1,fun j y hy=>?_,fun j hj=>?_,st,inv,b,_,T,fr,e1,hsame,by rw[List.length_set];exact e3,?_,(RdL.step st _ _ e5).setI (hv _ _) off⟩
 ·obtain ⟨u,hu,hr⟩:=e5.get hy
  exact⟨u,by rw[cell_of_row w b j cs.toArray T fr e2,List.getElem?_toArray];exact hu,hr⟩
 ·obtain ⟨lo,hi'⟩:=fr
  simp only[World.frozen?,e2]
  rcases e3 with h | h
  ·simp only at h;subst h;simp
  ·simp only at h;simp;omega
 ·intro c hc
  rcases List.mem_or_eq_of_mem_set hc with h | h
  ·exact e4 c h
  ·rw[h];exact h1
theorem V0 {P:Program} {o:Oper} {s:SS} {f:FuncId} {ik:IntKind} {ts:Array TypeId} {x:Operand} {k off:Nat} {l:List SV} {v:Int}
  (hf:∀ (a:Addr) (x:Int) (w:World),w.cell? a=some (.int ik x)→(callFunc f #[.pointer (some a)]).run P w=.ok (.value (.int ik x)) w)
  (h:o.op=.call ⟨.value (.func f),#[x],ts⟩) (hx:ev s x=.ptr k off) (hk:s.h k=.box l) (hy:Ee l off=some (.val (.int ik v))):Good P o s ⟨.val (.int ik v),[k],[]⟩ :=
 Good.pure fun κ a w hi hr ho=>by
  have h1:=hr x (by simp[h,Op.operands,Call.operands])
  rw[hx]at h1
  have h2:=ho k y_
  rw[hk]at h2
  obtain ⟨b,cs,T,fr,e1,e2,e3,e4,e5⟩:=h2
  simp only[Rd,e1]at h1
  obtain ⟨u,hu,hr2⟩:=e5.get hy
  have hc:w.cell? ⟨b,off,none⟩=some (.int ik v):=by rw[cell_of_row w b off cs.toArray T fr e2,List.getElem?_toArray,hu,hr2.val]
  have hrun:=hf ⟨b,off,none⟩ v w hc
  refine⟨.int ik v,?_,by simp only[Rd]⟩
  have hev:a.eval (.func f)=.func (.func f) #[] #[]:=rfl
  simp[execOp,h,resolve,hev,Deferred.ofValue,invoke,h1,hrun]
end Go.Sy
namespace Go.Sy.YtjenpnjajjplkaaGreatDoor
open Go.Proofs
attribute [local irreducible] Go.Sy.G Go.Sy.DR
set_option maxRecDepth 100000
set_option maxHeartbeats 4000000
def L7 (x:LineM):List Int:=[(x.dev.size:Int),(x.port.size:Int),(x.peer.size:Int),(x.far.size:Int),(x.name.size:Int),(x.tagged.length:Int),(x.imports.length:Int),(x.exports.length:Int),(x.addrs.length:Int)]
def Jl:List Int→Int→Bool × Int
 | [],t=>(false,t)
 | x::r,t=>if 300<x then (true,0) else Jl r (t+x)
def Jk:List LineM→Int→Bool
 | [],t=>decide (10000<t)
 | x::r,t=>if (Jl (L7 x) t).1=true then true else Jk r (Jl (L7 x) t).2
def linesGreat (l:List LineM):Bool:=if 400<l.length then true else Jk l 0
theorem Uq:∀ (l:List Int) (t:Int),(Jl l t).1=false→∀ x∈l,x≤300
 | [],_,_,_,hx=>by cases hx
 | y::r,t,h,x,hx=>by
  rw[Jl]at h
  split at h
  ·cases h
  ·rcases List.mem_cons.1 hx with rfl | hx
   ·omega
   ·exact Uq r _ h x hx
theorem Ku:∀ (l:List LineM) (t:Int),Jk l t=false→∀ x∈l,∀ y∈L7 x,y≤300
 | [],_,_,_,hx=>by cases hx
 | z::r,t,h,x,hx=>by
  rw[Jk]at h
  split at h
  ·cases h
  ·rename_i h0
   rcases List.mem_cons.1 hx with rfl | hx
   ·exact Uq _ _ (by simpa using h0)
   ·exact Ku r _ h x hx
theorem Ae4 {l:List LineM} (h:linesGreat l=false):∀ x∈l,LineFin x:=by
 rw[linesGreat]at h
 split at h
 ·cases h
 ·intro x hx
  have:=Ku l 0 h x hx
  simp only[L7,List.forall_mem_cons]at this
  exact⟨by omega,by omega,by omega,by omega⟩
theorem Aez (x:LineM):∀ y∈L7 x,0≤y:=by
 simp only[L7,List.forall_mem_cons]
 refine⟨by omega,by omega,by omega,by omega,by omega,by omega,by omega,by omega,by omega,fun y hy=>by cases hy⟩
theorem Zs (M:List LineM) (hl:M.length<1000000):Sy.Spec Tryz.prog 11 [.sl 17 Au M] [] (Ab (linesGreat M)) []:=cT F11 Tryz.ntmps11 fun F hF=>by
 have hres:=linesGreat.eq_1 M
 generalize linesGreat M=res at *
 by_cases c0:400<M.length
 ·rw[if_pos c0]at hres
  have f0:decide ((M.length:Int)>400)=true:=decide_eq_true q_
  subst hres
  refine T ?_
  exact D
 rw[if_neg c0]at hres
 have f0:decide ((M.length:Int)>400)=false:=decide_eq_false q_
 refine T ?_
 refine Cc (fun x:Nat × Int=>res=Jk (M.drop x.1) x.2∧x.1≤M.length∧0≤x.2∧x.2≤2700 * x.1) (fun x=>[(0,.sl 17 Au M),(3,Aa x.2),(4,Aa x.1)]) (fun _=>[]) (fun x=>M.length-x.1) (0,0) [] ⟨hres,by simp,by simp,by simp⟩ U ?_
 rintro ⟨j,t⟩ ⟨hI,hj,ht0,ht⟩
 dsimp only at hI hj ht0 ht ⊢
 refine T ?_
 refine⟨fun h2=>?_,fun h2=>?_⟩
 ·have hlt:j<M.length:=by have:=of_decide_eq_true h2;omega
  have hlt0:((j:Nat):Int).toNat<M.length:=hlt
  clear h2
  have hdr:M.drop j=M[((j:Nat):Int).toNat]'hlt0::M.drop (j+1):=List.drop_eq_getElem_cons hlt
  rw[hdr,Jk]at hI
  refine T ?_
  refine Aid 70 Aa (L7 (M[((j:Nat):Int).toNat]'hlt0)) E E ?_
  refine Ah 70 E ?_
  have hps:=Aez (M[((j:Nat):Int).toNat]'hlt0)
  have hls:(L7 (M[((j:Nat):Int).toNat]'hlt0)).length=9:=rfl
  generalize L7 (M[((j:Nat):Int).toNat]'hlt0)=ls at *
  refine T ?_
  refine Cc (fun x:Nat × Int=>Jl ls t=Jl (ls.drop x.1) x.2∧x.1≤9∧0≤x.2∧x.2≤2700 * j+300 * x.1) (fun x=>[(0,.sl 17 Au M),(3,Aa x.2),(4,Aa j),(70,.sl 1 Aa ls),(71,Aa 9),(72,Aa x.1)]) (fun _=>[]) (fun x=>9-x.1) (0,t) [] ⟨E,by simp,ht0,by dsimp only;omega⟩ U ?_
  rintro ⟨k,u⟩ ⟨hK,hk,hu0,hu⟩
  dsimp only at hK hk hu0 hu ⊢
  refine T ?_
  refine⟨fun h2=>?_,fun h2=>?_⟩
  ·have hkt:k<9:=by have:=of_decide_eq_true h2;omega
   have hkt0:((k:Nat):Int).toNat<ls.length:=by omega
   clear h2
   have hdk:ls.drop k=ls[((k:Nat):Int).toNat]'hkt0::ls.drop (k+1):=List.drop_eq_getElem_cons hkt0
   rw[hdk,Jl]at hK
   have hp:=hps (ls[((k:Nat):Int).toNat]'hkt0) (List.getElem_mem _)
   by_cases c1:300<ls[((k:Nat):Int).toNat]'hkt0
   ·rw[if_pos c1]at hK
    rw[hK,if_pos rfl]at hI
    have f1:decide (ls[((k:Nat):Int).toNat]'hkt0>300)=true:=decide_eq_true q_
    subst hI
    refine T ?_
    exact D
   ·rw[if_neg c1]at hK
    have f1:decide (ls[((k:Nat):Int).toNat]'hkt0>300)=false:=decide_eq_false q_
    refine T ?_
    exact A8 (k+1,u+ls[((k:Nat):Int).toNat]'hkt0) [] ⟨hK,hkt,by dsimp only;omega,by dsimp only;omega⟩ (by dsimp only;omega) U
  ·have hk9:k=9:=by have:=of_decide_eq_false h2;omega
   subst hk9
   clear h2
   rw[List.drop_eq_nil_of_le q_,Jl]at hK
   rw[hK,if_neg y_]at hI
   refine T ?_
   exact A8 (j+1,u) [] ⟨hI,hlt,hu0,by dsimp only;omega⟩ (by dsimp only;omega) U
 ·have hje:j=M.length:=by have:=of_decide_eq_false h2;omega
  subst hje
  clear h2
  rw[List.drop_length,Jk]at hI
  subst hI
  refine T ?_
  exact D
end Go.Sy.YtjenpnjajjplkaaGreatDoor
namespace Go.Sy
open Go.ChangeShapes Go.WideShapes Go.ChangeAt Go.RowKit
section
variable {H:Type} (enc:TypeId × Value→H) (P:Program) (W:World)
def Op1 (t:TypeId) {α:Type} (e:α→SV) (p:α→Prop):Prop :=
 ∀ n c y,DataW.trod enc P W 0 (fun _=>true) true n t [c]=some y→∃ x,p x∧Rd κ0 W (e x) c∧c.oneCell'=true
def OpN (t:TypeId) {α:Type} (e:α→SV) (p:α→Prop) (sz:Nat):Prop :=
 ∀ n cs y,DataW.trod enc P W 0 (fun _=>true) true n t cs=some y→∃ x,p x∧cs.length=sz∧Ones cs∧RdL κ0 W (cellsOf (e x)) cs
variable {enc P W}
theorem Kk {t:TypeId} {k:IntKind} (ht:P.underlying t=some (.int k)):Op1 enc P W t (fun z=>.val (.int k z)) (fun z=>(Lit.int k z).wf=true):=fun n c y h=>by
 obtain ⟨z,e,_,hw⟩:=DataW.trod_int ht h
 have e:c=.int k z:=by simpa using e
 subst e
 exact⟨z,hw,by simp[Rd],E⟩
theorem Ud {t:TypeId} (ht:P.underlying t=some .string):Op1 enc P W t Ak (fun s=>s.size≤maxLen):=fun n c y h=>by
 obtain ⟨z,e,_,hw⟩:=DataW.trod_string ht h
 have e:c=.string z:=by simpa using e
 subst e
 exact⟨z,hw,by simp[Ak,Rd],E⟩
theorem Ada {t:TypeId} {k:IntKind} (ht:P.underlying t=some (.int k)):OpN enc P W t (fun z=>.val (.int k z)) (fun z=>(Lit.int k z).wf=true) 1:=fun n cs y h=>by
 obtain ⟨z,rfl,_,hw⟩:=DataW.trod_int ht h
 refine⟨z,hw,E,fun c hc=>by simp at hc;subst hc;rfl,?_⟩
 simp[cellsOf,RdL,Rd]
theorem Ait {t:TypeId} (ht:P.underlying t=some .string):OpN enc P W t Ak (fun s=>s.size≤maxLen) 1:=fun n cs y h=>by
 obtain ⟨z,rfl,_,hw⟩:=DataW.trod_string ht h
 refine⟨z,hw,E,fun c hc=>by simp at hc;subst hc;rfl,?_⟩
 simp[Ak,cellsOf,RdL,Rd]
theorem W7 {base:Nat} {a:Addr} {n:Nat} {cs:List Value} (h:W.cells? base a n=some cs):cs.length=n∧∀ j (_:j<n),W.cell? (a.add j)=cs[j]?:=by
 unfold World.cells? at h
 split at h
 ·refine⟨by simpa using mapM_some_length h,fun j hj=>?_⟩
  exact mapM_some_get h j j (by simp[hj])
 ·cases h
theorem Oj {t et:TypeId} {α:Type} {e:α→SV} {p:α→Prop} {sz:Nat} (ht:P.underlying t=some (.slice et)) (hsz:P.cellsOf et=sz) (h0:0<sz) (hb:∀ x,(e x).boxed=true) (hd:∀ x,(e x).data=true) (hO:OpN enc P W et e p sz) :
  Op1 enc P W t (fun l:List α=>.sl sz e l) (fun l=>(∀ x∈l,p x)∧l.length≤maxLen):=fun n c y h=>by
 rcases DataW.trod_slice ht h with ⟨hcs,_⟩ | ⟨a,len,cap,elems,rest,m,rfl,hcs,_,_,hlc,hcm,hel,hget,_⟩
 ·have hc:c=.slice none 0 0:=by simpa using hcs
  subst hc
  refine⟨[],⟨by simp,Nat.zero_le _⟩,?_,E⟩
  simp only[Rd,RdD]
  exact .inl ⟨Y,none,0,E⟩
 ·have hc:c=.slice (some a) len cap:=by simpa using hcs
  subst hc
  rw[hsz]at hget
  have hall:∀ i:Fin len,∃ x,p x∧∃ cs,W.cells? 0 (a.add (i * sz)) sz=some cs∧cs.length=sz∧Ones cs∧RdL κ0 W (cellsOf (e x)) cs:=fun i=>by
   have h1:=hget i.1 i.2
   rw[List.getElem?_eq_getElem q_]at h1
   obtain ⟨cs,h2,h3⟩:=Option.bind_eq_some_iff.1 h1
   obtain ⟨x,h4,h5,h6,h7⟩:=hO _ _ _ h3
   exact⟨x,h4,cs,h2,h5,h6,h7⟩
  let xs:Fin len→α:=fun i=>Classical.choose (hall i)
  have hxs:∀ i,p (xs i)∧∃ cs,W.cells? 0 (a.add (i.1 * sz)) sz=some cs∧cs.length=sz∧Ones cs∧RdL κ0 W (cellsOf (e (xs i))) cs:=fun i=>Classical.choose_spec (hall i)
  refine⟨List.ofFn xs,⟨fun x hx=>?_,by simp;omega⟩,?_,E⟩
  ·obtain ⟨i,rfl⟩:=List.mem_ofFn.1 hx
   exact(hxs i).1
  ·simp only[Rd,RdD]
   by_cases hl:len=0
   ·subst hl
    exact .inl ⟨by simp,_,_,E⟩
   ·have hcell:∀ i:Fin len,∀ j,j<sz→∃ v,W.cell? ((a.add (i.1 * sz)).add j)=some v:=fun i j hj=>by
     obtain ⟨_,cs,h1,h2,_⟩:=hxs i
     have:=(W7 h1).2 j hj
     rw[List.getElem?_eq_getElem q_]at this
     exact⟨_,this⟩
    obtain ⟨b,off,spot⟩:=a
    have hspot:spot=none:=by
     obtain ⟨v,hv⟩:=hcell ⟨0,by omega⟩ 0 h0
     simpa [Addr.add] using World.cell?_spot hv
    subst hspot
    have hadd:∀ i j,((⟨b,off,none⟩:Addr).add i).add j=⟨b,off+i+j,none⟩:=fun i j=>by rw[Addr.add_lit,Addr.add_lit]
    refine .inr ⟨b,off,cap,by simp,by simpa using hlc,?_,?_,fun i hi=>?_⟩
    ·rintro (⟨k,hk⟩ | hk)
     ·cases hk
     ·exact hk
    ·obtain ⟨v,hv⟩:=hcell ⟨0,by omega⟩ 0 h0
     rw[hadd]at hv
     rcases Nat.lt_or_ge b W.heap.size with h | h
     ·exact h
     ·simp[World.cell?,Array.getElem?_eq_none h]at hv
    ·simp only[List.length_ofFn]at hi
     obtain ⟨_,cs,h1,h2,h3,h4⟩:=hxs ⟨i,hi⟩
     obtain ⟨u,g1,g2⟩:=Rd.of_cells (hb _) h3 h4
     refine⟨u,?_,?_,by rw[g2];exact h3,fun j hj=>?_⟩
     ·rw[List.getElem_ofFn]
      exact Rd.data _ _ (hd _) g1
     ·have:u.cells.toList.length=sz:=by rw[g2,h2]
      simpa using this
     ·have:=(W7 h1).2 j hj
      rw[hadd]at this
      rw[this,← g2]
      simp
end
end Go.Sy
namespace Go.Sy.YtjenpnjajjplkaaGreatDoor
open Go.Proofs Go.ChangeShapes Go.WideShapes Go.ChangeAt Go.RowKit
set_option maxRecDepth 100000
section
variable {H:Type} {enc:TypeId × Value→H} {W:World}
def wI (k:IntKind) (z:Int):Prop:=(Lit.int k z).wf=true
theorem Xo:Op1 enc Tryz.prog W 63 (fun l:List Int=>.sl 1 (fun z=>.val (.int .i64 z)) l) (fun l=>(∀ z∈l,wI .i64 z)∧l.length≤maxLen) :=
 Oj Tryz.underlying63 (by kernel_rfl:Tryz.prog.cellsOf 3=1) j_ (fun _=>rfl) (fun _=>rfl) (Ada Tryz.underlying3)
theorem Air:Op1 enc Tryz.prog W 64 (fun l:List Int=>.sl 1 (fun z=>.val (.int .u32 z)) l) (fun l=>(∀ z∈l,wI .u32 z)∧l.length≤maxLen) :=
 Oj Tryz.underlying64 (by kernel_rfl:Tryz.prog.cellsOf 62=1) j_ (fun _=>rfl) (fun _=>rfl) (Ada Tryz.underlying62)
def Device.In (x:Device):Prop:=wI .i64 x.row∧wI .i64 x.prio∧x.name.size≤maxLen∧wI .u64 x.mac∧wI .u32 x.vtep
def Port.In (x:Port):Prop:=wI .i64 x.row∧wI .i64 x.dev∧wI .i64 x.native∧wI .i64 x.cost∧wI .i64 x.link∧x.name.size≤maxLen∧((∀ z∈x.tagged,wI .i64 z)∧x.tagged.length≤maxLen)
def Link.In (x:Link):Prop:=wI .i64 x.row∧wI .i64 x.a∧wI .i64 x.b
def Domain.In (x:Domain):Prop:=wI .i64 x.dev∧wI .i64 x.vlan∧wI .i64 x.vni∧wI .i64 x.irb∧wI .i64 x.row∧((∀ z∈x.peers,wI .i64 z)∧x.peers.length≤maxLen)
def Static.In (x:Static):Prop:=wI .i64 x.row∧wI .i64 x.domain∧wI .i64 x.port∧wI .u64 x.mac
def Flood.In (x:Flood):Prop:=wI .i64 x.row∧wI .i64 x.dev∧wI .i64 x.vni∧((∀ z∈x.addrs,wI .u32 z)∧x.addrs.length≤maxLen)
def Vrf.In (x:Vrf):Prop:=wI .i64 x.row∧wI .i64 x.dev∧x.name.size≤maxLen∧((∀ z∈x.imports,wI .i64 z)∧x.imports.length≤maxLen)∧((∀ z∈x.exports,wI .i64 z)∧x.exports.length≤maxLen)
def Irb.In (x:Irb):Prop:=wI .i64 x.row∧wI .i64 x.domain∧wI .i64 x.vrf∧wI .u32 x.addr∧wI .i64 x.bits
structure Net.In (n:Net):Prop where
 devices:(∀ x∈n.devices,Device.In x)∧n.devices.length≤maxLen
 ports:(∀ x∈n.ports,Port.In x)∧n.ports.length≤maxLen
 links:(∀ x∈n.links,Link.In x)∧n.links.length≤maxLen
 domains:(∀ x∈n.domains,Domain.In x)∧n.domains.length≤maxLen
 statics:(∀ x∈n.statics,Static.In x)∧n.statics.length≤maxLen
 floods:(∀ x∈n.floods,Flood.In x)∧n.floods.length≤maxLen
 vrfs:(∀ x∈n.vrfs,Vrf.In x)∧n.vrfs.length≤maxLen
 irbs:(∀ x∈n.irbs,Irb.In x)∧n.irbs.length≤maxLen
theorem Za {t et:TypeId} {α:Type} {e:α→SV} {p:List α→Prop} {sz base:Nat} {v:Value} {d:DataW H} {ps:List MemPlace} (ht:Tryz.prog.underlying t=some (.slice et)) (hO:Op1 enc Tryz.prog W t (fun l:List α=>.sl sz e l) p)
  (hval:Value.okWide Tryz.prog W .any base t v) (h1:DataW.Trod enc Tryz.prog W 0 (fun _=>true) true t v d ps):∃ l,p l∧Rd κ0 W (.sl sz e l) v:=by
 obtain ⟨a,len,cap,rfl⟩:=okWide_slice ht hval
 obtain ⟨fuel,hf⟩:=h1
 obtain ⟨x,h1,h2,_⟩:=hO _ _ _ hf
 exact⟨x,h1,h2⟩
end
end Go.Sy.YtjenpnjajjplkaaGreatDoor
namespace Go.Sy.YtjenpnjajjplkaaGreatDoor
open Go.Proofs Go.ChangeShapes Go.WideShapes Go.ChangeAt Go.RowKit
set_option maxRecDepth 100000
section
variable {H:Type} {enc:TypeId × Value→H} {W:World}
def LineM.In (x:LineM):Prop:=wI .i64 x.row∧wI .i64 x.kind∧x.dev.size≤maxLen∧x.port.size≤maxLen∧x.peer.size≤maxLen∧x.far.size≤maxLen∧x.name.size≤maxLen∧wI .u64 x.mac∧wI .u32 x.addr∧wI .i64 x.bits∧wI .i64 x.vlan∧wI .i64 x.num∧wI .i64 x.cost∧((∀ z∈x.tagged,wI .i64 z)∧x.tagged.length≤maxLen)∧((∀ z∈x.imports,wI .i64 z)∧x.imports.length≤maxLen)∧((∀ z∈x.exports,wI .i64 z)∧x.exports.length≤maxLen)∧((∀ z∈x.addrs,wI .u32 z)∧x.addrs.length≤maxLen)
theorem Aen:OpN enc Tryz.prog W 66 Au LineM.In 17:=fun n cs y h=>by
 obtain ⟨xs,m,_,_,hlen,hx,hg⟩:=DataW.trod_struct Tryz.underlying66 h
 have hlen:cs.length=17:=hlen.trans (by kernel_rfl:Tryz.prog.cellsOf 66=17)
 have hx:xs.length=17:=hx
 match cs,hlen with
 | [c0,c1,c2,c3,c4,c5,c6,c7,c8,c9,c10,c11,c12,c13,c14,c15,c16],_ =>
  have g0:DataW.trod enc Tryz.prog W 0 (fun _=>true) true m 3 (([c0,c1,c2,c3,c4,c5,c6,c7,c8,c9,c10,c11,c12,c13,c14,c15,c16].drop 0).take (Tryz.prog.cellsOf 3))=xs[0]?:=hg 0 _ rfl
  rw[(by kernel_rfl:Tryz.prog.cellsOf 3=1),List.getElem?_eq_getElem q_]at g0
  obtain ⟨z0,p0,r0,o0⟩:=Kk Tryz.underlying3 _ _ _ g0
  have g1:DataW.trod enc Tryz.prog W 0 (fun _=>true) true m 3 (([c0,c1,c2,c3,c4,c5,c6,c7,c8,c9,c10,c11,c12,c13,c14,c15,c16].drop 1).take (Tryz.prog.cellsOf 3))=xs[1]?:=hg 1 _ rfl
  rw[(by kernel_rfl:Tryz.prog.cellsOf 3=1),List.getElem?_eq_getElem q_]at g1
  obtain ⟨z1,p1,r1,o1⟩:=Kk Tryz.underlying3 _ _ _ g1
  have g2:DataW.trod enc Tryz.prog W 0 (fun _=>true) true m 9 (([c0,c1,c2,c3,c4,c5,c6,c7,c8,c9,c10,c11,c12,c13,c14,c15,c16].drop 2).take (Tryz.prog.cellsOf 9))=xs[2]?:=hg 2 _ rfl
  rw[(by kernel_rfl:Tryz.prog.cellsOf 9=1),List.getElem?_eq_getElem q_]at g2
  obtain ⟨z2,p2,r2,o2⟩:=Ud Tryz.underlying9 _ _ _ g2
  have g3:DataW.trod enc Tryz.prog W 0 (fun _=>true) true m 9 (([c0,c1,c2,c3,c4,c5,c6,c7,c8,c9,c10,c11,c12,c13,c14,c15,c16].drop 3).take (Tryz.prog.cellsOf 9))=xs[3]?:=hg 3 _ rfl
  rw[(by kernel_rfl:Tryz.prog.cellsOf 9=1),List.getElem?_eq_getElem q_]at g3
  obtain ⟨z3,p3,r3,o3⟩:=Ud Tryz.underlying9 _ _ _ g3
  have g4:DataW.trod enc Tryz.prog W 0 (fun _=>true) true m 9 (([c0,c1,c2,c3,c4,c5,c6,c7,c8,c9,c10,c11,c12,c13,c14,c15,c16].drop 4).take (Tryz.prog.cellsOf 9))=xs[4]?:=hg 4 _ rfl
  rw[(by kernel_rfl:Tryz.prog.cellsOf 9=1),List.getElem?_eq_getElem q_]at g4
  obtain ⟨z4,p4,r4,o4⟩:=Ud Tryz.underlying9 _ _ _ g4
  have g5:DataW.trod enc Tryz.prog W 0 (fun _=>true) true m 9 (([c0,c1,c2,c3,c4,c5,c6,c7,c8,c9,c10,c11,c12,c13,c14,c15,c16].drop 5).take (Tryz.prog.cellsOf 9))=xs[5]?:=hg 5 _ rfl
  rw[(by kernel_rfl:Tryz.prog.cellsOf 9=1),List.getElem?_eq_getElem q_]at g5
  obtain ⟨z5,p5,r5,o5⟩:=Ud Tryz.underlying9 _ _ _ g5
  have g6:DataW.trod enc Tryz.prog W 0 (fun _=>true) true m 9 (([c0,c1,c2,c3,c4,c5,c6,c7,c8,c9,c10,c11,c12,c13,c14,c15,c16].drop 6).take (Tryz.prog.cellsOf 9))=xs[6]?:=hg 6 _ rfl
  rw[(by kernel_rfl:Tryz.prog.cellsOf 9=1),List.getElem?_eq_getElem q_]at g6
  obtain ⟨z6,p6,r6,o6⟩:=Ud Tryz.underlying9 _ _ _ g6
  have g7:DataW.trod enc Tryz.prog W 0 (fun _=>true) true m 61 (([c0,c1,c2,c3,c4,c5,c6,c7,c8,c9,c10,c11,c12,c13,c14,c15,c16].drop 7).take (Tryz.prog.cellsOf 61))=xs[7]?:=hg 7 _ rfl
  rw[(by kernel_rfl:Tryz.prog.cellsOf 61=1),List.getElem?_eq_getElem q_]at g7
  obtain ⟨z7,p7,r7,o7⟩:=Kk Tryz.underlying61 _ _ _ g7
  have g8:DataW.trod enc Tryz.prog W 0 (fun _=>true) true m 62 (([c0,c1,c2,c3,c4,c5,c6,c7,c8,c9,c10,c11,c12,c13,c14,c15,c16].drop 8).take (Tryz.prog.cellsOf 62))=xs[8]?:=hg 8 _ rfl
  rw[(by kernel_rfl:Tryz.prog.cellsOf 62=1),List.getElem?_eq_getElem q_]at g8
  obtain ⟨z8,p8,r8,o8⟩:=Kk Tryz.underlying62 _ _ _ g8
  have g9:DataW.trod enc Tryz.prog W 0 (fun _=>true) true m 3 (([c0,c1,c2,c3,c4,c5,c6,c7,c8,c9,c10,c11,c12,c13,c14,c15,c16].drop 9).take (Tryz.prog.cellsOf 3))=xs[9]?:=hg 9 _ rfl
  rw[(by kernel_rfl:Tryz.prog.cellsOf 3=1),List.getElem?_eq_getElem q_]at g9
  obtain ⟨z9,p9,r9,o9⟩:=Kk Tryz.underlying3 _ _ _ g9
  have g10:DataW.trod enc Tryz.prog W 0 (fun _=>true) true m 3 (([c0,c1,c2,c3,c4,c5,c6,c7,c8,c9,c10,c11,c12,c13,c14,c15,c16].drop 10).take (Tryz.prog.cellsOf 3))=xs[10]?:=hg 10 _ rfl
  rw[(by kernel_rfl:Tryz.prog.cellsOf 3=1),List.getElem?_eq_getElem q_]at g10
  obtain ⟨z10,p10,r10,o10⟩:=Kk Tryz.underlying3 _ _ _ g10
  have g11:DataW.trod enc Tryz.prog W 0 (fun _=>true) true m 3 (([c0,c1,c2,c3,c4,c5,c6,c7,c8,c9,c10,c11,c12,c13,c14,c15,c16].drop 11).take (Tryz.prog.cellsOf 3))=xs[11]?:=hg 11 _ rfl
  rw[(by kernel_rfl:Tryz.prog.cellsOf 3=1),List.getElem?_eq_getElem q_]at g11
  obtain ⟨z11,p11,r11,o11⟩:=Kk Tryz.underlying3 _ _ _ g11
  have g12:DataW.trod enc Tryz.prog W 0 (fun _=>true) true m 3 (([c0,c1,c2,c3,c4,c5,c6,c7,c8,c9,c10,c11,c12,c13,c14,c15,c16].drop 12).take (Tryz.prog.cellsOf 3))=xs[12]?:=hg 12 _ rfl
  rw[(by kernel_rfl:Tryz.prog.cellsOf 3=1),List.getElem?_eq_getElem q_]at g12
  obtain ⟨z12,p12,r12,o12⟩:=Kk Tryz.underlying3 _ _ _ g12
  have g13:DataW.trod enc Tryz.prog W 0 (fun _=>true) true m 63 (([c0,c1,c2,c3,c4,c5,c6,c7,c8,c9,c10,c11,c12,c13,c14,c15,c16].drop 13).take (Tryz.prog.cellsOf 63))=xs[13]?:=hg 13 _ rfl
  rw[(by kernel_rfl:Tryz.prog.cellsOf 63=1),List.getElem?_eq_getElem q_]at g13
  obtain ⟨z13,p13,r13,o13⟩:=Xo _ _ _ g13
  have g14:DataW.trod enc Tryz.prog W 0 (fun _=>true) true m 63 (([c0,c1,c2,c3,c4,c5,c6,c7,c8,c9,c10,c11,c12,c13,c14,c15,c16].drop 14).take (Tryz.prog.cellsOf 63))=xs[14]?:=hg 14 _ rfl
  rw[(by kernel_rfl:Tryz.prog.cellsOf 63=1),List.getElem?_eq_getElem q_]at g14
  obtain ⟨z14,p14,r14,o14⟩:=Xo _ _ _ g14
  have g15:DataW.trod enc Tryz.prog W 0 (fun _=>true) true m 63 (([c0,c1,c2,c3,c4,c5,c6,c7,c8,c9,c10,c11,c12,c13,c14,c15,c16].drop 15).take (Tryz.prog.cellsOf 63))=xs[15]?:=hg 15 _ rfl
  rw[(by kernel_rfl:Tryz.prog.cellsOf 63=1),List.getElem?_eq_getElem q_]at g15
  obtain ⟨z15,p15,r15,o15⟩:=Xo _ _ _ g15
  have g16:DataW.trod enc Tryz.prog W 0 (fun _=>true) true m 64 (([c0,c1,c2,c3,c4,c5,c6,c7,c8,c9,c10,c11,c12,c13,c14,c15,c16].drop 16).take (Tryz.prog.cellsOf 64))=xs[16]?:=hg 16 _ rfl
  rw[(by kernel_rfl:Tryz.prog.cellsOf 64=1),List.getElem?_eq_getElem q_]at g16
  obtain ⟨z16,p16,r16,o16⟩:=Air _ _ _ g16
  refine⟨⟨z0,z1,z2,z3,z4,z5,z6,z7,z8,z9,z10,z11,z12,z13,z14,z15,z16⟩,⟨p0,p1,p2,p3,p4,p5,p6,p7,p8,p9,p10,p11,p12,p13,p14,p15,p16⟩,E,fun c hc=>?_,?_⟩
  ·simp only[List.mem_cons,List.not_mem_nil,or_false]at hc
   rcases hc with rfl | rfl | rfl | rfl | rfl | rfl | rfl | rfl | rfl | rfl | rfl | rfl | rfl | rfl | rfl | rfl | rfl<;>assumption
  ·simp only[Au,cellsOf,RdL]
   exact⟨_,_,E,r0,_,_,E,r1,_,_,E,r2,_,_,E,r3,_,_,E,r4,_,_,E,r5,_,_,E,r6,_,_,E,r7,_,_,E,r8,_,_,E,r9,_,_,E,r10,_,_,E,r11,_,_,E,r12,_,_,E,r13,_,_,E,r14,_,_,E,r15,_,_,E,r16,E⟩
theorem Agf:Op1 enc Tryz.prog W 22 (fun l:List LineM=>.sl 17 Au l) (fun l=>(∀ x∈l,LineM.In x)∧l.length≤maxLen) :=
 Oj Tryz.underlying22 (by kernel_rfl:Tryz.prog.cellsOf 66=17) j_ (fun _=>rfl) (fun _=>rfl) Aen
end
end Go.Sy.YtjenpnjajjplkaaGreatDoor
namespace Go.Sy.YtjenpnjajjplkaaGreatDoor
open Go.Proofs
theorem Ai0 {l:LineM} (h:LineM.In l):LineOK l:=by
 obtain ⟨_,_,_,_,_,_,_,h8,h9,_,_,_,_,_,_,_,h17⟩:=h
 refine⟨?_,?_,fun x hx=>?_⟩
 ·simp only[wI,Lit.wf,decide_eq_true_eq,Bool.and_eq_true]at h8
  exact⟨h8.1,Int.lt_of_le_of_lt h8.2 j_⟩
 ·simp only[wI,Lit.wf,decide_eq_true_eq,Bool.and_eq_true]at h9
  exact⟨h9.1,Int.lt_of_le_of_lt h9.2 j_⟩
 ·have h1:=h17.1 x hx
  simp only[wI,Lit.wf,decide_eq_true_eq,Bool.and_eq_true]at h1
  exact⟨h1.1,Int.lt_of_le_of_lt h1.2 j_⟩
end Go.Sy.YtjenpnjajjplkaaGreatDoor
namespace Go.Sy.YtjenpnjajjplkaaGreatDoor
open Go.Proofs
attribute [local irreducible] Go.Sy.G Go.Sy.DR
set_option maxRecDepth 20000
set_option maxHeartbeats 8000000
def Io (c:Int→Int→Int) (l:List Int):Int:=if l=[] then -1 else Lr c l (l.length-1)
theorem Zm (c:Int→Int→Int) (l:List Int) (x:Int) (j:Nat) (h:j+1≤l.length):Lr c (l++[x]) j=Lr c l j:=by
 rw[Lr,Lr,List.drop_append_of_le_length q_,List.take_append_of_le_length (by simp;omega)]
 congr 1
 cases l with
 | nil=>simp at h
 | cons a l=>rfl
theorem Acp (c:Int→Int→Int) (l:List Int) (x:Int) (h:l≠[]):Io c (l++[x])=if 0<c x (Io c l) then x else Io c l:=by
 have hl:0<l.length:=List.length_pos_iff.2 h
 rw[Io,if_neg y_,Io,if_neg h]
 have e:(l++[x]).length-1=(l.length-1)+1:=by simp;omega
 rw[e,Qy c (l++[x]) (l.length-1) (by simp;omega),Zm c l x (l.length-1) q_]
 have e2:(l++[x])[l.length-1+1]'(by simp;omega)=x:=by
  have:l.length-1+1=l.length:=by omega
  simp[this]
 rw[e2]
theorem Aff (c:Int→Int→Int) (x:Int):Io c [x]=x:=by
 rw[Io,if_neg y_];rfl
theorem W9 (c:Int→Int→Int) (l:List Int) (h:l≠[]):Io c l∈l:=by
 have hl:0<l.length:=List.length_pos_iff.2 h
 rw[Io,if_neg h]
 exact Ko c l hl _ q_
theorem filtI_in {p:Nat→Bool} {j:Nat} {x:Int} (h:x∈Db p j):0≤x∧x<j:=by
 have:=filtI_mem.1 h
 omega
end Go.Sy.YtjenpnjajjplkaaGreatDoor
namespace Go.Sy.YtjenpnjajjplkaaGreatDoor
open Go.Proofs
attribute [local irreducible] Go.Sy.G Go.Sy.DR
set_option maxRecDepth 20000
set_option maxHeartbeats 4000000
abbrev Kc:ByteArray:=⟨#[108,105,110,107]⟩
abbrev tMesh:ByteArray:=⟨#[109,101,115,104]⟩
abbrev tRoute:ByteArray:=⟨#[114,111,117,116,101]⟩
def stepR (n:Net) (a:Int) (r:Bool) (rd:ByteArray→Int × Bool) (w:List ByteArray):Bool × Int × Bool :=
 if (nth w 0 == Kc)=true then ((linkR n a w).1,(linkR n a w).2,r)
 else if (nth w 0 == tMesh)=true then ((meshR n a w).1,(meshR n a w).2,r)
 else if (nth w 0 == tRoute)=true then routeR n a r w rd
 else (false,a,r)
theorem Yb (n:Net) (hn:n.Fin) (hnm:Hc n) (hb:Ac n=true) (a:Int) (r:Bool) (row:ByteArray) (rd:ByteArray→Int × Bool) (hrow:row.size<100000) (ha:0≤a∧a.toNat<n.domains.length)
  (hrd:∀ s∈An 32 row,Sy.Spec Tryz.prog 237 [Ak s] [] (.tup [A5 (rd s).1,Ab (rd s).2]) []) :
  Sy.Spec Tryz.prog 97 [.ptr 0 0,Ak row] [(0,.box (Di n a r))] (Ab (stepR n a r rd (An 32 row)).1) [(0,.box (Di n (stepR n a r rd (An 32 row)).2.1 (stepR n a r rd (An 32 row)).2.2))]:=cT F97 Tryz.ntmps97 fun F hF=>by
 have q:=Abj row 32 hrow
 have hlen:=Ds 32 row
 have hcl:Ha 32 row≤row.size:=List.count_le_length
 generalize An 32 row=w at *
 have hw:Ag w:=by unfold Ag;omega
 have q1:=Yd n hn hnm hb a r w hw ha
 have q2:=Yc n hn hnm hb a r w hw ha
 have q3:=V8 n hn hnm hb a r w rd hw ha hrd
 have hlk:=stepR.eq_1 n a r rd w
 generalize stepR n a r rd w=res at *
 generalize linkR n a w=r1 at *
 generalize meshR n a w=r2 at *
 generalize routeR n a r w rd=r3 at *
 have hl0:(0:Int).toNat<w.length:=by simp;omega
 rw[Ad hl0]at hlk
 obtain ⟨w0,hw0⟩:∃ w0,w[(0:Int).toNat]'hl0=w0:=⟨_,rfl⟩
 rw[hw0]at hlk
 ((conv=>whnf);repeat((first|refine aF ?_|refine aT ?_);(first|refine rG Γ hm ?_|refine rD Γ hm z_ ?_);conv=>whnf))
 refine c0 q F92 ?_
 ((first|refine rG Γ hm ?_|refine rD Γ hm z_ ?_);(conv=>whnf);repeat((first|refine aF ?_|refine aT ?_);(first|refine rG Γ hm ?_|refine rD Γ hm z_ ?_);conv=>whnf))
 refine⟨E,by decide,hl0,?_⟩
 rw[hw0]
 ((conv=>whnf);repeat((first|refine aF ?_|refine aT ?_);(first|refine rG Γ hm ?_|refine rD Γ hm z_ ?_);conv=>whnf))
 refine⟨fun h=>?_,fun h=>?_⟩
 ·rw[if_pos h]at hlk
  subst hlk
  ((first|refine rG Γ hm ?_|refine rD Γ hm z_ ?_);(conv=>whnf);repeat((first|refine aF ?_|refine aT ?_);(first|refine rG Γ hm ?_|refine rD Γ hm z_ ?_);conv=>whnf))
  refine A2 (B9 [] (Cg E E F189) q1 E ⟨E,Y⟩ E ⟨.inl E,Y⟩) E E ?_
  ((first|refine rG Γ hm ?_|refine rD Γ hm z_ ?_);(conv=>whnf);repeat((first|refine aF ?_|refine aT ?_);(first|refine rG Γ hm ?_|refine rD Γ hm z_ ?_);conv=>whnf))
  exact done E (.cons .tmp .nil) [] [(0,.box (Di n r1.2 r))] (fun _ h=>h) E E ⟨Y,⟨.inl E,E,Y⟩,E,E⟩
 have n0:¬ (w0 == Kc)=true:=by rw[h];simp
 rw[if_neg n0]at hlk
 ((first|refine rG Γ hm ?_|refine rD Γ hm z_ ?_);(conv=>whnf);repeat((first|refine aF ?_|refine aT ?_);(first|refine rG Γ hm ?_|refine rD Γ hm z_ ?_);conv=>whnf))
 refine⟨fun h=>?_,fun h=>?_⟩
 ·rw[if_pos h]at hlk
  subst hlk
  ((first|refine rG Γ hm ?_|refine rD Γ hm z_ ?_);(conv=>whnf);repeat((first|refine aF ?_|refine aT ?_);(first|refine rG Γ hm ?_|refine rD Γ hm z_ ?_);conv=>whnf))
  refine A2 (B9 [] (Cg E E F190) q2 E ⟨E,Y⟩ E ⟨.inl E,Y⟩) E E ?_
  ((first|refine rG Γ hm ?_|refine rD Γ hm z_ ?_);(conv=>whnf);repeat((first|refine aF ?_|refine aT ?_);(first|refine rG Γ hm ?_|refine rD Γ hm z_ ?_);conv=>whnf))
  exact done E (.cons .tmp .nil) [] [(0,.box (Di n r2.2 r))] (fun _ h=>h) E E ⟨Y,⟨.inl E,E,Y⟩,E,E⟩
 have n1:¬ (w0 == tMesh)=true:=by rw[h];simp
 rw[if_neg n1]at hlk
 ((first|refine rG Γ hm ?_|refine rD Γ hm z_ ?_);(conv=>whnf);repeat((first|refine aF ?_|refine aT ?_);(first|refine rG Γ hm ?_|refine rD Γ hm z_ ?_);conv=>whnf))
 refine⟨fun h=>?_,fun h=>?_⟩
 ·rw[if_pos h]at hlk
  subst hlk
  ((first|refine rG Γ hm ?_|refine rD Γ hm z_ ?_);(conv=>whnf);repeat((first|refine aF ?_|refine aT ?_);(first|refine rG Γ hm ?_|refine rD Γ hm z_ ?_);conv=>whnf))
  refine A2 (B9 [] (Cg E E F188) q3 E ⟨E,Y⟩ E ⟨.inl E,Y⟩) E E ?_
  ((first|refine rG Γ hm ?_|refine rD Γ hm z_ ?_);(conv=>whnf);repeat((first|refine aF ?_|refine aT ?_);(first|refine rG Γ hm ?_|refine rD Γ hm z_ ?_);conv=>whnf))
  exact done E (.cons .tmp .nil) [] [(0,.box (Di n res.2.1 res.2.2))] (fun _ h=>h) E E ⟨Y,⟨.inl E,E,Y⟩,E,E⟩
 have n2:¬ (w0 == tRoute)=true:=by rw[h];simp
 rw[if_neg n2]at hlk
 subst hlk
 ((first|refine rG Γ hm ?_|refine rD Γ hm z_ ?_);(conv=>whnf);repeat((first|refine aF ?_|refine aT ?_);(first|refine rG Γ hm ?_|refine rD Γ hm z_ ?_);conv=>whnf))
 exact done E (.cons .tmp .nil) [] [(0,.box (Di n a r))] (fun _ h=>h) E E ⟨Y,⟨.inl E,E,Y⟩,E,E⟩
end Go.Sy.YtjenpnjajjplkaaGreatDoor
namespace Go.Sy.YtjenpnjajjplkaaGreatDoor
open Go.Proofs
abbrev Et (n:Net) (a:Int):Prop:=0≤a∧a.toNat<n.domains.length
theorem Il {n:Net} {s:ByteArray} (h:¬ Al n s<0):Et n (Al n s):=by
 have:=S5 n s
 exact⟨by omega,by omega⟩
theorem Ag2 {n:Net} {a:Int} {w:List ByteArray} (ha:Et n a):Et n (linkR n a w).2:=by
 unfold linkR
 split
 ·exact ha
 split
 ·exact ha
 ·rename_i h
  exact Il (fun e=>h (.inr (.inr (.inl e))))
theorem Agt {n:Net} {a:Int} {w:List ByteArray} (ha:Et n a):Et n (meshR n a w).2:=by
 unfold meshR
 split
 ·exact ha
 split
 ·exact ha
 ·rename_i h
  exact Il (fun e=>h (.inl e))
theorem Aeh {n:Net} {a:Int} {r:Bool} {w:List ByteArray} {rd:ByteArray→Int × Bool} (ha:Et n a):Et n (routeR n a r w rd).2.1:=by
 unfold routeR
 split
 ·exact ha
 split
 ·exact ha
 ·rename_i h
  exact Il (fun e=>h (.inr (.inl e)))
theorem Afz {n:Net} {a:Int} {r:Bool} {rd:ByteArray→Int × Bool} {w:List ByteArray} (ha:Et n a):Et n (stepR n a r rd w).2.1:=by
 unfold stepR
 split
 ·exact Ag2 ha
 split
 ·exact Agt ha
 split
 ·exact Aeh ha
 ·exact ha
def goR (n:Net) (rd:ByteArray→Int × Bool):List ByteArray→Bool × Int × Bool→Bool × Int × Bool
 | [],s=>s
 | x::l,s=>if s.1=true then goR n rd l (stepR n s.2.1 s.2.2 rd (An 32 x)) else s
theorem O2 (n:Net) (rd:ByteArray→Int × Bool):∀ (l:List ByteArray) (x:ByteArray) (s:Bool × Int × Bool),(goR n rd l s).1=true→goR n rd (l++[x]) s=stepR n (goR n rd l s).2.1 (goR n rd l s).2.2 rd (An 32 x)
 | [],x,s,h=>by
  have h':s.1=true:=h
  simp only[List.nil_append,goR,if_pos h']
 | y::l,x,s,h=>by
  by_cases hs:s.1=true
  ·simp only[List.cons_append,goR,if_pos hs]at h ⊢
   exact O2 n rd l x _ h
  ·simp only[goR,if_neg hs]at h
   exact absurd h hs
theorem Ahk (n:Net) (rd:ByteArray→Int × Bool):∀ (l:List ByteArray) (s:Bool × Int × Bool),Et n s.2.1→Et n (goR n rd l s).2.1
 | [],_,h=>h
 | x::l,s,h=>by
  rw[goR]
  split
  ·exact Ahk n rd l _ (Afz h)
  ·exact h
end Go.Sy.YtjenpnjajjplkaaGreatDoor
namespace Go.Sy.YtjenpnjajjplkaaGreatDoor
open Go.Proofs
attribute [local irreducible] Go.Sy.G Go.Sy.DR
set_option maxRecDepth 20000
set_option maxHeartbeats 4000000
abbrev tFrom:ByteArray:=⟨#[102,114,111,109]⟩
abbrev tTo:ByteArray:=⟨#[116,111]⟩
def Ie (n:Net) (f l:List ByteArray):Bool :=
 decide (f.length=3) && (nth f 0 == tFrom) && decide (l.length=2) && (nth l 0 == tTo) &&
  I7 n (Bo n (nth f 1)) && I7 n (Bo n (nth l 1)) && decide (0≤Al n (nth f 2)) && !(Bo n (nth f 1) == Bo n (nth l 1)) && inB (Ao n (Al n (nth f 2))) (Bo n (nth f 1))
def checkR (n:Net) (rd:ByteArray→Int × Bool) (rows:List ByteArray):Int × Int × Bool :=
 if 2≤rows.length∧Ac n=true∧Ie n (An 32 (nth rows 0)) (An 32 (nth rows (rows.length-1:Nat)))=true ∧
   (goR n rd ((rows.take (rows.length-1)).drop 1) (true,Al n (nth (An 32 (nth rows 0)) 2),false)).1=true ∧
   inB (Ao n (goR n rd ((rows.take (rows.length-1)).drop 1) (true,Al n (nth (An 32 (nth rows 0)) 2),false)).2.1) (Bo n (nth (An 32 (nth rows (rows.length-1:Nat))) 1))=true
 then (Bo n (nth (An 32 (nth rows 0)) 1),Bo n (nth (An 32 (nth rows (rows.length-1:Nat))) 1),true) else (0,0,false)
structure Hop where
 (kind port domain addr:Int)
abbrev B7 (h:Hop):SV:=.agg [Aa h.kind,Aa h.port,Aa h.domain,A5 h.addr]
instance:Inhabited Hop:=⟨⟨0,0,0,0⟩⟩
def S6 (n:Net) (d:Int):Prop:=(0≤d∧d<n.domains.length)∧Ac n=true
instance (n:Net) (d:Int):Decidable (S6 n d):=inferInstanceAs (Decidable (_∧_))
theorem Y9 (n:Net) (hn:n.Fin) (d:Int):Sy.Spec Tryz.prog 265 [Ae n,Aa d] [] (Ab (decide (S6 n d))) []:=cT F265 Tryz.ntmps265 fun F hF=>by
 have hr:=Aw n hn
 ((conv=>whnf);repeat((first|refine aF ?_|refine aT ?_);(first|refine rG Γ hm ?_|refine rD Γ hm z_ ?_);conv=>whnf))
 refine⟨fun h=>?_,fun h=>?_⟩
 ·have h1:0≤d:=of_decide_eq_true h
  refine A1 2 8 (Ae n) E E E ?_
  ((first|refine rG Γ hm ?_|refine rD Γ hm z_ ?_);(conv=>whnf);repeat((first|refine aF ?_|refine aT ?_);(first|refine rG Γ hm ?_|refine rD Γ hm z_ ?_);conv=>whnf))
  refine⟨fun h=>?_,fun h=>?_⟩
  ·have h2:d<n.domains.length:=of_decide_eq_true h
   ((first|refine rG Γ hm ?_|refine rD Γ hm z_ ?_);(conv=>whnf);repeat((first|refine aF ?_|refine aT ?_);(first|refine rG Γ hm ?_|refine rD Γ hm z_ ?_);conv=>whnf))
   refine c0 hr F25 ?_
   ((first|refine rG Γ hm ?_|refine rD Γ hm z_ ?_);(conv=>whnf);repeat((first|refine aF ?_|refine aT ?_);(first|refine rG Γ hm ?_|refine rD Γ hm z_ ?_);conv=>whnf))
   refine At E (.cons .tmp .nil) (congrArg Ab ?_) E
   cases hb:Ac n<;>simp[S6,h1,h2,hb]
  ·have h2:¬ d<n.domains.length:=of_decide_eq_false h
   ((first|refine rG Γ hm ?_|refine rD Γ hm z_ ?_);(conv=>whnf);repeat((first|refine aF ?_|refine aT ?_);(first|refine rG Γ hm ?_|refine rD Γ hm z_ ?_);conv=>whnf))
   refine At E (.cons .tmp .nil) (congrArg Ab ?_) E
   simp[S6,h2]
 ·have h1:¬ 0≤d:=of_decide_eq_false h
  ((first|refine rG Γ hm ?_|refine rD Γ hm z_ ?_);(conv=>whnf);repeat((first|refine aF ?_|refine aT ?_);(first|refine rG Γ hm ?_|refine rD Γ hm z_ ?_);conv=>whnf))
  refine At E (.cons .tmp .nil) (congrArg Ab ?_) E
  simp[S6,h1]
def linkHop (n:Net) (d p:Int):Option Hop:=if (linkDomT n p (nth n.domains d).vlan).2=true then some ⟨1,p,(linkDomT n p (nth n.domains d).vlan).1,0⟩ else none
def Hq (p:Int):Hop:=⟨2,0,p,0⟩
def hopsL (n:Net) (d:Int):List Hop:=(Ao n d).filterMap (linkHop n d)++(nth n.domains d).peers.map Hq
def Cv (n:Net) (d:Int):List Hop:=if S6 n d then hopsL n d else []
theorem Xs {n:Net} {d:Int} {l:List Int} {j:Nat} {p:Int} (h:j<l.length) (hp:l[j]=p):(l.take (j+1)).filterMap (linkHop n d) =
  (l.take j).filterMap (linkHop n d)++(match linkHop n d p with | some h=>[h] | none=>[]):=by
 subst hp
 rw[List.take_add_one,List.getElem?_eq_getElem h,List.filterMap_append]
 cases hh:linkHop n d l[j]<;>simp[hh]
theorem Abq (n:Net) (hn:n.Fin) (d:Int):Sy.Spec Tryz.prog 193 [Ae n,Aa d] [] (.sl 4 B7 (Cv n d)) []:=cT F193 Tryz.ntmps193 fun F hF=>by
 have hp:=Y9 n hn d
 have hm2:=Is n hn d
 have hms:=D8 n hn d
 unfold Ag at hms
 ((conv=>whnf);repeat((first|refine aF ?_|refine aT ?_);(first|refine rG Γ hm ?_|refine rD Γ hm z_ ?_);conv=>whnf))
 refine A1 2 8 (Ae n) E E E ?_
 ((first|refine rG Γ hm ?_|refine rD Γ hm z_ ?_);(conv=>whnf);repeat((first|refine aF ?_|refine aT ?_);(first|refine rG Γ hm ?_|refine rD Γ hm z_ ?_);conv=>whnf))
 refine c0 hp F265 ?_
 by_cases hd:S6 n d
 rotate_left
 ·rw[Cv,if_neg hd,decide_eq_false hd]
  ((first|refine rG Γ hm ?_|refine rD Γ hm z_ ?_);(conv=>whnf);repeat((first|refine aF ?_|refine aT ?_);(first|refine rG Γ hm ?_|refine rD Γ hm z_ ?_);conv=>whnf))
  refine Ci 4 4 B7 E ?_
  ((first|refine rG Γ hm ?_|refine rD Γ hm z_ ?_);(conv=>whnf);repeat((first|refine aF ?_|refine aT ?_);(first|refine rG Γ hm ?_|refine rD Γ hm z_ ?_);conv=>whnf))
  exact dN
 rw[Cv,if_pos hd,decide_eq_true hd]
 have hk:d.toNat<n.domains.length:=by have:=hd.1;omega
 have h0:0≤d:=hd.1.1
 have hpe:=hn.peers _ (List.getElem_mem hk)
 unfold Ag at hpe
 have hh:=hopsL.eq_1 n d
 have hlh:=linkHop.eq_1 n d
 have hsn:=fun j p h hp=>Xs (n:=n) (d:=d) (l:=Ao n d) (j:=j) (p:=p) h hp
 have hfl:∀ j,((Ao n d).take j |>.filterMap (linkHop n d)).length≤(Ao n d).length:=fun j=>by
  refine Nat.le_trans (List.length_filterMap_le _ _) ?_
  rw[List.length_take];omega
 have hall:(Ao n d).take (Ao n d).length=Ao n d:=List.take_length
 rw[Ad hk]at hh hlh
 obtain ⟨x,hx⟩:∃ x,n.domains[d.toNat]'hk=x:=⟨_,rfl⟩
 rw[hx]at hh hlh hpe
 generalize hopsL n d=res at *
 generalize Ao n d=mem at *
 ((first|refine rG Γ hm ?_|refine rD Γ hm z_ ?_);(conv=>whnf);repeat((first|refine aF ?_|refine aT ?_);(first|refine rG Γ hm ?_|refine rD Γ hm z_ ?_);conv=>whnf))
 refine c0 hm2 F101 ?_
 ((first|refine rG Γ hm ?_|refine rD Γ hm z_ ?_);(conv=>whnf);repeat((first|refine aF ?_|refine aT ?_);(first|refine rG Γ hm ?_|refine rD Γ hm z_ ?_);conv=>whnf))
 refine Cq 5 1000 4 B7 E E ?_
 refine By mem.length (fun j=>[(1,Aa d),(2,.ref 8 (Ae n) 0),(5,.osl 1000),(18,.sl 1 Aa mem),(19,Aa mem.length),(20,Aa j)]) (fun j=>[(1000,.row 4 B7 ((mem.take j).filterMap (linkHop n d)))]) []
  ⟨⟨rfl,rfl,rfl,rfl,rfl,rfl,rfl,rfl,rfl,rfl,rfl,rfl,trivial⟩,⟨.inl rfl,rfl,trivial⟩,rfl,rfl⟩ ?_
 intro j hj
 have hflj:=hfl j
 ((first|refine rG Γ hm ?_|refine rD Γ hm z_ ?_);(conv=>whnf);repeat((first|refine aF ?_|refine aT ?_);(first|refine rG Γ hm ?_|refine rD Γ hm z_ ?_);conv=>whnf))
 refine⟨fun h=>?_,fun h=>?_⟩
 ·have hlt:j<mem.length:=by simpa using h
  have hj0:((j:Nat):Int).toNat<mem.length:=by simpa using hlt
  obtain ⟨p,hp'⟩:∃ p,mem[((j:Nat):Int).toNat]'hj0=p:=⟨_,rfl⟩
  have hs:=hsn j p hlt hp'
  have q:=Jj n hn p x.vlan
  rw[hlh p]at hs
  generalize linkDomT n p x.vlan=ld at *
  obtain ⟨to,ok⟩:=ld
  ((first|refine rG Γ hm ?_|refine rD Γ hm z_ ?_);(conv=>whnf);repeat((first|refine aF ?_|refine aT ?_);(first|refine rG Γ hm ?_|refine rD Γ hm z_ ?_);conv=>whnf))
  refine⟨E,by omega,hj0,?_⟩
  rw[hp']
  ((conv=>whnf);repeat((first|refine aF ?_|refine aT ?_);(first|refine rG Γ hm ?_|refine rD Γ hm z_ ?_);conv=>whnf))
  refine⟨E,h0,hk,?_⟩
  rw[hx]
  ((conv=>whnf);repeat((first|refine aF ?_|refine aT ?_);(first|refine rG Γ hm ?_|refine rD Γ hm z_ ?_);conv=>whnf))
  refine cD q F167 ?_
  ((first|refine rG Γ hm ?_|refine rD Γ hm z_ ?_);(conv=>whnf);repeat((first|refine aF ?_|refine aT ?_);(first|refine rG Γ hm ?_|refine rD Γ hm z_ ?_);conv=>whnf))
  refine⟨z_,?_⟩
  ((conv=>whnf);repeat((first|refine aF ?_|refine aT ?_);(first|refine rG Γ hm ?_|refine rD Γ hm z_ ?_);conv=>whnf))
  dsimp only at hs
  refine⟨fun h=>?_,fun h=>?_⟩<;>(have h:ok=_:=h;subst h)
  ·((first|refine rG Γ hm ?_|refine rD Γ hm z_ ?_);(conv=>whnf);repeat((first|refine aF ?_|refine aT ?_);(first|refine rG Γ hm ?_|refine rD Γ hm z_ ?_);conv=>whnf))
   refine A2 (Ai Γ.toTy 42 E E E E E (.row E) (.lit (e:=B7) (l:=[⟨1,p,to,0⟩]) E E) y_ (by simp;omega) (by simp;omega)) E E ?_
   ((first|refine rG Γ hm ?_|refine rD Γ hm z_ ?_);(conv=>whnf);repeat((first|refine aF ?_|refine aT ?_);(first|refine rG Γ hm ?_|refine rD Γ hm z_ ?_);conv=>whnf))
   refine iL ?_
   ((conv=>whnf);repeat((first|refine aF ?_|refine aT ?_);(first|refine rG Γ hm ?_|refine rD Γ hm z_ ?_);conv=>whnf))
   exact Bs [(1000,42)] hlt ⟨⟨E,E,E,E,E,E,E,E,E,E,E,E,Y⟩,⟨.inl (congrArg (Ob.row 4 B7) hs),E,Y⟩,E,E⟩
  ·((first|refine rG Γ hm ?_|refine rD Γ hm z_ ?_);(conv=>whnf);repeat((first|refine aF ?_|refine aT ?_);(first|refine rG Γ hm ?_|refine rD Γ hm z_ ?_);conv=>whnf))
   refine iL ?_
   ((conv=>whnf);repeat((first|refine aF ?_|refine aT ?_);(first|refine rG Γ hm ?_|refine rD Γ hm z_ ?_);conv=>whnf))
   exact Bs [] hlt ⟨⟨E,E,E,E,E,E,E,E,E,E,E,E,Y⟩,⟨.inl (congrArg (Ob.row 4 B7) (hs.trans (List.append_nil _))),E,Y⟩,E,E⟩
 ·have:j=mem.length:=qB h
  subst this
  rw[hall]at hflj ⊢
  generalize mem.filterMap (linkHop n d)=first at *
  ((first|refine rG Γ hm ?_|refine rD Γ hm z_ ?_);(conv=>whnf);repeat((first|refine aF ?_|refine aT ?_);(first|refine rG Γ hm ?_|refine rD Γ hm z_ ?_);conv=>whnf))
  refine⟨E,h0,hk,?_⟩
  rw[hx]
  ((conv=>whnf);repeat((first|refine aF ?_|refine aT ?_);(first|refine rG Γ hm ?_|refine rD Γ hm z_ ?_);conv=>whnf))
  refine By x.peers.length (fun j=>[(5,.osl 1000),(49,.sl 1 Aa x.peers),(50,Aa x.peers.length),(51,Aa j)]) (fun j=>[(1000,.row 4 B7 (first++(x.peers.take j).map Hq))]) []
   ⟨⟨rfl,rfl,rfl,rfl,rfl,rfl,rfl,rfl,trivial⟩,⟨.inl (congrArg (Ob.row 4 B7) (List.append_nil _)),rfl,trivial⟩,rfl,rfl⟩ ?_
  intro j hj
  ((first|refine rG Γ hm ?_|refine rD Γ hm z_ ?_);(conv=>whnf);repeat((first|refine aF ?_|refine aT ?_);(first|refine rG Γ hm ?_|refine rD Γ hm z_ ?_);conv=>whnf))
  refine⟨fun h=>?_,fun h=>?_⟩
  ·have hlt:j<x.peers.length:=by simpa using h
   have hj0:((j:Nat):Int).toNat<x.peers.length:=by simpa using hlt
   obtain ⟨p,hp'⟩:∃ p,x.peers[((j:Nat):Int).toNat]'hj0=p:=⟨_,rfl⟩
   have hs:(first++(x.peers.take j).map Hq)++[⟨2,0,p,0⟩]=first++(x.peers.take (j+1)).map Hq:=by
    rw[List.take_add_one,List.getElem?_eq_getElem hlt,List.map_append,List.append_assoc]
    congr 2
    simp only[Option.toList,List.map_cons,List.map_nil,Hq]
    congr 2
    exact hp'.symm
   ((first|refine rG Γ hm ?_|refine rD Γ hm z_ ?_);(conv=>whnf);repeat((first|refine aF ?_|refine aT ?_);(first|refine rG Γ hm ?_|refine rD Γ hm z_ ?_);conv=>whnf))
   refine⟨E,by omega,hj0,?_⟩
   rw[hp']
   ((conv=>whnf);repeat((first|refine aF ?_|refine aT ?_);(first|refine rG Γ hm ?_|refine rD Γ hm z_ ?_);conv=>whnf))
   refine A2 (Ai Γ.toTy 59 E E E E E (.row E) (.lit (e:=B7) (l:=[⟨2,0,p,0⟩]) E E) y_ (by simp;omega) (by simp;omega)) E E ?_
   ((first|refine rG Γ hm ?_|refine rD Γ hm z_ ?_);(conv=>whnf);repeat((first|refine aF ?_|refine aT ?_);(first|refine rG Γ hm ?_|refine rD Γ hm z_ ?_);conv=>whnf))
   refine iL ?_
   ((conv=>whnf);repeat((first|refine aF ?_|refine aT ?_);(first|refine rG Γ hm ?_|refine rD Γ hm z_ ?_);conv=>whnf))
   exact Bs [(1000,59)] hlt ⟨⟨E,E,E,E,E,E,E,E,Y⟩,⟨.inl (congrArg (Ob.row 4 B7) hs.symm),E,Y⟩,E,E⟩
  ·have:j=x.peers.length:=qB h
   subst this
   ((first|refine rG Γ hm ?_|refine rD Γ hm z_ ?_);(conv=>whnf);repeat((first|refine aF ?_|refine aT ?_);(first|refine rG Γ hm ?_|refine rD Γ hm z_ ?_);conv=>whnf))
   refine Ah 1000 E ?_
   ((first|refine rG Γ hm ?_|refine rD Γ hm z_ ?_);(conv=>whnf);repeat((first|refine aF ?_|refine aT ?_);(first|refine rG Γ hm ?_|refine rD Γ hm z_ ?_);conv=>whnf))
   refine At E (.cons .tmp .nil) ?_ E
   rw[hh,List.take_length]
   rfl
end Go.Sy.YtjenpnjajjplkaaGreatDoor
