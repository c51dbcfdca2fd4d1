/-
  I17 I18 I12 I13 I14 I19 Sy30 Sy31 Sy32 Sy33 I32 I33 I34 I35 I27 I28 Sy34 Sy35 Sy36 Sy37 Sy38 Sy39 Sy40 I29 I30 I36 I39: parts of a proof, joined by program.
-/
import Derived.Test.YtjenpnjajjplkaaGreatDoorXK4
import Derived.Test.YtjenpnjajjplkaaGreatDoorXK3
import Derived.Laws.LoneSync
import Derived.Test.YtjenpnjajjplkaaGreatDoorXK2
import Derived.Defers
import Derived.Tactics
import Derived.Tactics2
import Derived.Laws.Pointers
import Derived.RegionTactic
import Derived.RegionCalls
set_option linter.all false
set_option linter.unusedVariables false
set_option linter.unusedSimpArgs false
set_option linter.deprecated false
namespace Go.Sy.YtjenpnjajjplkaaGreatDoor
open Go.Proofs
attribute [local irreducible] Go.Sy.G Go.Sy.DR
set_option maxRecDepth 100000
set_option maxHeartbeats 4000000
def Hq (one:ByteArray→Int × Bool) (out:List Int) (s:ByteArray) (b:Bool):List Int × Bool:=if b=true then Dn one out (Bj 44 s) else (out,true)
theorem Ac2 {c:UInt8}:∀ {l:List UInt8},0≤Lib.indexByte l c→c∈l
 | [],h=>by simp[Lib.indexByte]at h
 | b::l,h=>by
  unfold Lib.indexByte at h
  by_cases hb:(b == c)=true
  ·simp at hb;simp[hb]
  ·rw[if_neg hb]at h
   by_cases h1:(Lib.indexByte l c == -1)=true
   ·rw[if_pos h1]at h;omega
   ·rw[if_neg h1]at h
    have:=Ef l c
    have h2:Lib.indexByte l c≠-1:=by simpa using h1
    exact List.mem_cons_of_mem _ (Ac2 q_)
theorem Q5 (one:ByteArray→Int × Bool) (out:List Int) (s:ByteArray) :
  Hq one out s true=(if (one (cutT 44 s).1).2=false∨out.length=16∨(∃ x,out.getLast? = some x∧(one (cutT 44 s).1).1≤x) then ([],false) else Hq one (out++[(one (cutT 44 s).1).1]) (cutT 44 s).2.1 (cutT 44 s).2.2):=by
 rw[Hq,if_pos rfl,Tl]
 have hsz:s.data.toList.length=s.size:=rfl
 have tk:∀ i,s.extract 0 i=mkT (s.data.toList.take i):=fun i=>by rw[← Ec s,Ck,Ed];simp
 by_cases h:0≤Lib.indexByte s.data.toList 44
 ·have hm:=Ac2 h
  have e2:s.extract (Ez 44 s.data.toList+1) s.size=mkT (s.data.toList.drop (Ez 44 s.data.toList+1)):=by
   have:=Ck s.data.toList (Ez 44 s.data.toList+1) s.size
   rw[Ec]at this
   rw[this,← hsz,List.take_length]
  rw[cutT,if_pos h,Iy 44 _ _ hm,List.nil_append,Dn,tk,e2]
  dsimp only
  rw[Hq,if_pos rfl,Tl,Ed]
 ·have hm:(44:UInt8)∉s.data.toList:=fun hh=>h (D5 hh).1
  rw[cutT,if_neg h,Iz 44 _ _ hm,List.nil_append,Ec,Dn]
  simp only[Hq,if_neg (show ¬ (false=true) by simp),Dn]
theorem T7 (s:ByteArray):(cutT 44 s).1.size≤s.size∧(cutT 44 s).2.1.size≤s.size∧((cutT 44 s).2.2=true→(cutT 44 s).2.1.size<s.size):=by
 have hsz:s.data.toList.length=s.size:=rfl
 have hlt:=I8 s.data.toList 44
 have ex:∀ i j,(s.extract i j).size=((s.data.toList.take j).drop i).length:=fun i j=>by
  have:=Ck s.data.toList i j
  rw[Ec]at this
  rw[this,Dk]
 rw[cutT]
 split
 ·rename_i h
  refine⟨?_,?_,fun _=>?_⟩
  ·rw[ex,List.length_drop,List.length_take];omega
  ·rw[ex,List.length_drop,List.length_take];omega
  ·rw[ex,List.length_drop,List.length_take]
   have:Ez 44 s.data.toList+1≤s.data.toList.length:=by unfold Ez;omega
   omega
 ·exact⟨Nat.le_refl _,Nat.zero_le _,fun e=>by cases e⟩
theorem Wc (one:ByteArray→Int × Bool) (f:FuncId) (first cap:List SV) (hc:(SV.clo (.func f) first cap).inn []=true) (hr:∀ ρ:Nat→Nat,(SV.clo (.func f) first cap).ren ρ=.clo (.func f) first cap) (s0:ByteArray) (hs:s0.size≤10000) (hf:∀ p:ByteArray,p.size≤s0.size→Hc Tryz.prog f (first++[Ah p]++cap) (.tup [Aa (one p).1,Ab (one p).2])) :
  Sy.Spec Tryz.prog 368 [Ah s0,.clo (.func f) first cap] [] (.tup [.sl 1 Aa (Db one s0).1,Ab (Db one s0).2]) []:=cT F368 Tryz.ntmps368 fun F hF=>by
 have hres:Db one s0=Hq one [] s0 true:=rfl
 generalize Db one s0=res at *
 have hc':(SV.clo (.func f) first cap).inn [1000]=true:=O7 _ hc
 have hin:∀ y:SV,y.inn []=true→Bs [] (first++[y]++cap)=true:=fun y hy=>by
  simp only[SV.inn,Bool.and_eq_true]at hc
  rw[Dl,Dl,hc.1,hc.2]
  simp[Bs,hy]
 refine T ?_
 refine C3 6 1000 1 Aa E E ?_
 refine T ?_
 refine B3 (fun x:ByteArray × Bool × List Int=>res=Hq one x.2.2 x.1 x.2.1∧x.1.size≤s0.size∧x.2.2.length≤16) (fun x=>[(0,Ah x.1),(1,.clo (.func f) first cap),(6,.osl 1000),(7,Ab x.2.1)]) (fun x=>[(1000,.row 1 Aa x.2.2)]) (fun x=>if x.2.1=true then x.1.size+1 else 0) (s0,true,[]) [] ⟨hres,Nat.le_refl _,by simp⟩ ⟨⟨E,E,Be _,hc',E,E,E,E,Y⟩,⟨.inl E,E,Y⟩,E,E⟩ ?_
 rintro ⟨s,b,out⟩ ⟨hI,hsz,hout⟩
 dsimp only at hI hsz hout ⊢
 cases b with
 | false =>
  rw[Hq,if_neg y_]at hI
  subst hI
  refine T ?_
  refine Ag 1000 E ?_
  refine T ?_
  exact D
 | true =>
  have q1:=O4 s 44 q_
  have hsm:=T7 s
  rw[Q5]at hI
  generalize cutT 44 s=ct at *
  obtain ⟨p,r,m⟩:=ct
  dsimp only at hI hsm q1
  have q2:=hf p q_
  generalize one p=op at *
  obtain ⟨v,ok⟩:=op
  dsimp only at hI q2
  refine T ?_
  refine C q1 F119 ?_
  refine E5 q2 E E E (by simp only[hin (Ah p) E];rfl) E E ?_
  cases ok with
  | false =>
   rw[if_pos (.inl rfl)]at hI
   subst hI
   refine T ?_
   refine De 4 1 Aa E ?_
   refine T ?_
   exact D
  | true =>
   by_cases c1:out.length=16
   ·rw[if_pos (.inr (.inl c1))]at hI
    subst hI
    refine T ?_
    refine De 4 1 Aa E ?_
    refine T ?_
    exact D
   ·by_cases c2:out.length=0
    ·have hn:out=[]:=List.eq_nil_of_length_eq_zero c2
     rw[if_neg (by rw[hn];simp)]at hI
     refine T ?_
     refine X (Ak Γ.toTy 49 E E E E E (.row E) (.lit (e:=Aa) (l:=[v]) E E) y_ (by simp;omega) (by simp;omega)) ?_
     refine Az (r,m,out++[v]) [(1000,49)] ⟨hI,by dsimp only;omega,by simp;omega⟩ (by
      have h3:=hsm.2.2
      cases m
      ·simp
      ·have:=h3 rfl;simp;omega) ⟨⟨rfl,rfl,hr _,hc',rfl,rfl,rfl,rfl,trivial⟩,⟨.inl rfl,rfl,trivial⟩,rfl,rfl⟩
    ·have hk:((out.length:Int)-1).toNat<out.length:=by omega
     have hlast:out.getLast? = some (out[((out.length:Int)-1).toNat]'hk):=by
      rw[List.getLast?_eq_getElem?,List.getElem?_eq_getElem q_]
      congr 1
      have:out.length-1=((out.length:Int)-1).toNat:=by omega
      simp only[this]
     have f2:decide ((out.length:Int)>0)=true:=decide_eq_true q_
     by_cases c3:v≤out[((out.length:Int)-1).toNat]'hk
     ·have f3:decide (out[((out.length:Int)-1).toNat]'hk≥v)=true:=decide_eq_true c3
      rw[if_pos (.inr (.inr ⟨_,hlast,c3⟩))]at hI
      subst hI
      refine T ?_
      refine De 4 1 Aa E ?_
      refine T ?_
      exact D
     ·have f3:decide (out[((out.length:Int)-1).toNat]'hk≥v)=false:=decide_eq_false c3
      rw[if_neg (by
       rintro (hh | hh | ⟨x,hx,hh⟩)
       ·cases hh
       ·exact c1 hh
       ·rw[hlast]at hx
        simp only[Option.some.injEq]at hx
        rw[← hx]at hh
        exact c3 hh)]at hI
      refine T ?_
      refine X (Ak Γ.toTy 49 E E E E E (.row E) (.lit (e:=Aa) (l:=[v]) E E) y_ (by simp;omega) (by simp;omega)) ?_
      refine Az (r,m,out++[v]) [(1000,49)] ⟨hI,by dsimp only;omega,by simp;omega⟩ (by
      have h3:=hsm.2.2
      cases m
      ·simp
      ·have:=h3 rfl;simp;omega) ⟨⟨rfl,rfl,hr _,hc',rfl,rfl,rfl,rfl,trivial⟩,⟨.inl rfl,rfl,trivial⟩,rfl,rfl⟩
theorem Wa (one:ByteArray→Int × Bool) (f:FuncId) (first cap:List SV) (hc:(SV.clo (.func f) first cap).inn []=true) (hr:∀ ρ:Nat→Nat,(SV.clo (.func f) first cap).ren ρ=.clo (.func f) first cap) (s0:ByteArray) (hs:s0.size≤10000) (hf:∀ p:ByteArray,p.size≤s0.size→Hc Tryz.prog f (first++[Ah p]++cap) (.tup [A9 (one p).1,Ab (one p).2])) :
  Sy.Spec Tryz.prog 305 [Ah s0,.clo (.func f) first cap] [] (.tup [.sl 1 A9 (Db one s0).1,Ab (Db one s0).2]) []:=cT F305 Tryz.ntmps305 fun F hF=>by
 have hres:Db one s0=Hq one [] s0 true:=rfl
 generalize Db one s0=res at *
 have hc':(SV.clo (.func f) first cap).inn [1000]=true:=O7 _ hc
 have hin:∀ y:SV,y.inn []=true→Bs [] (first++[y]++cap)=true:=fun y hy=>by
  simp only[SV.inn,Bool.and_eq_true]at hc
  rw[Dl,Dl,hc.1,hc.2]
  simp[Bs,hy]
 refine T ?_
 refine C3 6 1000 1 A9 E E ?_
 refine T ?_
 refine B3 (fun x:ByteArray × Bool × List Int=>res=Hq one x.2.2 x.1 x.2.1∧x.1.size≤s0.size∧x.2.2.length≤16) (fun x=>[(0,Ah x.1),(1,.clo (.func f) first cap),(6,.osl 1000),(7,Ab x.2.1)]) (fun x=>[(1000,.row 1 A9 x.2.2)]) (fun x=>if x.2.1=true then x.1.size+1 else 0) (s0,true,[]) [] ⟨hres,Nat.le_refl _,by simp⟩ ⟨⟨E,E,Be _,hc',E,E,E,E,Y⟩,⟨.inl E,E,Y⟩,E,E⟩ ?_
 rintro ⟨s,b,out⟩ ⟨hI,hsz,hout⟩
 dsimp only at hI hsz hout ⊢
 cases b with
 | false =>
  rw[Hq,if_neg y_]at hI
  subst hI
  refine T ?_
  refine Ag 1000 E ?_
  refine T ?_
  exact D
 | true =>
  have q1:=O4 s 44 q_
  have hsm:=T7 s
  rw[Q5]at hI
  generalize cutT 44 s=ct at *
  obtain ⟨p,r,m⟩:=ct
  dsimp only at hI hsm q1
  have q2:=hf p q_
  generalize one p=op at *
  obtain ⟨v,ok⟩:=op
  dsimp only at hI q2
  refine T ?_
  refine C q1 F119 ?_
  refine E5 q2 E E E (by simp only[hin (Ah p) E];rfl) E E ?_
  cases ok with
  | false =>
   rw[if_pos (.inl rfl)]at hI
   subst hI
   refine T ?_
   refine De 4 1 A9 E ?_
   refine T ?_
   exact D
  | true =>
   by_cases c1:out.length=16
   ·rw[if_pos (.inr (.inl c1))]at hI
    subst hI
    refine T ?_
    refine De 4 1 A9 E ?_
    refine T ?_
    exact D
   ·by_cases c2:out.length=0
    ·have hn:out=[]:=List.eq_nil_of_length_eq_zero c2
     rw[if_neg (by rw[hn];simp)]at hI
     refine T ?_
     refine X (Ak Γ.toTy 49 E E E E E (.row E) (.lit (e:=A9) (l:=[v]) E E) y_ (by simp;omega) (by simp;omega)) ?_
     refine Az (r,m,out++[v]) [(1000,49)] ⟨hI,by dsimp only;omega,by simp;omega⟩ (by
      have h3:=hsm.2.2
      cases m
      ·simp
      ·have:=h3 rfl;simp;omega) ⟨⟨rfl,rfl,hr _,hc',rfl,rfl,rfl,rfl,trivial⟩,⟨.inl rfl,rfl,trivial⟩,rfl,rfl⟩
    ·have hk:((out.length:Int)-1).toNat<out.length:=by omega
     have hlast:out.getLast? = some (out[((out.length:Int)-1).toNat]'hk):=by
      rw[List.getLast?_eq_getElem?,List.getElem?_eq_getElem q_]
      congr 1
      have:out.length-1=((out.length:Int)-1).toNat:=by omega
      simp only[this]
     have f2:decide ((out.length:Int)>0)=true:=decide_eq_true q_
     by_cases c3:v≤out[((out.length:Int)-1).toNat]'hk
     ·have f3:decide (out[((out.length:Int)-1).toNat]'hk≥v)=true:=decide_eq_true c3
      rw[if_pos (.inr (.inr ⟨_,hlast,c3⟩))]at hI
      subst hI
      refine T ?_
      refine De 4 1 A9 E ?_
      refine T ?_
      exact D
     ·have f3:decide (out[((out.length:Int)-1).toNat]'hk≥v)=false:=decide_eq_false c3
      rw[if_neg (by
       rintro (hh | hh | ⟨x,hx,hh⟩)
       ·cases hh
       ·exact c1 hh
       ·rw[hlast]at hx
        simp only[Option.some.injEq]at hx
        rw[← hx]at hh
        exact c3 hh)]at hI
      refine T ?_
      refine X (Ak Γ.toTy 49 E E E E E (.row E) (.lit (e:=A9) (l:=[v]) E E) y_ (by simp;omega) (by simp;omega)) ?_
      refine Az (r,m,out++[v]) [(1000,49)] ⟨hI,by dsimp only;omega,by simp;omega⟩ (by
      have h3:=hsm.2.2
      cases m
      ·simp
      ·have:=h3 rfl;simp;omega) ⟨⟨rfl,rfl,hr _,hc',rfl,rfl,rfl,rfl,trivial⟩,⟨.inl rfl,rfl,trivial⟩,rfl,rfl⟩
theorem Ut (p:ByteArray) (lo hi:Int):Sy.Spec Tryz.prog 369 [Ah p,.ref 1 (Aa lo) 0,.ref 1 (Aa hi) 0] [] (.tup [Aa (numR p lo hi).1,Ab (numR p lo hi).2]) []:=cT F369 Tryz.ntmps369 fun F hF=>by
 have q:=Wb p lo hi
 generalize numR p lo hi=r at *
 refine T ?_
 refine C q F124 ?_
 exact D
theorem Us (s:ByteArray) (hi:Int) (hs:s.size≤10000):Sy.Spec Tryz.prog 306 [Ah s,Aa 1,Aa hi] [] (.tup [.sl 1 Aa (Db (fun p=>numR p 1 hi) s).1,Ab (Db (fun p=>numR p 1 hi) s).2]) []:=cT F306 Tryz.ntmps306 fun F hF=>by
 have q:=Wc (fun p=>numR p 1 hi) 369 [] [.ref 1 (Aa 1) 0,.ref 1 (Aa hi) 0] rfl (fun _=>rfl) s hs (fun p _=>⟨⟨_,_,F369⟩,Ut p 1 hi⟩)
 generalize Db (fun p=>numR p 1 hi) s=r at *
 refine T ?_
 refine Bg 4 1 (Aa 1) E E E ?_
 refine Bg 5 1 (Aa hi) E E E ?_
 refine T ?_
 refine C q F368 ?_
 exact D
theorem S2 (s:ByteArray) (hs:s.size≤10000):Sy.Spec Tryz.prog 240 [Ah s] [] (.tup [.sl 1 A9 (Ca s).1,Ab (Ca s).2]) []:=cT F240 Tryz.ntmps240 fun F hF=>by
 have q:=Wa B6 237 [] [] rfl (fun _=>rfl) s hs (fun p hp=>⟨⟨_,_,F237⟩,M1 p q_⟩)
 unfold Ca
 generalize Db B6 s=r at *
 refine T ?_
 refine C q F305 ?_
 exact D
theorem Xe (s:ByteArray) (hs:s.size≤10000):Sy.Spec Tryz.prog 242 [Ah s] [] (.tup [Ho (prefixR s).1.1 (prefixR s).1.2,Ab (prefixR s).2]) []:=cT F242 Tryz.ntmps242 fun F hF=>by
 have q1:=O4 s 47 q_
 have hres:=prefixR.eq_1 s
 have hsm:(cutT 47 s).1.size≤s.size:=by
  rw[cutT]
  split
  ·have:=Ck s.data.toList 0 (Ez 47 s.data.toList)
   rw[Ec]at this
   rw[this,Dk,List.length_drop,List.length_take]
   have:s.data.toList.length=s.size:=rfl
   omega
  ·exact Nat.le_refl _
 generalize cutT 47 s=ct at *
 obtain ⟨p,r,m⟩:=ct
 dsimp only at hres hsm q1
 have q2:=M1 p q_
 have q3:=Sq r 32
 generalize prefixR s=res at *
 generalize B6 p=a at *
 generalize smallT r 32=b at *
 obtain ⟨av,ao⟩:=a
 obtain ⟨bv,bo⟩:=b
 dsimp only at hres q2 q3
 cases m<;>cases ao<;>cases bo
 all_goals (simp at hres;subst hres)
 all_goals (refine T ?_;refine C q1 F119 ?_;refine C q2 F237 ?_;refine C q3 F304 ?_;exact D)
abbrev rdO (w:List ByteArray) (i:Nat) (e:Int):Obs:=[(0,.box [.sl 1 Ah w,Aa i,Aa e])]
theorem B8 {w:List ByteArray} {i:Nat} (h:i<w.length):wdT w i=w[i]:=by rw[wdT,List.getElem?_eq_getElem h];rfl
theorem H5 (w:List ByteArray) (i:Nat) (e:Int) (hi:i<w.length) (hw:w.length≤1000000):Sy.Spec Tryz.prog 238 [.ptr 0 0] (rdO w i e) (Ah (wdT w i)) (rdO w (i+1) e):=cT F238 Tryz.ntmps238 fun F hF=>by
 have hk:((i:Int)+1-1).toNat<w.length:=by omega
 have hx:wdT w i=w[((i:Int)+1-1).toNat]'hk:=by
  rw[B8 hi]
  have:((i:Int)+1-1).toNat=i:=by omega
  simp only[this]
 rw[hx]
 refine T ?_
 exact done E (.cons .tmp .nil) [] (rdO w (i+1) e) (fun _ h=>h) E E U
theorem D1 (w:List ByteArray) (i:Nat) (e:Int) (b:Bool) (c:Int):Sy.Spec Tryz.prog 235 [.ptr 0 0,Ab b,Aa c] (rdO w i e) (.tup []) (rdO w i (Ad e b c)):=cT F235 Tryz.ntmps235 fun F hF=>by
 cases b with
 | false =>
  have hf:Ad e false c=e:=by rw[Ad,if_neg y_]
  rw[hf]
  refine T ?_
  exact Cb E .nil [] (rdO w i e) (fun _ h=>h) E E U
 | true =>
  by_cases h:e=0
  ·have hf:Ad e true c=c:=by rw[Ad,if_pos ⟨rfl,h⟩]
   rw[hf]
   subst h
   refine T ?_
   exact Cb E .nil [] (rdO w i c) (fun _ h=>h) E E U
  ·have hf:Ad e true c=e:=by rw[Ad,if_neg (fun x=>h x.2)]
   rw[hf]
   have hb:(e == 0)=false:=by simpa using h
   refine T ?_
   exact Cb E .nil [] (rdO w i e) (fun _ h=>h) E E U
theorem Cr (w:List ByteArray) (i:Nat) (e:Int) (hi:i<w.length) (hw:w.length≤1000000) (hs:∀ s∈w,s.size≤40):Sy.Spec Tryz.prog 231 [.ptr 0 0] (rdO w i e) (Ah (wdT w i)) (rdO w (i+1) (Ad e (!(Ap (wdT w i))) 20)):=cT F231 Tryz.ntmps231 fun F hF=>by
 have hwd:(wdT w i).size≤40:=by rw[B8 hi];exact hs _ (List.getElem_mem hi)
 have q1:=H5 w i e hi hw
 have q2:=Ea (wdT w i) q_
 have q3:=D1 w (i+1) e (!(Ap (wdT w i))) 20
 generalize Ap (wdT w i)=nb at *
 generalize wdT w i=x at *
 refine T ?_
 refine X (Ac [] E F238 q1 E W E V) ?_
 refine C q2 F299 ?_
 refine X (Ac [] E F235 q3 E W E V) ?_
 exact done E (.cons .tmp .nil) [] (rdO w (i+1) (Ad e (!nb) 20)) (fun _ h=>h) E E U
theorem Ke (w:List ByteArray) (i:Nat) (e lo hi_:Int) (hi:i<w.length) (hw:w.length≤1000000):Sy.Spec Tryz.prog 233 [.ptr 0 0,Aa lo,Aa hi_] (rdO w i e) (Aa (numR (wdT w i) lo hi_).1) (rdO w (i+1) (Ad e (!(numR (wdT w i) lo hi_).2) 21)):=cT F233 Tryz.ntmps233 fun F hF=>by
 have q1:=H5 w i e hi hw
 have q2:=Wb (wdT w i) lo hi_
 generalize numR (wdT w i) lo hi_=r at *
 have q3:=D1 w (i+1) e (!r.2) 21
 generalize wdT w i=x at *
 refine T ?_
 refine X (Ac [] E F238 q1 E W E V) ?_
 refine C q2 F124 ?_
 refine X (Ac [] E F235 q3 E W E V) ?_
 exact done E (.cons .tmp .nil) [] (rdO w (i+1) (Ad e (!r.2) 21)) (fun _ h=>h) E E U
theorem Ls (w:List ByteArray) (i:Nat) (e:Int) (hi:i<w.length) (hw:w.length≤1000000):Sy.Spec Tryz.prog 232 [.ptr 0 0] (rdO w i e) (Aa (Bl (wdT w i)).1) (rdO w (i+1) (Ad e (!(Bl (wdT w i)).2) 21)):=cT F232 Tryz.ntmps232 fun F hF=>by
 have q:=Ke w i e 1 4094 hi hw
 unfold Bl
 generalize numR (wdT w i) 1 4094=r at *
 refine T ?_
 refine X (Ac [] E F233 q E W E V) ?_
 exact done E (.cons .tmp .nil) [] (rdO w (i+1) (Ad e (!r.2) 21)) (fun _ h=>h) E E U
theorem Ab7 (w:List ByteArray) (i:Nat) (e:Int) (hi:i<w.length) (hw:w.length≤1000000):Sy.Spec Tryz.prog 239 [.ptr 0 0] (rdO w i e) (Aa (Iu (wdT w i)).1) (rdO w (i+1) (Ad e (!(Iu (wdT w i)).2) 21)):=cT F239 Tryz.ntmps239 fun F hF=>by
 have q:=Ke w i e 1 16777215 hi hw
 unfold Iu
 generalize numR (wdT w i) 1 16777215=r at *
 refine T ?_
 refine X (Ac [] E F233 q E W E V) ?_
 exact done E (.cons .tmp .nil) [] (rdO w (i+1) (Ad e (!r.2) 21)) (fun _ h=>h) E E U
theorem Abe (e c:Int):Ad e false c=e:=by rw[Ad,if_neg y_]
theorem O5 (w:List ByteArray) (i:Nat) (e most:Int) (hi:i<w.length) (hw:w.length≤1000000) (hs:∀ s∈w,s.size≤40):Sy.Spec Tryz.prog 241 [.ptr 0 0,Aa most] (rdO w i e) (.sl 1 Aa (listR most (wdT w i)).1) (rdO w (i+1) (Ad e (!(listR most (wdT w i)).2) 21)):=cT F241 Tryz.ntmps241 fun F hF=>by
 have hwd:(wdT w i).size≤40:=by rw[B8 hi];exact hs _ (List.getElem_mem hi)
 have q1:=H5 w i e hi hw
 have q2:=Us (wdT w i) most q_
 have hres:=listR.eq_1 most (wdT w i)
 generalize listR most (wdT w i)=res at *
 by_cases hd:wdT w i=Aes
 ·rw[if_pos hd]at hres
  subst hres
  have hb:(wdT w i == (⟨#[45]⟩:ByteArray))=true:=(Ew _ _).2 hd
  rw[show (!(([]:List Int),true).2)=false from rfl,Abe]
  refine T ?_
  refine X (Ac [] E F238 q1 E W E V) ?_
  refine De 4 1 Aa E ?_
  refine T ?_
  exact done E (.cons .tmp .nil) [] (rdO w (i+1) e) (fun _ h=>h) E E U
 ·rw[if_neg hd]at hres
  have hb:(wdT w i == (⟨#[45]⟩:ByteArray))=false:=by
   cases hx:(wdT w i == (⟨#[45]⟩:ByteArray))
   ·rfl
   ·exact absurd ((Ew _ _).1 hx) hd
  rw[← hres]at q2
  have q3:=D1 w (i+1) e (!res.2) 21
  clear hres
  refine T ?_
  refine X (Ac [] E F238 q1 E W E V) ?_
  refine C q2 F306 ?_
  refine X (Ac [] E F235 q3 E W E V) ?_
  exact done E (.cons .tmp .nil) [] (rdO w (i+1) (Ad e (!res.2) 21)) (fun _ h=>h) E E U
theorem Yr (s:ByteArray):∃ m:Nat,(macR s).1=m∧m<281474976710656:=by
 rw[macR]
 split
 ·rename_i h
  have:=Lc (s:=s) (j:=6) (fun i hi=>by have:=h.2;rw[List.all_eq_true]at this;exact this i (List.mem_range.2 hi))
  refine⟨(Kq s 6).toNat,?_,?_⟩
  ·rw[Int.toNat_of_nonneg this.1]
  ·have h2:Kq s 6<281474976710656:=this.2
   omega
 ·exact⟨0,E,by decide⟩
def macE (s:ByteArray):Bool:=!((macR s).2 && statB (macR s).1)
theorem Ab8 (w:List ByteArray) (i:Nat) (e:Int) (hi:i<w.length) (hw:w.length≤1000000) (hs:∀ s∈w,s.size≤40):Sy.Spec Tryz.prog 234 [.ptr 0 0] (rdO w i e) (Dv (macR (wdT w i)).1) (rdO w (i+1) (Ad e (macE (wdT w i)) 21)):=cT F234 Tryz.ntmps234 fun F hF=>by
 have hwd:(wdT w i).size≤40:=by rw[B8 hi];exact hs _ (List.getElem_mem hi)
 have q1:=H5 w i e hi hw
 have q2:=Acu (wdT w i) q_
 obtain ⟨m,hm1,hm2⟩:=Yr (wdT w i)
 have q4:=Qh m q_
 have hres:=macE.eq_1 (wdT w i)
 rw[hm1]at hres
 generalize macE (wdT w i)=be at *
 have q3:=D1 w (i+1) e be 21
 generalize macR (wdT w i)=r at *
 obtain ⟨rv,rb⟩:=r
 dsimp only at hm1
 subst hm1
 generalize statB (m:Int)=sb at *
 cases rb with
 | false =>
  simp at hres
  subst hres
  refine T ?_
  refine X (Ac [] E F238 q1 E W E V) ?_
  refine C q2 F300 ?_
  refine X (Ac [] E F235 q3 E W E V) ?_
  exact done E (.cons .tmp .nil) [] (rdO w (i+1) (Ad e true 21)) (fun _ h=>h) E E U
 | true =>
  simp at hres
  subst hres
  refine T ?_
  refine X (Ac [] E F238 q1 E W E V) ?_
  refine C q2 F300 ?_
  refine C q4 F301 ?_
  refine X (Ac [] E F235 q3 E W E V) ?_
  exact done E (.cons .tmp .nil) [] (rdO w (i+1) (Ad e (!sb) 21)) (fun _ h=>h) E E U
end Go.Sy.YtjenpnjajjplkaaGreatDoor
namespace Go.Sy.YtjenpnjajjplkaaGreatDoor
open Go.Proofs
theorem Zr {s:ByteArray} {lo hi v:Int} (h:numR s lo hi=(v,true)):lo≤v∧v≤hi:=by
 unfold numR at h
 repeat' split at h
 all_goals first | (simp at h;done) | (simp only[Prod.mk.injEq,and_true]at h;omega)
theorem Di {s:ByteArray} {lo hi:Int} (h:(numR s lo hi).2=true):lo≤(numR s lo hi).1∧(numR s lo hi).1≤hi:=Zr (v:=(numR s lo hi).1) (by rw[← h])
def Zi (l:List Int):Prop:=l.Pairwise (·<·)
theorem Il (one:ByteArray→Int × Bool):∀ (ps:List ByteArray) (out r:List Int),Dn one out ps=(r,true)→Zi out→out.length≤16 →
  Zi r∧r.length≤16∧r.length=out.length+ps.length∧∀ x∈r,x∈out∨∃ p∈ps,one p=(x,true)
 | [],out,r,h,h1,h2=>by
  rw[Dn]at h
  simp only[Prod.mk.injEq,and_true]at h
  subst h
  exact⟨h1,h2,by simp,fun x hx=>.inl hx⟩
 | p::ps,out,r,h,h1,h2=>by
  rw[Dn]at h
  split at h
  ·simp at h
  ·rename_i hn
   simp only[not_or]at hn
   obtain ⟨n1,n2,n3⟩:=hn
   have hr:Zi (out++[(one p).1]):=by
    refine List.pairwise_append.2 ⟨h1,List.pairwise_singleton _ _,fun y hy z hz=>?_⟩
    simp only[List.mem_singleton]at hz
    subst hz
    cases hl:out.getLast? with
    | none=>rw[List.getLast?_eq_none_iff]at hl;subst hl;cases hy
    | some w =>
     have hlt:¬ (one p).1≤w:=fun hh=>n3 ⟨w,hl,hh⟩
     obtain ⟨c,rfl⟩:∃ c,out=c++[w]:=by
      have hne:out≠[]:=fun e=>by rw[e]at hy;cases hy
      refine⟨out.dropLast,?_⟩
      have:=List.dropLast_concat_getLast hne
      rw[List.getLast?_eq_some_getLast hne]at hl
      simp only[Option.some.injEq]at hl
      rw[← hl];exact this.symm
     rcases List.mem_append.1 hy with hy | hy
     ·have:=(List.pairwise_append.1 h1).2.2 y hy w y_
      omega
     ·simp only[List.mem_singleton]at hy
      omega
   obtain ⟨a,b,c,d⟩:=Il one ps _ r h hr (by rw[List.length_append];simp;omega)
   refine⟨a,b,by rw[c];simp;omega,fun x hx=>?_⟩
   rcases d x hx with hx | ⟨q,hq,e⟩
   ·rcases List.mem_append.1 hx with hx | hx
    ·exact .inl hx
    ·simp only[List.mem_singleton]at hx
     refine .inr ⟨p,by simp,?_⟩
     rw[hx]
     have:(one p).2=true:=by simpa using n1
     rw[← this]
   ·exact .inr ⟨q,by simp[hq],e⟩
theorem Tn {l:List Int} (h:∀ i (hi:i+1<l.length),l[i]<l[i+1]):Zi l:=by
 unfold Zi
 rw[List.pairwise_iff_getElem]
 intro i j hi hj hij
 induction j with
 | zero=>omega
 | succ j ih =>
  by_cases e:i=j
  ·subst e;exact h i hj
  ·have:=ih q_ q_
   have:=h j hj
   omega
theorem K4:∀ (l:List (Bool × Int)),(∀ x∈l,x.2≠0)→Ay l=0→∀ x∈l,x.1=false
 | [],_,_,x,hx=>by cases hx
 | (b,e)::l,h,h0,x,hx=>by
  rw[Ay]at h0
  cases b with
  | true=>rw[if_pos rfl]at h0;exact absurd h0 (h (true,e) y_)
  | false =>
   rw[if_neg y_]at h0
   rcases List.mem_cons.1 hx with hx | hx
   ·rw[hx]
   ·exact K4 l (fun y hy=>h y (by simp[hy])) h0 x hx
theorem rising_iff {l:List Int} {lo hi:Int}:D0 l lo hi=true↔Zi l∧(∀ x∈l,lo≤x∧x≤hi)∧0<l.length∧l.length≤16:=by
 have hg:∀ i (h:i<l.length),nth l (i:Int)=l[i]:=fun i h=>A7 (i:=(i:Int)) h
 rw[D0,Bool.and_eq_true,Bool.and_eq_true,decide_eq_true_eq,decide_eq_true_eq,allB_iff]
 constructor
 ·rintro ⟨⟨h1,h2⟩,h⟩
  refine⟨Tn fun i hi=>?_,fun x hx=>?_,h1,h2⟩
  ·have:=h (i+1) hi
   simp only[Ku,Bool.and_eq_true,Bool.or_eq_true,decide_eq_true_eq,beq_iff_eq]at this
   rw[show (((i+1:Nat):Int)-1)=(i:Int) by omega,hg i q_]at this
   omega
  ·obtain ⟨i,hi,rfl⟩:=List.mem_iff_getElem.1 hx
   have:=h i hi
   simp only[Ku,Bool.and_eq_true,decide_eq_true_eq]at this
   exact this.1
 ·rintro ⟨h,h1,h2⟩
  refine⟨h2,fun i hi=>?_⟩
  have hx:=h1 _ (List.getElem_mem hi)
  simp only[Ku,Bool.and_eq_true,Bool.or_eq_true,decide_eq_true_eq,beq_iff_eq]
  refine⟨hx,?_⟩
  by_cases h0:i=0
  ·exact .inl h0
  ·right
   rw[show ((i:Int)-1)=((i-1:Nat):Int) by omega,hg (i-1) q_]
   exact List.pairwise_iff_getElem.1 h (i-1) i q_ hi q_
theorem listOK_iff {l:List Int} {hi:Int}:Ch l hi=true↔l=[]∨D0 l 1 hi=true:=by
 rw[Ch,Jo,Bool.or_eq_true,decide_eq_true_eq,List.length_eq_zero_iff]
theorem Abo {l:List Int} (hn:∀ x∈l,0≤x):Ej l=true↔Zi l∧(∀ x∈l,x≠0)∧0<l.length∧l.length≤16:=by
 have hg:∀ i (h:i<l.length),l.getD i 0=l[i]:=fun i h=>by rw[List.getD_eq_getElem?_getD,List.getElem?_eq_getElem h];rfl
 rw[Ej,Bool.and_eq_true,Bool.and_eq_true,decide_eq_true_eq,decide_eq_true_eq,List.all_eq_true]
 constructor
 ·rintro ⟨h,h1,h2⟩
  refine⟨Tn fun i hi=>?_,fun x hx=>?_,h1,h2⟩
  ·have:=h (i+1) (List.mem_range.2 hi)
   rw[Nat.add_sub_cancel,hg _ hi,hg i q_]at this
   simp only[Bool.and_eq_true,Bool.or_eq_true,decide_eq_true_eq,beq_iff_eq]at this
   omega
  ·obtain ⟨i,hi,rfl⟩:=List.mem_iff_getElem.1 hx
   have:=h i (List.mem_range.2 hi)
   rw[hg i hi]at this
   simp only[Bool.and_eq_true,decide_eq_true_eq]at this
   exact this.1
 ·rintro ⟨h,h1,h2⟩
  refine⟨fun i hi=>?_,h2⟩
  have hi:=List.mem_range.1 hi
  have hx:=h1 _ (List.getElem_mem hi)
  rw[hg i hi]
  simp only[Bool.and_eq_true,Bool.or_eq_true,decide_eq_true_eq,beq_iff_eq]
  refine⟨hx,?_⟩
  by_cases h0:i=0
  ·exact .inl h0
  ·right
   rw[hg (i-1) q_]
   exact List.pairwise_iff_getElem.1 h (i-1) i q_ hi q_
theorem Aef {s:ByteArray} {hi:Int} {l:List Int} (h:listR hi s=(l,true)):Ch l hi=true:=by
 rw[listR]at h
 split at h
 ·simp only[Prod.mk.injEq,and_true]at h
  subst h;rfl
 ·rw[Db]at h
  obtain ⟨a,b,c,d⟩:=Il _ _ _ _ h List.Pairwise.nil j_
  refine listOK_iff.2 (.inr (rising_iff.2 ⟨a,fun x hx=>?_,?_,b⟩))
  ·rcases d x hx with hx | ⟨p,_,hp⟩
   ·cases hx
   ·exact Zr hp
  ·rw[c,Es];simp
theorem E6 (s:ByteArray):0≤(B6 s).1:=by
 rw[B6]
 split
 ·dsimp only
  generalize Bj 46 s=l
  cases hl:l.reverse with
  | nil =>
   have:l=[]:=by simpa using hl
   subst this;exact Int.le_refl _
  | cons x r =>
   have:l=r.reverse++[x]:=by
    have:=congrArg List.reverse hl
    simpa using this
   rw[this,Lg]
   show 0≤IntKind.u32.wrap _
   rw[IntKind.wrap_u32];omega
 ·exact Int.le_refl _
theorem Jf (s:ByteArray):(B6 s).1<4294967296:=by
 rw[B6]
 split
 ·dsimp only
  generalize Bj 46 s=l
  cases hl:l.reverse with
  | nil =>
   have:l=[]:=by simpa using hl
   subst this;decide
  | cons x r =>
   have:l=r.reverse++[x]:=by
    have:=congrArg List.reverse hl
    simpa using this
   rw[this,Lg]
   show IntKind.u32.wrap _<_
   rw[IntKind.wrap_u32];omega
 ·decide
theorem Adu {s:ByteArray} {l:List Int} (h:Ca s=(l,true)) (h0:l.head? ≠ some 0):Ej l=true:=by
 rw[Ca,Db]at h
 obtain ⟨a,b,c,d⟩:=Il _ _ _ _ h List.Pairwise.nil j_
 have hn:∀ x∈l,0≤x:=fun x hx=>by
  rcases d x hx with hx | ⟨p,_,hp⟩
  ·cases hx
  ·have:=E6 p
   rw[hp]at this;exact this
 refine(Abo hn).2 ⟨a,fun x hx e=>?_,by rw[c,Es];simp,b⟩
 subst e
 cases l with
 | nil=>cases hx
 | cons y l =>
  rcases List.mem_cons.1 hx with hx | hx
  ·subst hx;exact h0 rfl
  ·have h1:=(List.pairwise_cons.1 a).1 0 hx
   have h2:=hn y y_
   omega
end Go.Sy.YtjenpnjajjplkaaGreatDoor
namespace Go.Sy.YtjenpnjajjplkaaGreatDoor
open Go.Proofs
set_option maxHeartbeats 4000000
theorem Cz (a:LineM):Hn a a=true:=by simp[Hn]
theorem Cd (w:List ByteArray) (row:Int):∀ x∈(A5 w row).2,x.2≠0:=by
 unfold A5 Cf
 dsimp only
 repeat' split
 all_goals simp
theorem Aaf {w:List ByteArray} {row:Int} (h:(Bd w row).2=0):(Bd w row).1=(A5 w row).1∧∀ x∈(A5 w row).2,x.1=false:=by
 rw[Bd]at h ⊢
 split at h
 ·simp at h
 ·rename_i h1
  rw[if_neg h1]
  split at h
  ·rename_i h2;exact absurd h h2
  ·rename_i h2
   rw[if_neg h2]
   exact⟨E,K4 _ (Cd w row) q_⟩
theorem k1:kindL ⟨#[100,101,118,105,99,101]⟩=1:=by decide +kernel
theorem k2:kindL ⟨#[112,111,114,116]⟩=2:=by decide +kernel
theorem k3:kindL ⟨#[108,105,110,107]⟩=3:=by decide +kernel
theorem k4:kindL ⟨#[115,116,97,116,105,99]⟩=4:=by decide +kernel
theorem k5:kindL ⟨#[118,116,101,112]⟩=5:=by decide +kernel
theorem k6:kindL ⟨#[118,110,105]⟩=6:=by decide +kernel
theorem k7:kindL ⟨#[102,108,111,111,100]⟩=7:=by decide +kernel
theorem k8:kindL ⟨#[118,114,102]⟩=8:=by decide +kernel
theorem k9:kindL ⟨#[105,114,98]⟩=9:=by decide +kernel
theorem Ub:C2≠Ct:=by decide +kernel
theorem wd0 (a:ByteArray) (l:List ByteArray):wdT (a::l) 0=a:=rfl
theorem st1 (d n m:ByteArray) (r:Int):A5 [⟨#[100,101,118,105,99,101]⟩,d,n,m] r=({ lineZ with row:=r,kind:=1,dev:=d,num:=(numR n 0 65535).1,mac:=(macR m).1 },[(!(Ap d),20),(!(numR n 0 65535).2,21),(!((macR m).2 && statB (macR m).1),21)]):=by
 unfold A5
 simp only[wd0,k1]
 rfl
theorem st3 (d p q f:ByteArray) (r:Int):A5 [⟨#[108,105,110,107]⟩,d,p,q,f] r=({ lineZ with row:=r,kind:=3,dev:=d,port:=p,peer:=q,far:=f },[(!(Ap d),20),(!(Ap p),20),(!(Ap q),20),(!(Ap f),20)]):=by
 unfold A5
 simp only[wd0,k3]
 rfl
theorem st4 (d v m p:ByteArray) (r:Int):A5 [⟨#[115,116,97,116,105,99]⟩,d,v,m,p] r=({ lineZ with row:=r,kind:=4,dev:=d,vlan:=(Bl v).1,mac:=(macR m).1,port:=p },[(!(Ap d),20),(!(Bl v).2,21),(!((macR m).2 && statB (macR m).1),21),(!(Ap p),20)]):=by
 unfold A5
 simp only[wd0,k4]
 rfl
theorem within_iff {n lo hi:Int}:Bf n lo hi=true↔lo≤n∧n≤hi:=by simp[Bf]
theorem Su {m:Int} (h:statB m=true):m<281474976710656:=by
 simp only[statB,Bool.and_eq_true,decide_eq_true_eq]at h
 omega
theorem Jl {a b:Int} (h:subnetB a b=true):1≤b∧b≤30:=by
 simp only[subnetB,Bool.and_eq_true,decide_eq_true_eq]at h
 omega
structure LineOK (l:LineM):Prop where
 mac:0≤l.mac∧l.mac<18446744073709551616
 addr:0≤l.addr∧l.addr<4294967296
 addrs:∀ x∈l.addrs,0≤x∧x<4294967296
theorem Ug {s:ByteArray} {v:Int} (h:(Bl s).2=true) (e:(Bl s).1=v):Bf v 1 4094=true:=by
 have:=Di h
 exact within_iff.2 (by rw[← e];exact this)
theorem Abu {s:ByteArray} {v:Int} (h:(Iu s).2=true) (e:(Iu s).1=v):Bf v 1 16777215=true:=by
 have:=Di h
 exact within_iff.2 (by rw[← e];exact this)
theorem O6 {α:Type} {p:α × Bool} (h:p.2=true):p=(p.1,true):=by rw[← h]
end Go.Sy.YtjenpnjajjplkaaGreatDoor
namespace Go.Sy.YtjenpnjajjplkaaGreatDoor
open Go.Proofs
attribute [local irreducible] Go.Sy.G Go.Sy.DR
set_option maxRecDepth 100000
set_option maxHeartbeats 4000000
theorem Du {a b:ByteArray} (h:a≠b):(a == b)=false:=by
 cases hx:(a == b)
 ·rfl
 ·exact absurd ((Ew _ _).1 hx) h
theorem C1 {a b:ByteArray} (h:a=b):(a == b)=true:=(Ew _ _).2 h
theorem Vj {a b:ByteArray} (h:a≠b):(!(a == b))=true:=by rw[Du h];rfl
theorem Qc {a b:ByteArray} (h:a=b):(!(a == b))=false:=by rw[C1 h];rfl
theorem C8 (s:ByteArray):Sy.Spec Tryz.prog 230 [Ah s] [] (Aa (kindL s)) []:=cT F230 Tryz.ntmps230 fun F hF=>by
 have hk:=kindL.eq_1 s
 generalize kindL s=k at *
 by_cases c1:s=(⟨#[100,101,118,105,99,101]⟩:ByteArray)
 ·have b1:=C1 c1
  rw[if_pos c1]at hk
  subst hk
  refine T ?_
  exact D
 have b1:=Du c1
 rw[if_neg c1]at hk
 by_cases c2:s=(⟨#[112,111,114,116]⟩:ByteArray)
 ·have b2:=C1 c2
  rw[if_pos c2]at hk
  subst hk
  refine T ?_
  exact D
 have b2:=Du c2
 rw[if_neg c2]at hk
 by_cases c3:s=(⟨#[108,105,110,107]⟩:ByteArray)
 ·have b3:=C1 c3
  rw[if_pos c3]at hk
  subst hk
  refine T ?_
  exact D
 have b3:=Du c3
 rw[if_neg c3]at hk
 by_cases c4:s=(⟨#[115,116,97,116,105,99]⟩:ByteArray)
 ·have b4:=C1 c4
  rw[if_pos c4]at hk
  subst hk
  refine T ?_
  exact D
 have b4:=Du c4
 rw[if_neg c4]at hk
 by_cases c5:s=(⟨#[118,116,101,112]⟩:ByteArray)
 ·have b5:=C1 c5
  rw[if_pos c5]at hk
  subst hk
  refine T ?_
  exact D
 have b5:=Du c5
 rw[if_neg c5]at hk
 by_cases c6:s=(⟨#[118,110,105]⟩:ByteArray)
 ·have b6:=C1 c6
  rw[if_pos c6]at hk
  subst hk
  refine T ?_
  exact D
 have b6:=Du c6
 rw[if_neg c6]at hk
 by_cases c7:s=(⟨#[102,108,111,111,100]⟩:ByteArray)
 ·have b7:=C1 c7
  rw[if_pos c7]at hk
  subst hk
  refine T ?_
  exact D
 have b7:=Du c7
 rw[if_neg c7]at hk
 by_cases c8:s=(⟨#[118,114,102]⟩:ByteArray)
 ·have b8:=C1 c8
  rw[if_pos c8]at hk
  subst hk
  refine T ?_
  exact D
 have b8:=Du c8
 rw[if_neg c8]at hk
 by_cases c9:s=(⟨#[105,114,98]⟩:ByteArray)
 ·have b9:=C1 c9
  rw[if_pos c9]at hk
  subst hk
  refine T ?_
  exact D
 have b9:=Du c9
 rw[if_neg c9]at hk
 subst hk
 refine T ?_
 exact D
theorem C7 (k:Int) (hk:0≤k∧k≤9) (w:List ByteArray) (hw:w.length≤1000000):Sy.Spec Tryz.prog 229 [Aa k,.sl 1 Ah w] [] (Ab (manyB k w)) []:=cT F229 Tryz.ntmps229 fun F hF=>by
 have hm2:=manyB.eq_1 k w
 generalize manyB k w=r at *
 rcases (by omega:k=0∨k=1∨k=2∨k=3∨k=4∨k=5∨k=6∨k=7∨k=8∨k=9) with h | h | h | h | h | h | h | h | h | h
 ·subst h
  have hr:r=false:=by rw[hm2];simp
  subst hr
  refine T ?_
  exact D
 ·subst h
  have hr:r=decide (w.length=4):=by rw[hm2];simp
  subst hr
  refine T ?_
  refine Ar E (.cons .tmp .nil) (congrArg Ab ?_) E
  by_cases hn:w.length=4
  ·rw[hn];rfl
  ·rw[decide_eq_false hn];symm;simp;omega
 ·subst h
  rw[if_neg j_,if_pos rfl]at hm2
  by_cases h6:w.length<6
  ·rw[if_pos h6]at hm2
   subst hm2
   refine T ?_
   exact D
  ·rw[if_neg h6]at hm2
   have f6:decide ((w.length:Int)<6)=false:=decide_eq_false q_
   have h4:(4:Int).toNat<w.length:=by show 4<w.length;omega
   have hx:wdT w 4=w[(4:Int).toNat]'h4:=B8 q_
   rw[hx]at hm2
   by_cases ca:w[(4:Int).toNat]'h4=C2
   ·have ba:(w[(4:Int).toNat]'h4 == (⟨#[97,99,99,101,115,115]⟩:ByteArray))=true:=C1 ca
    have bt:(w[(4:Int).toNat]'h4 == (⟨#[116,114,117,110,107]⟩:ByteArray))=false:=Du (by rw[ca];exact Ub)
    have na:(!(w[(4:Int).toNat]'h4 == (⟨#[97,99,99,101,115,115]⟩:ByteArray)))=false:=Qc ca
    rw[if_pos ca]at hm2
    by_cases hn:w.length=6
    ·rw[decide_eq_true hn]at hm2
     subst hm2
     refine T ?_
     exact D
    ·rw[decide_eq_false hn]at hm2
     have fb:((w.length:Int) == 6)=false:=by rw[beq_eq_false_iff_ne];omega
     subst hm2
     refine T ?_
     exact D
   ·have ba:(w[(4:Int).toNat]'h4 == (⟨#[97,99,99,101,115,115]⟩:ByteArray))=false:=Du ca
    have na:(!(w[(4:Int).toNat]'h4 == (⟨#[97,99,99,101,115,115]⟩:ByteArray)))=true:=Vj ca
    rw[if_neg ca]at hm2
    by_cases ctr:w[(4:Int).toNat]'h4=Ct
    ·have bt:(w[(4:Int).toNat]'h4 == (⟨#[116,114,117,110,107]⟩:ByteArray))=true:=C1 ctr
     have nt:(!(w[(4:Int).toNat]'h4 == (⟨#[116,114,117,110,107]⟩:ByteArray)))=false:=Qc ctr
     rw[if_pos ctr]at hm2
     by_cases hn:w.length=7
     ·rw[decide_eq_true hn]at hm2
      subst hm2
      refine T ?_
      exact D
     ·rw[decide_eq_false hn]at hm2
      have fb:((w.length:Int) == 7)=false:=by rw[beq_eq_false_iff_ne];omega
      subst hm2
      refine T ?_
      exact D
    ·have bt:(w[(4:Int).toNat]'h4 == (⟨#[116,114,117,110,107]⟩:ByteArray))=false:=Du ctr
     have nt:(!(w[(4:Int).toNat]'h4 == (⟨#[116,114,117,110,107]⟩:ByteArray)))=true:=Vj ctr
     rw[if_neg ctr]at hm2
     subst hm2
     refine T ?_
     refine Ar E (.cons .tmp .nil) (congrArg Ab ?_) E
     exact decide_eq_decide.2 q_
 ·subst h
  have hr:r=decide (w.length=5):=by rw[hm2];simp
  subst hr
  refine T ?_
  refine Ar E (.cons .tmp .nil) (congrArg Ab ?_) E
  by_cases hn:w.length=5
  ·rw[hn];rfl
  ·rw[decide_eq_false hn];symm;simp;omega
 ·subst h
  have hr:r=decide (w.length=5):=by rw[hm2];simp
  subst hr
  refine T ?_
  refine Ar E (.cons .tmp .nil) (congrArg Ab ?_) E
  by_cases hn:w.length=5
  ·rw[hn];rfl
  ·rw[decide_eq_false hn];symm;simp;omega
 ·subst h
  have hr:r=decide (w.length=3):=by rw[hm2];simp
  subst hr
  refine T ?_
  refine Ar E (.cons .tmp .nil) (congrArg Ab ?_) E
  by_cases hn:w.length=3
  ·rw[hn];rfl
  ·rw[decide_eq_false hn];symm;simp;omega
 ·subst h
  have hr:r=decide (w.length=4):=by rw[hm2];simp
  subst hr
  refine T ?_
  refine Ar E (.cons .tmp .nil) (congrArg Ab ?_) E
  by_cases hn:w.length=4
  ·rw[hn];rfl
  ·rw[decide_eq_false hn];symm;simp;omega
 ·subst h
  have hr:r=decide (w.length=4):=by rw[hm2];simp
  subst hr
  refine T ?_
  refine Ar E (.cons .tmp .nil) (congrArg Ab ?_) E
  by_cases hn:w.length=4
  ·rw[hn];rfl
  ·rw[decide_eq_false hn];symm;simp;omega
 ·subst h
  have hr:r=decide (w.length=5):=by rw[hm2];simp
  subst hr
  refine T ?_
  refine Ar E (.cons .tmp .nil) (congrArg Ab ?_) E
  by_cases hn:w.length=5
  ·rw[hn];rfl
  ·rw[decide_eq_false hn];symm;simp;omega
 ·subst h
  have hr:r=decide (w.length=5):=by rw[hm2];simp
  subst hr
  refine T ?_
  refine Ar E (.cons .tmp .nil) (congrArg Ab ?_) E
  by_cases hn:w.length=5
  ·rw[hn];rfl
  ·rw[decide_eq_false hn];symm;simp;omega
theorem M4 (a:Nat) (b:Int) (ha:a<4294967296):Sy.Spec Tryz.prog 243 [Ho a b] [] (Ab (subnetB a b)) []:=cT F243 Tryz.ntmps243 fun F hF=>by
 have q1:=Zg a b ha
 have q2:=Abp a b ha
 have hs:=subnetB.eq_1 (a:Int) b
 generalize subnetB (a:Int) b=r at *
 generalize Ig (a:Int) b=fi at *
 generalize Q0 (a:Int) b=la at *
 by_cases h1:1≤b
 ·by_cases h2:b≤30
  ·by_cases h3:(a:Int)=fi
   ·have f3:((a:Int) != fi)=false:=by rw[bne_eq_false_iff_eq];exact h3
    have hr:r=false:=by rw[hs];simp[h3]
    subst hr
    refine T ?_
    refine C q1 F307 ?_
    exact D
   ·have f3:((a:Int) != fi)=true:=by rw[bne_iff_ne];exact h3
    by_cases h4:(a:Int)=la
    ·have f4:((a:Int) != la)=false:=by rw[bne_eq_false_iff_eq];exact h4
     have hr:r=false:=by rw[hs];simp[h4]
     subst hr
     refine T ?_
     refine C q1 F307 ?_
     refine C q2 F308 ?_
     refine Ar E (.cons .tmp .nil) (congrArg Ab f4.symm) E
    ·have f4:((a:Int) != la)=true:=by rw[bne_iff_ne];exact h4
     have hr:r=true:=by rw[hs];simp[h1,h2,h3,h4]
     subst hr
     refine T ?_
     refine C q1 F307 ?_
     refine C q2 F308 ?_
     refine Ar E (.cons .tmp .nil) (congrArg Ab f4.symm) E
  ·have hr:r=false:=by rw[hs];simp[h2]
   subst hr
   refine T ?_
   exact D
 ·have hr:r=false:=by rw[hs];simp[h1]
  subst hr
  refine T ?_
  exact D
theorem Wn (l:List Int) (v:Int):l.contains v=inB l v:=by
 induction l with
 | nil=>rfl
 | cons x l ih =>
  rw[List.contains_cons,ih,inB,inB,List.any_cons]
  congr 1
  exact Bool.beq_comm
theorem D7 (l:LineM) (hl:Aq l.tagged):Sy.Spec Tryz.prog 302 [Aj l] [] (Ab (membersB l.vlan l.tagged)) []:=cT F302 Tryz.ntmps302 fun F hF=>by
 have q:=Ir l.tagged l.vlan hl
 have hm2:=membersB.eq_1 l.vlan l.tagged
 rw[Wn]at hm2
 generalize membersB l.vlan l.tagged=r at *
 generalize inB l.tagged l.vlan=ib at *
 unfold Aq at hl
 by_cases h1:0<l.vlan
 ·have hr:r=!ib:=by rw[hm2];simp[h1]
  subst hr
  refine T ?_
  refine C q F100 ?_
  exact D
 ·by_cases h2:l.tagged.length=0
  ·have hr:r=false:=by
    rw[hm2,decide_eq_false h1,List.eq_nil_of_length_eq_zero h2];rfl
   subst hr
   refine T ?_
   exact D
  ·have hr:r=!ib:=by
    rw[hm2]
    have:l.tagged.isEmpty=false:=by cases ht:l.tagged<;>simp_all
    simp[this]
   have f2:decide ((l.tagged.length:Int)>0)=true:=decide_eq_true q_
   subst hr
   refine T ?_
   refine C q F100 ?_
   exact D
end Go.Sy.YtjenpnjajjplkaaGreatDoor
namespace Go.Sy
theorem Jg {P:Program} (Γ:Ty P) {o:Oper} {s:SS} {t:TypeId} {ti:TI} {et:TypeId} {len esz sz g:Nat} {y:Operand} {ik:IntKind} {n:Int} {z:SV} (k:Nat)
  (h:o.op=.indexAddr t (.global g) y) (ht:Γ.get t=some ti) (hk:ti.k=.array et len esz) (hb:s.h k=.glob sz z g) (hy:ev s y=.val (.int ik n)) (h0:0≤n) (hn:n.toNat<len) :
  Good P o s ⟨.ref sz z (n.toNat * esz),[k],[]⟩ :=
 Good.pure fun κ a w _ hr ho=>by
  have h1:=ho k y_
  have h2:=hr y (by simp[h,Op.operands])
  rw[hb]at h1
  rw[hy]at h2
  simp only[ObOK,Rd,RdD]at h1
  obtain ⟨b,oo,u,e1,e2,e3,e4,e5⟩:=h1
  obtain ⟨hu,i,q1,q2⟩:=J8 Γ ht hk
  simp only[Nat.add_zero,Value.pointer.injEq,Option.some.injEq,Addr.mk.injEq,and_true]at e1
  obtain ⟨rfl,rfl⟩:=e1
  refine⟨.pointer (some ⟨g,0+n.toNat * esz,none⟩),?_,?_⟩
  ·have hg:a.eval (.global g)=.pointer (some ⟨g,0,none⟩):=rfl
   simp only[execOp,h,hg,h2.val]
   simp[I1 w hu q1 q2 h0 hn]
  ·simp only[Rd,RdD]
   exact⟨g,0,u,E,e2,e3,e4,e5⟩
theorem Ob.shp_glob {x:Ob} {sz g:Nat} {z:SV} (h:x.shp=(Ob.glob sz z g).shp):x=.glob sz z g:=by
 cases x<;>simp_all[Ob.shp]
theorem GoodX.glob {P:Program} (Γ:Ty P) {o:Oper} {s:SS} {t:TypeId} {ti:TI} {et:TypeId} {len esz sz g:Nat} {y:Operand} {ik:IntKind} {n:Int} {z:SV} (k:Nat)
  (h:o.op=.indexAddr t (.global g) y) (ht:Γ.get t=some ti) (hk:ti.k=.array et len esz) (hb:s.h k=.glob sz z g) (hy:ev s y=.val (.int ik n)) (h0:0≤n) (hn:n.toNat<len) :
  GoodX P o s ⟨.ref sz z (n.toNat * esz),[k],[]⟩ where
 good:=(Jg Γ k h ht hk hb hy h0 hn).two
 idx _:=⟨rfl,fun s' h1 h2=>Jg Γ k h ht hk (Ob.shp_glob ((h2 k y_).trans (congrArg Ob.shp hb))) ((h1 y (by simp[h,Op.operands])).trans hy) h0 hn⟩
 st hs:=by simp[Ld,h]at hs
section
open Go.ChangeShapes Go.WideShapes Go.ChangeAt Go.RowKit
variable {H:Type} {enc:TypeId × Value→H} {P:Program}
end
end Go.Sy
namespace Go.Sy
theorem Ci {P:Program} (Γ:Ty P) {o:Oper} {s:SS} {t:TypeId} {ti:TI} {et:TypeId} {len:Nat} {x y:Operand} {ik:IntKind} {n:Int} {l:List SV} {z:SV} {k:EK} (h:o.op=.index t x y) (ht:Γ.get t=some ti) (hk:ti.k=.array et len 1)
  (he:P.underlying et=some (EK.desc k)) (hx:ev s x=.agg l) (hy:ev s y=.val (.int ik n)) (h0:0≤n) (hn:n.toNat<len) (hz:Ei l n.toNat=some z):Good P o s ⟨z,[],[]⟩ :=
 Good.pure fun κ a w _ hr _=>by
  have h1:=hr x (by simp[h,Op.operands])
  have h2:=hr y (by simp[h,Op.operands])
  rw[hx]at h1
  rw[hy]at h2
  simp only[Rd]at h1
  obtain ⟨cs,e1,_,e2⟩:=h1
  obtain ⟨v,e3,e4⟩:=e2.getT hz
  obtain ⟨hu,i,q1,q2⟩:=J8 Γ ht hk
  have hp:=Qk (P:=P) w he cs.toArray e3
  have hlt:n<len:=by omega
  refine⟨v,?_,e4⟩
  simp[execOp,h,e1,h2.val,Instr.index,run_underlying hu,asIntOf,h0,hlt,sizeOf,typeInfo,q1,q2,hp]
theorem Ae {C:Cx} {k:List KI} {s:SS} (d:Nat) (l':List SV) {l:List SV} (h:s.h d=.box l) (hv:VwL s [] l l') (hg:G C k ⟨s.σ,upd s.h d (.box l')⟩):G C k s:=fun κ a w hs =>
 hg κ a w ⟨hs.defers,hs.size,hs.inv,hs.ctx,hs.slot,fun i=>by
  show ObOK κ w i (upd s.h d (.box l') i)
  by_cases hi:i=d
  ·subst hi
   rw[B4]
   have:=hs.obj i
   rw[h]at this
   obtain ⟨b,cs,T,fr,e1,e2,e3,e4,e5⟩:=this
   exact⟨b,cs,T,fr,e1,e2,e3,e4,VwL.rd hs.inv (fun _ hn=>by cases hn) hv e5⟩
  ·rw[Cn _ _ hi];exact hs.obj i⟩
end Go.Sy
namespace Go.Sy.YtjenpnjajjplkaaGreatDoor
open Go.Proofs
attribute [local irreducible] Go.Sy.G Go.Sy.DR
set_option maxRecDepth 100000
set_option maxHeartbeats 4000000
theorem E9 (l m:List Int) (hl:l.length≤1000000) (hm1:m.length≤1000000):Sy.Spec Tryz.prog 52 [.sl 1 Aa l,.sl 1 Aa m] [] (Ab (l == m)) []:=cT F52 Tryz.ntmps52 fun F hF=>by
 by_cases hlen:l.length=m.length
 rotate_left
 ·have hr:(l == m)=false:=by
   rw[beq_eq_false_iff_ne];intro e;exact hlen (by rw[e])
  have f0:((l.length:Int) != (m.length:Int))=true:=by rw[bne_iff_ne];omega
  rw[hr]
  refine T ?_
  exact D
 have f0:((l.length:Int) != (m.length:Int))=false:=by rw[bne_eq_false_iff_eq];omega
 refine T ?_
 refine A6 l.length (fun j=>l.take j=m.take j) (fun j=>[(0,.sl 1 Aa l),(1,.sl 1 Aa m),(12,Aa l.length),(13,Aa j)]) (fun _=>[]) [] E U ?_
 intro j hj hI
 refine T ?_
 refine⟨fun h=>?_,fun h=>?_⟩
 ·have hlt:j<l.length:=qA h
  have hlm:j<m.length:=by omega
  have hlt0:((j:Nat):Int).toNat<l.length:=hlt
  have hlm0:((j:Nat):Int).toNat<m.length:=hlm
  clear h
  by_cases he:l[j]=m[j]
  ·have f1:(l[((j:Nat):Int).toNat]'hlt0 != m[((j:Nat):Int).toNat]'hlm0)=false:=by rw[bne_eq_false_iff_eq];exact he
   refine T ?_
   refine Bb [] hI q_ ?_ U
   rw[List.take_succ_eq_append_getElem hlt,List.take_succ_eq_append_getElem hlm,hI,he]
  ·have f1:(l[((j:Nat):Int).toNat]'hlt0 != m[((j:Nat):Int).toNat]'hlm0)=true:=by rw[bne_iff_ne];exact he
   have hr:(l == m)=false:=by
    rw[beq_eq_false_iff_ne];intro e;subst e;exact he rfl
   rw[hr]
   refine T ?_
   exact D
 ·have hje:j=l.length:=qB h
  subst hje
  have hr:(l == m)=true:=by
   rw[beq_iff_eq]
   rw[List.take_length,hlen,List.take_length]at hI
   exact hI
  rw[hr]
  clear h
  refine T ?_
  exact D
theorem Oz (l m:List Int) (hl:l.length≤1000000) (hm1:m.length≤1000000):Sy.Spec Tryz.prog 57 [.sl 1 A9 l,.sl 1 A9 m] [] (Ab (l == m)) []:=cT F57 Tryz.ntmps57 fun F hF=>by
 by_cases hlen:l.length=m.length
 rotate_left
 ·have hr:(l == m)=false:=by
   rw[beq_eq_false_iff_ne];intro e;exact hlen (by rw[e])
  have f0:((l.length:Int) != (m.length:Int))=true:=by rw[bne_iff_ne];omega
  rw[hr]
  refine T ?_
  exact D
 have f0:((l.length:Int) != (m.length:Int))=false:=by rw[bne_eq_false_iff_eq];omega
 refine T ?_
 refine A6 l.length (fun j=>l.take j=m.take j) (fun j=>[(0,.sl 1 A9 l),(1,.sl 1 A9 m),(12,Aa l.length),(13,Aa j)]) (fun _=>[]) [] E U ?_
 intro j hj hI
 refine T ?_
 refine⟨fun h=>?_,fun h=>?_⟩
 ·have hlt:j<l.length:=qA h
  have hlm:j<m.length:=by omega
  have hlt0:((j:Nat):Int).toNat<l.length:=hlt
  have hlm0:((j:Nat):Int).toNat<m.length:=hlm
  clear h
  by_cases he:l[j]=m[j]
  ·have f1:(l[((j:Nat):Int).toNat]'hlt0 != m[((j:Nat):Int).toNat]'hlm0)=false:=by rw[bne_eq_false_iff_eq];exact he
   refine T ?_
   refine Bb [] hI q_ ?_ U
   rw[List.take_succ_eq_append_getElem hlt,List.take_succ_eq_append_getElem hlm,hI,he]
  ·have f1:(l[((j:Nat):Int).toNat]'hlt0 != m[((j:Nat):Int).toNat]'hlm0)=true:=by rw[bne_iff_ne];exact he
   have hr:(l == m)=false:=by
    rw[beq_eq_false_iff_ne];intro e;subst e;exact he rfl
   rw[hr]
   refine T ?_
   exact D
 ·have hje:j=l.length:=qB h
  subst hje
  have hr:(l == m)=true:=by
   rw[beq_iff_eq]
   rw[List.take_length,hlen,List.take_length]at hI
   exact hI
  rw[hr]
  clear h
  refine T ?_
  exact D
theorem Aag (a b:LineM) (ha:LineFin a) (hb:LineFin b):Sy.Spec Tryz.prog 411 [Aj a,Aj b] [] (Ab (Hn a b)) []:=cT F411 Tryz.ntmps411 fun F hF=>by
 have ht:=ha.t;have hi:=ha.i;have he:=ha.e;have haa:=ha.a
 have ht2:=hb.t;have hi2:=hb.i;have he2:=hb.e;have haa2:=hb.a
 have q0:=E9 a.tagged b.tagged q_ q_
 have q1:=E9 a.imports b.imports q_ q_
 have q2:=E9 a.exports b.exports q_ q_
 have q3:=Oz a.addrs b.addrs q_ q_
 rw[Hn]
 cases h_row:(a.row == b.row)
 ·rw[Bool.false_and]
  refine T ?_
  exact D
 rw[Bool.true_and]
 cases h_kind:(a.kind == b.kind)
 ·rw[Bool.false_and]
  refine T ?_
  exact D
 rw[Bool.true_and]
 cases h_dev:(a.dev == b.dev)
 ·rw[Bool.false_and]
  refine T ?_
  exact D
 rw[Bool.true_and]
 cases h_port:(a.port == b.port)
 ·rw[Bool.false_and]
  refine T ?_
  exact D
 rw[Bool.true_and]
 cases h_peer:(a.peer == b.peer)
 ·rw[Bool.false_and]
  refine T ?_
  exact D
 rw[Bool.true_and]
 cases h_far:(a.far == b.far)
 ·rw[Bool.false_and]
  refine T ?_
  exact D
 rw[Bool.true_and]
 cases h_name:(a.name == b.name)
 ·rw[Bool.false_and]
  refine T ?_
  exact D
 rw[Bool.true_and]
 cases h_mac:(a.mac == b.mac)
 ·rw[Bool.false_and]
  refine T ?_
  exact D
 rw[Bool.true_and]
 cases h_addr:(a.addr == b.addr)
 ·rw[Bool.false_and]
  refine T ?_
  exact D
 rw[Bool.true_and]
 cases h_bits:(a.bits == b.bits)
 ·rw[Bool.false_and]
  refine T ?_
  exact D
 rw[Bool.true_and]
 cases h_vlan:(a.vlan == b.vlan)
 ·rw[Bool.false_and]
  refine T ?_
  exact D
 rw[Bool.true_and]
 cases h_num:(a.num == b.num)
 ·rw[Bool.false_and]
  refine T ?_
  exact D
 rw[Bool.true_and]
 cases h_cost:(a.cost == b.cost)
 ·rw[Bool.false_and]
  refine T ?_
  exact D
 rw[Bool.true_and]
 cases h_tagged:(a.tagged == b.tagged)
 ·rw[h_tagged]at q0
  rw[Bool.false_and]
  refine T ?_
  refine C q0 F52 ?_
  exact D
 rw[h_tagged]at q0
 rw[Bool.true_and]
 cases h_imports:(a.imports == b.imports)
 ·rw[h_imports]at q1
  rw[Bool.false_and]
  refine T ?_
  refine C q0 F52 ?_
  refine C q1 F52 ?_
  exact D
 rw[h_imports]at q1
 rw[Bool.true_and]
 cases h_exports:(a.exports == b.exports)
 ·rw[h_exports]at q2
  rw[Bool.false_and]
  refine T ?_
  refine C q0 F52 ?_
  refine C q1 F52 ?_
  refine C q2 F52 ?_
  exact D
 rw[h_exports]at q2
 rw[Bool.true_and]
 cases h_addrs:(a.addrs == b.addrs)
 ·rw[h_addrs]at q3
  skip
  refine T ?_
  refine C q0 F52 ?_
  refine C q1 F52 ?_
  refine C q2 F52 ?_
  refine C q3 F57 ?_
  exact D
 rw[h_addrs]at q3
 refine T ?_
 refine C q0 F52 ?_
 refine C q1 F52 ?_
 refine C q2 F52 ?_
 refine C q3 F57 ?_
 exact D
theorem Cy (n lo hi:Int):Sy.Spec Tryz.prog 439 [Aa n,Aa lo,Aa hi] [] (Ab (Bf n lo hi)) []:=cT F439 Tryz.ntmps439 fun F hF=>by
 rw[Bf]
 by_cases h1:lo≤n
 ·have f1:decide (n≥lo)=true:=decide_eq_true h1
  rw[decide_eq_true h1,Bool.true_and]
  refine T ?_
  exact D
 ·have f1:decide (n≥lo)=false:=decide_eq_false h1
  rw[decide_eq_false h1,Bool.false_and]
  refine T ?_
  exact D
theorem Mk (l:List Int) (most:Int) (hl:l.length≤100000):Sy.Spec Tryz.prog 440 [.sl 1 Aa l,Aa most] [] (Ab (Ch l most)) []:=cT F440 Tryz.ntmps440 fun F hF=>by
 have q:=Qp l 1 most (by simp only[Aq];omega)
 rw[Ch,Jo]
 by_cases h0:l.length=0
 ·rw[decide_eq_true h0,Bool.true_or]
  have f0:((l.length:Int) == 0)=true:=by rw[h0];rfl
  refine T ?_
  exact D
 ·rw[decide_eq_false h0,Bool.false_or]
  have f0:((l.length:Int) == 0)=false:=by rw[beq_eq_false_iff_ne];omega
  refine T ?_
  refine C q F180 ?_
  exact D
def Kb (l:List Int) (i:Nat) (x:Int):Bool:=decide (x≠0) && (i == 0 || decide (l.getD (i-1) 0<x))
theorem Zf (l:List Int):Ej l=(Dp (Kb l) l && (decide (0<l.length) && decide (l.length≤16))):=by
 have e:(List.range l.length).all (fun i=>decide (l.getD i 0≠0) && (i == 0 || decide (l.getD (i-1) 0<l.getD i 0)))=Dp (Kb l) l:=by
  rw[Bool.eq_iff_iff,List.all_eq_true,allB_iff]
  constructor
  ·intro h i hi
   have:=h i (List.mem_range.2 hi)
   rw[show l.getD i 0=l[i] by rw[List.getD_eq_getElem?_getD,List.getElem?_eq_getElem hi];rfl]at this
   exact this
  ·intro h i hi
   have hi:=List.mem_range.1 hi
   rw[show l.getD i 0=l[i] by rw[List.getD_eq_getElem?_getD,List.getElem?_eq_getElem hi];rfl]
   exact h i hi
 rw[Ej,e]
theorem X8 (l:List Int) (hl:l.length≤100000):Sy.Spec Tryz.prog 441 [.sl 1 A9 l] [] (Ab (Ej l)) []:=cT F441 Tryz.ntmps441 fun F hF=>by
 have hres:=Zf l
 generalize Ej l=r at *
 refine T ?_
 refine A6 l.length (fun j=>El (Kb l) l j) (fun j=>[(0,.sl 1 A9 l),(5,.sl 1 A9 l),(6,Aa l.length),(7,Aa j)]) (fun _=>[]) [] (Bc _ _) U ?_
 intro j hj hI
 refine T ?_
 refine⟨fun h=>?_,fun h=>?_⟩
 ·have hlt:j<l.length:=qA h
  have hlt0:((j:Nat):Int).toNat<l.length:=hlt
  have hno:=fun h=>Bv (p:=Kb l) hlt h
  have hnx:=fun h=>A8 (p:=Kb l) hI hlt h
  clear h
  by_cases h1:l[j]=0
  ·have f1:(l[((j:Nat):Int).toNat]'hlt0 == 0)=true:=beq_iff_eq.2 h1
   rw[hno (by simp[Kb,h1]),Bool.false_and]at hres
   subst hres
   refine T ?_
   exact D
  ·have f1:(l[((j:Nat):Int).toNat]'hlt0 == 0)=false:=beq_eq_false_iff_ne.2 h1
   by_cases h2:j=0
   ·subst h2
    refine T ?_
    exact Bb [] hI q_ (hnx (by simp[Kb,h1])) U
   ·have f2:decide ((j:Int)>0)=true:=decide_eq_true q_
    have hk:((j:Int)-1).toNat<l.length:=by omega
    have hg:l.getD (j-1) 0=l[((j:Int)-1).toNat]'hk:=by
     rw[List.getD_eq_getElem?_getD,List.getElem?_eq_getElem (by omega:j-1<l.length)]
     have:((j:Int)-1).toNat=j-1:=by omega
     simp only[this]
     rfl
    have hx:Kb l j l[j]=(decide (l[j]≠0) && (j == 0 || decide (l.getD (j-1) 0<l[j]))):=rfl
    rw[hg]at hx
    by_cases h3:l[((j:Int)-1).toNat]'hk<l[j]
    ·have f3:decide (l[((j:Int)-1).toNat]'hk≥l[((j:Nat):Int).toNat]'hlt0)=false:=decide_eq_false (by show ¬ _≥l[j];omega)
     refine T ?_
     exact Bb [] hI q_ (hnx (by rw[hx,decide_eq_true h1,decide_eq_true h3,Bool.or_true];rfl)) U
    ·have f3:decide (l[((j:Int)-1).toNat]'hk≥l[((j:Nat):Int).toNat]'hlt0)=true:=decide_eq_true (by show _≥l[j];omega)
     rw[hno (by rw[hx,decide_eq_false h3,beq_eq_false_iff_ne.2 h2];simp),Bool.false_and]at hres
     subst hres
     refine T ?_
     exact D
 ·have hje:j=l.length:=qB h
  subst hje
  rw[C4 hI (Nat.le_refl _),Bool.true_and]at hres
  subst hres
  clear h
  by_cases h0:0<l.length
  ·rw[decide_eq_true h0,Bool.true_and]
   have f0:decide ((l.length:Int)>0)=true:=decide_eq_true q_
   refine T ?_
   refine Ar E (.cons .tmp .nil) (congrArg Ab ?_) E
   exact decide_eq_decide.2 q_
  ·rw[decide_eq_false h0,Bool.false_and]
   have f0:decide ((l.length:Int)>0)=false:=decide_eq_false q_
   refine T ?_
   exact D
structure LineW (l:LineM):Prop where
 fin:LineFin l
 ok:LineOK l
 dev:l.dev.size≤100000
 port:l.port.size≤100000
 peer:l.peer.size≤100000
 far:l.far.size≤100000
 name:l.name.size≤100000
theorem Xx (l:LineM) (hw:LineW l) (hk:l.kind=1):Sy.Spec Tryz.prog 410 [Aj l] [] (.tup [Aj (Av l).1,Ab (Av l).2]) []:=cT F410 Tryz.ntmps410 fun F hF=>by
 have hU:Av l=({ lineZ with row:=l.row,kind:=1,dev:=l.dev,num:=l.num,mac:=l.mac },(Bf l.num 0 65535 && statB l.mac)):=by
  simp only[Av,hk]
  rfl
 rw[hU]
 have q0:=Cy l.num 0 65535
 have q1:Sy.Spec Tryz.prog 301 [Dv l.mac] [] (Ab (statB l.mac)) []:=by
  have:=hw.ok.mac
  obtain ⟨m,hm1⟩:∃ m:Nat,l.mac=m:=⟨l.mac.toNat,by omega⟩
  rw[hm1];exact Qh m q_
 obtain ⟨row,kind,dev,port,peer,far,name,mac,addr,bits,vlan,num,cost,tagged,imports,exports,addrs⟩:=l
 dsimp only at hk q0 q1 ⊢
 subst hk
 clear hU hw
 generalize Bf num 0 65535=b0 at *
 generalize statB mac=b1 at *
 cases b0
 ·rw[Bool.false_and]
  refine T ?_
  refine C q0 F439 ?_
  refine Ae 2 (Ba { lineZ with row:=row,kind:=1,dev:=dev,num:=num,mac:=mac }) rfl (.cons (.refl _) (.cons (.refl _) (.cons (.refl _) (.cons (.refl _) (.cons (.refl _) (.cons (.refl _) (.cons (.refl _) (.cons (.refl _) (.cons (.refl _) (.cons (.refl _) (.cons (.refl _) (.cons (.refl _) (.cons (.refl _) (.cons .nil (.cons .nil (.cons .nil (.cons .nil .nil))))))))))))))))) ?_
  refine T ?_
  exact D
 rw[Bool.true_and]
 refine T ?_
 refine C q0 F439 ?_
 refine C q1 F301 ?_
 refine Ae 2 (Ba { lineZ with row:=row,kind:=1,dev:=dev,num:=num,mac:=mac }) rfl (.cons (.refl _) (.cons (.refl _) (.cons (.refl _) (.cons (.refl _) (.cons (.refl _) (.cons (.refl _) (.cons (.refl _) (.cons (.refl _) (.cons (.refl _) (.cons (.refl _) (.cons (.refl _) (.cons (.refl _) (.cons (.refl _) (.cons .nil (.cons .nil (.cons .nil (.cons .nil .nil))))))))))))))))) ?_
 refine T ?_
 exact D
theorem Xw (l:LineM) (hw:LineW l) (hk:l.kind=2):Sy.Spec Tryz.prog 410 [Aj l] [] (.tup [Aj (Av l).1,Ab (Av l).2]) []:=cT F410 Tryz.ntmps410 fun F hF=>by
 have hU:Av l=({ lineZ with row:=l.row,kind:=2,dev:=l.dev,port:=l.port,cost:=l.cost,vlan:=l.vlan,tagged:=l.tagged },(Ap l.port && (Bf l.cost 1 65535 && (Bf l.vlan 0 4094 && (Ch l.tagged 4094 && membersB l.vlan l.tagged))))):=by
  simp only[Av,hk]
  rfl
 rw[hU]
 have q0:=Ea l.port (by have:=hw.port;omega)
 have q1:=Cy l.cost 1 65535
 have q2:=Cy l.vlan 0 4094
 have q3:=Mk l.tagged 4094 hw.fin.t
 have q4:=D7 l (by have:=hw.fin.t;simp only[Aq];omega)
 obtain ⟨row,kind,dev,port,peer,far,name,mac,addr,bits,vlan,num,cost,tagged,imports,exports,addrs⟩:=l
 dsimp only at hk q0 q1 q2 q3 q4 ⊢
 subst hk
 clear hU hw
 generalize Ap port=b0 at *
 generalize Bf cost 1 65535=b1 at *
 generalize Bf vlan 0 4094=b2 at *
 generalize Ch tagged 4094=b3 at *
 generalize membersB vlan tagged=b4 at *
 cases b0
 ·rw[Bool.false_and]
  refine T ?_
  refine C q0 F299 ?_
  refine Ae 2 (Ba { lineZ with row:=row,kind:=2,dev:=dev,port:=port,cost:=cost,vlan:=vlan,tagged:=tagged }) rfl (.cons (.refl _) (.cons (.refl _) (.cons (.refl _) (.cons (.refl _) (.cons (.refl _) (.cons (.refl _) (.cons (.refl _) (.cons (.refl _) (.cons (.refl _) (.cons (.refl _) (.cons (.refl _) (.cons (.refl _) (.cons (.refl _) (.cons (.refl _) (.cons .nil (.cons .nil (.cons .nil .nil))))))))))))))))) ?_
  refine T ?_
  exact D
 rw[Bool.true_and]
 cases b1
 ·rw[Bool.false_and]
  refine T ?_
  refine C q0 F299 ?_
  refine C q1 F439 ?_
  refine Ae 2 (Ba { lineZ with row:=row,kind:=2,dev:=dev,port:=port,cost:=cost,vlan:=vlan,tagged:=tagged }) rfl (.cons (.refl _) (.cons (.refl _) (.cons (.refl _) (.cons (.refl _) (.cons (.refl _) (.cons (.refl _) (.cons (.refl _) (.cons (.refl _) (.cons (.refl _) (.cons (.refl _) (.cons (.refl _) (.cons (.refl _) (.cons (.refl _) (.cons (.refl _) (.cons .nil (.cons .nil (.cons .nil .nil))))))))))))))))) ?_
  refine T ?_
  exact D
 rw[Bool.true_and]
 cases b2
 ·rw[Bool.false_and]
  refine T ?_
  refine C q0 F299 ?_
  refine C q1 F439 ?_
  refine C q2 F439 ?_
  refine Ae 2 (Ba { lineZ with row:=row,kind:=2,dev:=dev,port:=port,cost:=cost,vlan:=vlan,tagged:=tagged }) rfl (.cons (.refl _) (.cons (.refl _) (.cons (.refl _) (.cons (.refl _) (.cons (.refl _) (.cons (.refl _) (.cons (.refl _) (.cons (.refl _) (.cons (.refl _) (.cons (.refl _) (.cons (.refl _) (.cons (.refl _) (.cons (.refl _) (.cons (.refl _) (.cons .nil (.cons .nil (.cons .nil .nil))))))))))))))))) ?_
  refine T ?_
  exact D
 rw[Bool.true_and]
 cases b3
 ·rw[Bool.false_and]
  refine T ?_
  refine C q0 F299 ?_
  refine C q1 F439 ?_
  refine C q2 F439 ?_
  refine C q3 F440 ?_
  refine Ae 2 (Ba { lineZ with row:=row,kind:=2,dev:=dev,port:=port,cost:=cost,vlan:=vlan,tagged:=tagged }) rfl (.cons (.refl _) (.cons (.refl _) (.cons (.refl _) (.cons (.refl _) (.cons (.refl _) (.cons (.refl _) (.cons (.refl _) (.cons (.refl _) (.cons (.refl _) (.cons (.refl _) (.cons (.refl _) (.cons (.refl _) (.cons (.refl _) (.cons (.refl _) (.cons .nil (.cons .nil (.cons .nil .nil))))))))))))))))) ?_
  refine T ?_
  exact D
 rw[Bool.true_and]
 refine T ?_
 refine C q0 F299 ?_
 refine C q1 F439 ?_
 refine C q2 F439 ?_
 refine C q3 F440 ?_
 refine C q4 F302 ?_
 refine Ae 2 (Ba { lineZ with row:=row,kind:=2,dev:=dev,port:=port,cost:=cost,vlan:=vlan,tagged:=tagged }) rfl (.cons (.refl _) (.cons (.refl _) (.cons (.refl _) (.cons (.refl _) (.cons (.refl _) (.cons (.refl _) (.cons (.refl _) (.cons (.refl _) (.cons (.refl _) (.cons (.refl _) (.cons (.refl _) (.cons (.refl _) (.cons (.refl _) (.cons (.refl _) (.cons .nil (.cons .nil (.cons .nil .nil))))))))))))))))) ?_
 refine T ?_
 exact D
theorem Xv (l:LineM) (hw:LineW l) (hk:l.kind=3):Sy.Spec Tryz.prog 410 [Aj l] [] (.tup [Aj (Av l).1,Ab (Av l).2]) []:=cT F410 Tryz.ntmps410 fun F hF=>by
 have hU:Av l=({ lineZ with row:=l.row,kind:=3,dev:=l.dev,port:=l.port,peer:=l.peer,far:=l.far },(Ap l.port && (Ap l.peer && Ap l.far))):=by
  simp only[Av,hk]
  rfl
 rw[hU]
 have q0:=Ea l.port (by have:=hw.port;omega)
 have q1:=Ea l.peer (by have:=hw.peer;omega)
 have q2:=Ea l.far (by have:=hw.far;omega)
 obtain ⟨row,kind,dev,port,peer,far,name,mac,addr,bits,vlan,num,cost,tagged,imports,exports,addrs⟩:=l
 dsimp only at hk q0 q1 q2 ⊢
 subst hk
 clear hU hw
 generalize Ap port=b0 at *
 generalize Ap peer=b1 at *
 generalize Ap far=b2 at *
 cases b0
 ·rw[Bool.false_and]
  refine T ?_
  refine C q0 F299 ?_
  refine Ae 2 (Ba { lineZ with row:=row,kind:=3,dev:=dev,port:=port,peer:=peer,far:=far }) rfl (.cons (.refl _) (.cons (.refl _) (.cons (.refl _) (.cons (.refl _) (.cons (.refl _) (.cons (.refl _) (.cons (.refl _) (.cons (.refl _) (.cons (.refl _) (.cons (.refl _) (.cons (.refl _) (.cons (.refl _) (.cons (.refl _) (.cons .nil (.cons .nil (.cons .nil (.cons .nil .nil))))))))))))))))) ?_
  refine T ?_
  exact D
 rw[Bool.true_and]
 cases b1
 ·rw[Bool.false_and]
  refine T ?_
  refine C q0 F299 ?_
  refine C q1 F299 ?_
  refine Ae 2 (Ba { lineZ with row:=row,kind:=3,dev:=dev,port:=port,peer:=peer,far:=far }) rfl (.cons (.refl _) (.cons (.refl _) (.cons (.refl _) (.cons (.refl _) (.cons (.refl _) (.cons (.refl _) (.cons (.refl _) (.cons (.refl _) (.cons (.refl _) (.cons (.refl _) (.cons (.refl _) (.cons (.refl _) (.cons (.refl _) (.cons .nil (.cons .nil (.cons .nil (.cons .nil .nil))))))))))))))))) ?_
  refine T ?_
  exact D
 rw[Bool.true_and]
 refine T ?_
 refine C q0 F299 ?_
 refine C q1 F299 ?_
 refine C q2 F299 ?_
 refine Ae 2 (Ba { lineZ with row:=row,kind:=3,dev:=dev,port:=port,peer:=peer,far:=far }) rfl (.cons (.refl _) (.cons (.refl _) (.cons (.refl _) (.cons (.refl _) (.cons (.refl _) (.cons (.refl _) (.cons (.refl _) (.cons (.refl _) (.cons (.refl _) (.cons (.refl _) (.cons (.refl _) (.cons (.refl _) (.cons (.refl _) (.cons .nil (.cons .nil (.cons .nil (.cons .nil .nil))))))))))))))))) ?_
 refine T ?_
 exact D
theorem Xu (l:LineM) (hw:LineW l) (hk:l.kind=4):Sy.Spec Tryz.prog 410 [Aj l] [] (.tup [Aj (Av l).1,Ab (Av l).2]) []:=cT F410 Tryz.ntmps410 fun F hF=>by
 have hU:Av l=({ lineZ with row:=l.row,kind:=4,dev:=l.dev,vlan:=l.vlan,mac:=l.mac,port:=l.port },(Bf l.vlan 1 4094 && (statB l.mac && Ap l.port))):=by
  simp only[Av,hk]
  rfl
 rw[hU]
 have q0:=Cy l.vlan 1 4094
 have q1:Sy.Spec Tryz.prog 301 [Dv l.mac] [] (Ab (statB l.mac)) []:=by
  have:=hw.ok.mac
  obtain ⟨m,hm1⟩:∃ m:Nat,l.mac=m:=⟨l.mac.toNat,by omega⟩
  rw[hm1];exact Qh m q_
 have q2:=Ea l.port (by have:=hw.port;omega)
 obtain ⟨row,kind,dev,port,peer,far,name,mac,addr,bits,vlan,num,cost,tagged,imports,exports,addrs⟩:=l
 dsimp only at hk q0 q1 q2 ⊢
 subst hk
 clear hU hw
 generalize Bf vlan 1 4094=b0 at *
 generalize statB mac=b1 at *
 generalize Ap port=b2 at *
 cases b0
 ·rw[Bool.false_and]
  refine T ?_
  refine C q0 F439 ?_
  refine Ae 2 (Ba { lineZ with row:=row,kind:=4,dev:=dev,vlan:=vlan,mac:=mac,port:=port }) rfl (.cons (.refl _) (.cons (.refl _) (.cons (.refl _) (.cons (.refl _) (.cons (.refl _) (.cons (.refl _) (.cons (.refl _) (.cons (.refl _) (.cons (.refl _) (.cons (.refl _) (.cons (.refl _) (.cons (.refl _) (.cons (.refl _) (.cons .nil (.cons .nil (.cons .nil (.cons .nil .nil))))))))))))))))) ?_
  refine T ?_
  exact D
 rw[Bool.true_and]
 cases b1
 ·rw[Bool.false_and]
  refine T ?_
  refine C q0 F439 ?_
  refine C q1 F301 ?_
  refine Ae 2 (Ba { lineZ with row:=row,kind:=4,dev:=dev,vlan:=vlan,mac:=mac,port:=port }) rfl (.cons (.refl _) (.cons (.refl _) (.cons (.refl _) (.cons (.refl _) (.cons (.refl _) (.cons (.refl _) (.cons (.refl _) (.cons (.refl _) (.cons (.refl _) (.cons (.refl _) (.cons (.refl _) (.cons (.refl _) (.cons (.refl _) (.cons .nil (.cons .nil (.cons .nil (.cons .nil .nil))))))))))))))))) ?_
  refine T ?_
  exact D
 rw[Bool.true_and]
 refine T ?_
 refine C q0 F439 ?_
 refine C q1 F301 ?_
 refine C q2 F299 ?_
 refine Ae 2 (Ba { lineZ with row:=row,kind:=4,dev:=dev,vlan:=vlan,mac:=mac,port:=port }) rfl (.cons (.refl _) (.cons (.refl _) (.cons (.refl _) (.cons (.refl _) (.cons (.refl _) (.cons (.refl _) (.cons (.refl _) (.cons (.refl _) (.cons (.refl _) (.cons (.refl _) (.cons (.refl _) (.cons (.refl _) (.cons (.refl _) (.cons .nil (.cons .nil (.cons .nil (.cons .nil .nil))))))))))))))))) ?_
 refine T ?_
 exact D
theorem Xs (l:LineM) (hw:LineW l) (hk:l.kind=6):Sy.Spec Tryz.prog 410 [Aj l] [] (.tup [Aj (Av l).1,Ab (Av l).2]) []:=cT F410 Tryz.ntmps410 fun F hF=>by
 have hU:Av l=({ lineZ with row:=l.row,kind:=6,dev:=l.dev,vlan:=l.vlan,num:=l.num },(Bf l.vlan 1 4094 && Bf l.num 1 16777215)):=by
  simp only[Av,hk]
  rfl
 rw[hU]
 have q0:=Cy l.vlan 1 4094
 have q1:=Cy l.num 1 16777215
 obtain ⟨row,kind,dev,port,peer,far,name,mac,addr,bits,vlan,num,cost,tagged,imports,exports,addrs⟩:=l
 dsimp only at hk q0 q1 ⊢
 subst hk
 clear hU hw
 generalize Bf vlan 1 4094=b0 at *
 generalize Bf num 1 16777215=b1 at *
 cases b0
 ·rw[Bool.false_and]
  refine T ?_
  refine C q0 F439 ?_
  refine Ae 2 (Ba { lineZ with row:=row,kind:=6,dev:=dev,vlan:=vlan,num:=num }) rfl (.cons (.refl _) (.cons (.refl _) (.cons (.refl _) (.cons (.refl _) (.cons (.refl _) (.cons (.refl _) (.cons (.refl _) (.cons (.refl _) (.cons (.refl _) (.cons (.refl _) (.cons (.refl _) (.cons (.refl _) (.cons (.refl _) (.cons .nil (.cons .nil (.cons .nil (.cons .nil .nil))))))))))))))))) ?_
  refine T ?_
  exact D
 rw[Bool.true_and]
 refine T ?_
 refine C q0 F439 ?_
 refine C q1 F439 ?_
 refine Ae 2 (Ba { lineZ with row:=row,kind:=6,dev:=dev,vlan:=vlan,num:=num }) rfl (.cons (.refl _) (.cons (.refl _) (.cons (.refl _) (.cons (.refl _) (.cons (.refl _) (.cons (.refl _) (.cons (.refl _) (.cons (.refl _) (.cons (.refl _) (.cons (.refl _) (.cons (.refl _) (.cons (.refl _) (.cons (.refl _) (.cons .nil (.cons .nil (.cons .nil (.cons .nil .nil))))))))))))))))) ?_
 refine T ?_
 exact D
theorem Xr (l:LineM) (hw:LineW l) (hk:l.kind=7):Sy.Spec Tryz.prog 410 [Aj l] [] (.tup [Aj (Av l).1,Ab (Av l).2]) []:=cT F410 Tryz.ntmps410 fun F hF=>by
 have hU:Av l=({ lineZ with row:=l.row,kind:=7,dev:=l.dev,num:=l.num,addrs:=l.addrs },(Bf l.num 1 16777215 && Ej l.addrs)):=by
  simp only[Av,hk]
  rfl
 rw[hU]
 have q0:=Cy l.num 1 16777215
 have q1:=X8 l.addrs hw.fin.a
 obtain ⟨row,kind,dev,port,peer,far,name,mac,addr,bits,vlan,num,cost,tagged,imports,exports,addrs⟩:=l
 dsimp only at hk q0 q1 ⊢
 subst hk
 clear hU hw
 generalize Bf num 1 16777215=b0 at *
 generalize Ej addrs=b1 at *
 cases b0
 ·rw[Bool.false_and]
  refine T ?_
  refine C q0 F439 ?_
  refine Ae 2 (Ba { lineZ with row:=row,kind:=7,dev:=dev,num:=num,addrs:=addrs }) rfl (.cons (.refl _) (.cons (.refl _) (.cons (.refl _) (.cons (.refl _) (.cons (.refl _) (.cons (.refl _) (.cons (.refl _) (.cons (.refl _) (.cons (.refl _) (.cons (.refl _) (.cons (.refl _) (.cons (.refl _) (.cons (.refl _) (.cons .nil (.cons .nil (.cons .nil (.cons (.refl _) .nil))))))))))))))))) ?_
  refine T ?_
  exact D
 rw[Bool.true_and]
 refine T ?_
 refine C q0 F439 ?_
 refine C q1 F441 ?_
 refine Ae 2 (Ba { lineZ with row:=row,kind:=7,dev:=dev,num:=num,addrs:=addrs }) rfl (.cons (.refl _) (.cons (.refl _) (.cons (.refl _) (.cons (.refl _) (.cons (.refl _) (.cons (.refl _) (.cons (.refl _) (.cons (.refl _) (.cons (.refl _) (.cons (.refl _) (.cons (.refl _) (.cons (.refl _) (.cons (.refl _) (.cons .nil (.cons .nil (.cons .nil (.cons (.refl _) .nil))))))))))))))))) ?_
 refine T ?_
 exact D
theorem Xq (l:LineM) (hw:LineW l) (hk:l.kind=8):Sy.Spec Tryz.prog 410 [Aj l] [] (.tup [Aj (Av l).1,Ab (Av l).2]) []:=cT F410 Tryz.ntmps410 fun F hF=>by
 have hU:Av l=({ lineZ with row:=l.row,kind:=8,dev:=l.dev,name:=l.name,imports:=l.imports,exports:=l.exports },(Ap l.name && (Ch l.imports 65535 && Ch l.exports 65535))):=by
  simp only[Av,hk]
  rfl
 rw[hU]
 have q0:=Ea l.name (by have:=hw.name;omega)
 have q1:=Mk l.imports 65535 hw.fin.i
 have q2:=Mk l.exports 65535 hw.fin.e
 obtain ⟨row,kind,dev,port,peer,far,name,mac,addr,bits,vlan,num,cost,tagged,imports,exports,addrs⟩:=l
 dsimp only at hk q0 q1 q2 ⊢
 subst hk
 clear hU hw
 generalize Ap name=b0 at *
 generalize Ch imports 65535=b1 at *
 generalize Ch exports 65535=b2 at *
 cases b0
 ·rw[Bool.false_and]
  refine T ?_
  refine C q0 F299 ?_
  refine Ae 2 (Ba { lineZ with row:=row,kind:=8,dev:=dev,name:=name,imports:=imports,exports:=exports }) rfl (.cons (.refl _) (.cons (.refl _) (.cons (.refl _) (.cons (.refl _) (.cons (.refl _) (.cons (.refl _) (.cons (.refl _) (.cons (.refl _) (.cons (.refl _) (.cons (.refl _) (.cons (.refl _) (.cons (.refl _) (.cons (.refl _) (.cons .nil (.cons (.refl _) (.cons (.refl _) (.cons .nil .nil))))))))))))))))) ?_
  refine T ?_
  exact D
 rw[Bool.true_and]
 cases b1
 ·rw[Bool.false_and]
  refine T ?_
  refine C q0 F299 ?_
  refine C q1 F440 ?_
  refine Ae 2 (Ba { lineZ with row:=row,kind:=8,dev:=dev,name:=name,imports:=imports,exports:=exports }) rfl (.cons (.refl _) (.cons (.refl _) (.cons (.refl _) (.cons (.refl _) (.cons (.refl _) (.cons (.refl _) (.cons (.refl _) (.cons (.refl _) (.cons (.refl _) (.cons (.refl _) (.cons (.refl _) (.cons (.refl _) (.cons (.refl _) (.cons .nil (.cons (.refl _) (.cons (.refl _) (.cons .nil .nil))))))))))))))))) ?_
  refine T ?_
  exact D
 rw[Bool.true_and]
 refine T ?_
 refine C q0 F299 ?_
 refine C q1 F440 ?_
 refine C q2 F440 ?_
 refine Ae 2 (Ba { lineZ with row:=row,kind:=8,dev:=dev,name:=name,imports:=imports,exports:=exports }) rfl (.cons (.refl _) (.cons (.refl _) (.cons (.refl _) (.cons (.refl _) (.cons (.refl _) (.cons (.refl _) (.cons (.refl _) (.cons (.refl _) (.cons (.refl _) (.cons (.refl _) (.cons (.refl _) (.cons (.refl _) (.cons (.refl _) (.cons .nil (.cons (.refl _) (.cons (.refl _) (.cons .nil .nil))))))))))))))))) ?_
 refine T ?_
 exact D
theorem Xp (l:LineM) (hw:LineW l) (hk:l.kind=9):Sy.Spec Tryz.prog 410 [Aj l] [] (.tup [Aj (Av l).1,Ab (Av l).2]) []:=cT F410 Tryz.ntmps410 fun F hF=>by
 have hU:Av l=({ lineZ with row:=l.row,kind:=9,dev:=l.dev,vlan:=l.vlan,name:=l.name,addr:=l.addr,bits:=l.bits },(Bf l.vlan 1 4094 && (Ap l.name && subnetB l.addr l.bits))):=by
  simp only[Av,hk]
  rfl
 rw[hU]
 have q0:=Cy l.vlan 1 4094
 have q1:=Ea l.name (by have:=hw.name;omega)
 have q2:Sy.Spec Tryz.prog 243 [Ho l.addr l.bits] [] (Ab (subnetB l.addr l.bits)) []:=by
  have:=hw.ok.addr
  obtain ⟨m,hm1⟩:∃ m:Nat,l.addr=m:=⟨l.addr.toNat,by omega⟩
  rw[hm1];exact M4 m l.bits q_
 obtain ⟨row,kind,dev,port,peer,far,name,mac,addr,bits,vlan,num,cost,tagged,imports,exports,addrs⟩:=l
 dsimp only at hk q0 q1 q2 ⊢
 subst hk
 clear hU hw
 generalize Bf vlan 1 4094=b0 at *
 generalize Ap name=b1 at *
 generalize subnetB addr bits=b2 at *
 cases b0
 ·rw[Bool.false_and]
  refine T ?_
  refine C q0 F439 ?_
  refine Ae 2 (Ba { lineZ with row:=row,kind:=9,dev:=dev,vlan:=vlan,name:=name,addr:=addr,bits:=bits }) rfl (.cons (.refl _) (.cons (.refl _) (.cons (.refl _) (.cons (.refl _) (.cons (.refl _) (.cons (.refl _) (.cons (.refl _) (.cons (.refl _) (.cons (.refl _) (.cons (.refl _) (.cons (.refl _) (.cons (.refl _) (.cons (.refl _) (.cons .nil (.cons .nil (.cons .nil (.cons .nil .nil))))))))))))))))) ?_
  refine T ?_
  exact D
 rw[Bool.true_and]
 cases b1
 ·rw[Bool.false_and]
  refine T ?_
  refine C q0 F439 ?_
  refine C q1 F299 ?_
  refine Ae 2 (Ba { lineZ with row:=row,kind:=9,dev:=dev,vlan:=vlan,name:=name,addr:=addr,bits:=bits }) rfl (.cons (.refl _) (.cons (.refl _) (.cons (.refl _) (.cons (.refl _) (.cons (.refl _) (.cons (.refl _) (.cons (.refl _) (.cons (.refl _) (.cons (.refl _) (.cons (.refl _) (.cons (.refl _) (.cons (.refl _) (.cons (.refl _) (.cons .nil (.cons .nil (.cons .nil (.cons .nil .nil))))))))))))))))) ?_
  refine T ?_
  exact D
 rw[Bool.true_and]
 refine T ?_
 refine C q0 F439 ?_
 refine C q1 F299 ?_
 refine C q2 F243 ?_
 refine Ae 2 (Ba { lineZ with row:=row,kind:=9,dev:=dev,vlan:=vlan,name:=name,addr:=addr,bits:=bits }) rfl (.cons (.refl _) (.cons (.refl _) (.cons (.refl _) (.cons (.refl _) (.cons (.refl _) (.cons (.refl _) (.cons (.refl _) (.cons (.refl _) (.cons (.refl _) (.cons (.refl _) (.cons (.refl _) (.cons (.refl _) (.cons (.refl _) (.cons .nil (.cons .nil (.cons .nil (.cons .nil .nil))))))))))))))))) ?_
 refine T ?_
 exact D
theorem Xt (l:LineM) (hw:LineW l) (hk:l.kind=5):Sy.Spec Tryz.prog 410 [Aj l] [] (.tup [Aj (Av l).1,Ab (Av l).2]) []:=cT F410 Tryz.ntmps410 fun F hF=>by
 have hU:Av l=({ lineZ with row:=l.row,kind:=5,dev:=l.dev,addr:=l.addr },decide (l.addr≠0)):=by
  simp only[Av,hk]
  rfl
 rw[hU]
 obtain ⟨row,kind,dev,port,peer,far,name,mac,addr,bits,vlan,num,cost,tagged,imports,exports,addrs⟩:=l
 dsimp only at hk ⊢
 subst hk
 clear hU hw
 have hb:decide (addr≠0)=(addr != 0):=by
  by_cases h:addr=0
  ·rw[h];rfl
  ·rw[decide_eq_true h,bne_iff_ne.2 h]
 rw[hb]
 refine T ?_
 refine Ae 2 (Ba { lineZ with row:=row,kind:=5,dev:=dev,addr:=addr }) rfl (.cons (.refl _) (.cons (.refl _) (.cons (.refl _) (.cons (.refl _) (.cons (.refl _) (.cons (.refl _) (.cons (.refl _) (.cons (.refl _) (.cons (.refl _) (.cons (.refl _) (.cons (.refl _) (.cons (.refl _) (.cons (.refl _) (.cons .nil (.cons .nil (.cons .nil (.cons .nil .nil))))))))))))))))) ?_
 refine T ?_
 exact D
theorem Xy (l:LineM) (hk:¬ (1≤l.kind∧l.kind≤9)):Sy.Spec Tryz.prog 410 [Aj l] [] (.tup [Aj (Av l).1,Ab (Av l).2]) []:=cT F410 Tryz.ntmps410 fun F hF=>by
 have n1:¬ l.kind=1:=by omega
 have f1:(l.kind == 1)=false:=beq_eq_false_iff_ne.2 n1
 have n2:¬ l.kind=2:=by omega
 have f2:(l.kind == 2)=false:=beq_eq_false_iff_ne.2 n2
 have n3:¬ l.kind=3:=by omega
 have f3:(l.kind == 3)=false:=beq_eq_false_iff_ne.2 n3
 have n4:¬ l.kind=4:=by omega
 have f4:(l.kind == 4)=false:=beq_eq_false_iff_ne.2 n4
 have n5:¬ l.kind=5:=by omega
 have f5:(l.kind == 5)=false:=beq_eq_false_iff_ne.2 n5
 have n6:¬ l.kind=6:=by omega
 have f6:(l.kind == 6)=false:=beq_eq_false_iff_ne.2 n6
 have n7:¬ l.kind=7:=by omega
 have f7:(l.kind == 7)=false:=beq_eq_false_iff_ne.2 n7
 have n8:¬ l.kind=8:=by omega
 have f8:(l.kind == 8)=false:=beq_eq_false_iff_ne.2 n8
 have n9:¬ l.kind=9:=by omega
 have f9:(l.kind == 9)=false:=beq_eq_false_iff_ne.2 n9
 have hU:Av l=({ lineZ with row:=l.row,kind:=l.kind,dev:=l.dev },false):=by
  simp only[Av,if_neg n1,if_neg n2,if_neg n3,if_neg n4,if_neg n5,if_neg n6,if_neg n7,if_neg n8,if_neg n9]
 rw[hU]
 refine T ?_
 refine Ae 2 (Ba { lineZ with row:=l.row,kind:=l.kind,dev:=l.dev }) rfl (.cons (.refl _) (.cons (.refl _) (.cons (.refl _) (.cons (.refl _) (.cons (.refl _) (.cons (.refl _) (.cons (.refl _) (.cons (.refl _) (.cons (.refl _) (.cons (.refl _) (.cons (.refl _) (.cons (.refl _) (.cons (.refl _) (.cons .nil (.cons .nil (.cons .nil (.cons .nil .nil))))))))))))))))) ?_
 refine T ?_
 exact D
theorem Aae (l:LineM) (hw:LineW l):Sy.Spec Tryz.prog 410 [Aj l] [] (.tup [Aj (Av l).1,Ab (Av l).2]) []:=by
 by_cases hk:1≤l.kind∧l.kind≤9
 ·rcases (by omega:l.kind=1∨l.kind=2∨l.kind=3∨l.kind=4∨l.kind=5∨l.kind=6∨l.kind=7∨l.kind=8∨l.kind=9) with h | h | h | h | h | h | h | h | h
  ·exact Xx l hw h
  ·exact Xw l hw h
  ·exact Xv l hw h
  ·exact Xu l hw h
  ·exact Xt l hw h
  ·exact Xs l hw h
  ·exact Xr l hw h
  ·exact Xq l hw h
  ·exact Xp l hw h
 ·exact Xy l hk
theorem Aab {l:LineM} (h:LineFin l):LineFin (Av l).1:=by
 have ht:=h.t;have hi:=h.i;have he:=h.e;have haa:=h.a
 unfold Av
 dsimp only
 repeat' split
 all_goals exact⟨by first | exact ht | (show 0≤100000;decide),by first | exact hi | (show 0≤100000;decide),by first | exact he | (show 0≤100000;decide),by first | exact haa | (show 0≤100000;decide)⟩
theorem En (l:LineM) (hw:LineW l):Sy.Spec Tryz.prog 343 [Aj l] [] (Ab (Bk l)) []:=cT F343 Tryz.ntmps343 fun F hF=>by
 have q1:=Aae l hw
 have q2:=Ea l.dev (by have:=hw.dev;omega)
 have q3:=Aag (Av l).1 l (Aab hw.fin) hw.fin
 rw[Bk]
 generalize Av l=u at *
 obtain ⟨ul,ub⟩:=u
 dsimp only at q1 q3 ⊢
 cases ub
 ·rw[Bool.false_and]
  refine T ?_
  refine C q1 F410 ?_
  exact D
 rw[Bool.true_and]
 cases hn:Ap l.dev
 ·rw[hn]at q2
  rw[Bool.false_and]
  refine T ?_
  refine C q1 F410 ?_
  refine C q2 F299 ?_
  exact D
 rw[hn]at q2
 rw[Bool.true_and]
 refine T ?_
 refine C q1 F410 ?_
 refine C q2 F299 ?_
 refine C q3 F411 ?_
 exact D
def E3 (e:Int) (l:List (Bool × Int)):Int:=l.foldl (fun e x=>Ad e x.1 x.2) e
theorem Ol:∀ (l:List (Bool × Int)) (e:Int),(∀ x∈l,x.2≠0)→E3 e l=if e=0 then Ay l else e
 | [],e,_=>by
  show e=_
  split
  ·rename_i h;rw[h];rfl
  ·rfl
 | (b,c)::l,e,h=>by
  have hc:=h (b,c) y_
  have ih:=Ol l (Ad e b c) (fun x hx=>h x (by simp[hx]))
  show E3 (Ad e b c) l=_
  rw[ih,Ay]
  dsimp only at hc
  by_cases he:e=0
  ·subst he
   cases b with
   | true=>simp[Ad,hc]
   | false=>simp[Ad]
  ·have:Ad e b c=e:=by rw[Ad,if_neg (fun x=>he x.2)]
   rw[this,if_neg he,if_neg he]
theorem B2 (l:List (Bool × Int)) (h:∀ x∈l,x.2≠0):Ay l=E3 0 l:=by rw[Ol l 0 h,if_pos rfl]
theorem Kh (e:Int) (a b:List (Bool × Int)):E3 e (a++b)=E3 (E3 e a) b:=List.foldl_append
abbrev rlO (w:List ByteArray) (i:Nat) (e:Int) (l:LineM):Obs:=[(0,.box [.sl 1 Ah w,Aa i,Aa e]),(1,.box (Ba l))]
def Acb (w:List ByteArray):Nat:=if wdT w 4=C2 then 6 else if wdT w 4=Ct then 7 else 5
theorem Od (most:Int) (s:ByteArray):(listR most s).1.length≤16:=by
 rw[listR]
 split
 ·simp
 ·rw[Db]
  cases h:Dn (fun p=>numR p 1 most) [] (Bj 44 s) with
  | mk l b =>
   cases b with
   | true=>exact(Il _ _ _ _ h List.Pairwise.nil j_).2.1
   | false =>
    have:∀ (ps:List ByteArray) (out r:List Int),Dn (fun p=>numR p 1 most) out ps=(r,false)→r=[]:=by
     intro ps
     induction ps with
     | nil=>intro out r h;rw[Dn]at h;simp at h
     | cons p ps ih =>
      intro out r h
      rw[Dn]at h
      split at h
      ·simp at h;exact h
      ·exact ih _ _ h
    rw[this _ _ _ h];simp
set_option maxRecDepth 100000 in
theorem Ad6 (w:List ByteArray) (e:Int) (l:LineM) (hw:w.length≤1000000) (hs:∀ s∈w,s.size≤40) (h4:4<w.length) (ha:wdT w 4=C2→5<w.length) (htr:wdT w 4=Ct→6<w.length) (hl0:l.vlan=0∧l.tagged=[]) :
  Sy.Spec Tryz.prog 236 [.ptr 0 0,.ptr 1 0] (rlO w 4 e l) (.tup []) (rlO w (Acb w) (E3 e ((Cf w).2.2++[(!(membersB (Cf w).1 (Cf w).2.1),21)])) { l with vlan:=(Cf w).1,tagged:=(Cf w).2.1 }):=cT F236 Tryz.ntmps236 fun F hF=>by
 obtain ⟨row,kind,dev,port,peer,far,name,mac,addr,bits,vlan,num,cost,tagged,imports,exports,addrs⟩:=l
 obtain ⟨g1,g2⟩:=hl0
 dsimp only at g1 g2
 subst g1 g2
 have q0:Sy.Spec Tryz.prog 238 [.ptr 0 0] (rdO w 4 e) (Ah (wdT w 4)) (rdO w 5 e):=H5 w 4 e h4 hw
 rw[Acb,Cf,Kh]
 by_cases c1:wdT w 4=C2
 ·have b1:(wdT w 4 == (⟨#[97,99,99,101,115,115]⟩:ByteArray))=true:=C1 c1
  have q1:=Ls w 5 e (ha c1) hw
  rw[if_pos c1,if_pos c1]
  have q2:=D7 ⟨row,kind,dev,port,peer,far,name,mac,addr,bits,(Bl (wdT w 5)).1,num,cost,[],imports,exports,addrs⟩ (by simp[Aq])
  dsimp only at q2 ⊢
  have hf1:E3 e [(!(Bl (wdT w 5)).2,21)]=Ad e (!(Bl (wdT w 5)).2) 21:=rfl
  rw[hf1]
  have q3:=fun b=>D1 w 6 (Ad e (!(Bl (wdT w 5)).2) 21) b 21
  generalize Ad e (!(Bl (wdT w 5)).2) 21=e1 at *
  generalize (Bl (wdT w 5)).1=v at *
  have hf2:E3 e1 [(!(membersB v []),21)]=Ad e1 (!(membersB v [])) 21:=rfl
  rw[hf2]
  have q3:=q3 (!(membersB v []))
  generalize Ad e1 (!(membersB v [])) 21=e2 at *
  generalize membersB v []=mb at *
  refine T ?_
  refine X (Ac [] E F238 q0 E W E V) ?_
  refine X (Ac [] E F232 q1 E W E V) ?_
  refine C q2 F302 ?_
  refine X (Ac [] E F235 q3 E W E V) ?_
  exact Cb E .nil [] (rlO w 6 e2 ⟨row,kind,dev,port,peer,far,name,mac,addr,bits,v,num,cost,[],imports,exports,addrs⟩) (fun _ h=>h) E E U
 ·have b1:(wdT w 4 == (⟨#[97,99,99,101,115,115]⟩:ByteArray))=false:=Du c1
  rw[if_neg c1,if_neg c1]
  by_cases c2:wdT w 4=Ct
  ·have b2:(wdT w 4 == (⟨#[116,114,117,110,107]⟩:ByteArray))=true:=C1 c2
   have h6:=htr c2
   have h5:((5:Nat):Int).toNat<w.length:=by show 5<w.length;omega
   have e5:w[((5:Nat):Int).toNat]'h5=wdT w 5:=(B8 q_).symm
   rw[if_pos c2,if_pos c2]
   by_cases c3:wdT w 5=Aes
   ·have b3:(w[((5:Nat):Int).toNat]'h5 == (⟨#[45]⟩:ByteArray))=true:=C1 (by rw[e5];exact c3)
    rw[if_pos c3]
    have q1:=O5 w 6 e 4094 h6 hw hs
    have q2:=D7 ⟨row,kind,dev,port,peer,far,name,mac,addr,bits,0,num,cost,(listR 4094 (wdT w 6)).1,imports,exports,addrs⟩ (by have:=Od 4094 (wdT w 6);simp only[Aq];omega)
    dsimp only at q2 ⊢
    have hf1:E3 e [(!(listR 4094 (wdT w 6)).2,21)]=Ad e (!(listR 4094 (wdT w 6)).2) 21:=rfl
    rw[hf1]
    have q3:=fun b=>D1 w 7 (Ad e (!(listR 4094 (wdT w 6)).2) 21) b 21
    generalize Ad e (!(listR 4094 (wdT w 6)).2) 21=e1 at *
    generalize (listR 4094 (wdT w 6)).1=v at *
    have hf2:E3 e1 [(!(membersB 0 v),21)]=Ad e1 (!(membersB 0 v)) 21:=rfl
    rw[hf2]
    have q3:=q3 (!(membersB 0 v))
    generalize Ad e1 (!(membersB 0 v)) 21=e2 at *
    generalize membersB 0 v=mb at *
    refine T ?_
    refine X (Ac [] E F238 q0 E W E V) ?_
    refine X (Ac [] E F241 q1 E W E V) ?_
    refine C q2 F302 ?_
    refine X (Ac [] E F235 q3 E W E V) ?_
    exact Cb E .nil [] (rlO w 7 e2 ⟨row,kind,dev,port,peer,far,name,mac,addr,bits,0,num,cost,v,imports,exports,addrs⟩) (fun _ h=>h) E E U
   ·have b3:(w[((5:Nat):Int).toNat]'h5 == (⟨#[45]⟩:ByteArray))=false:=Du (by rw[e5];exact c3)
    rw[if_neg c3]
    have q4:=Ls w 5 e q_ hw
    have hf1:E3 e [(!(Bl (wdT w 5)).2,21),(!(listR 4094 (wdT w 6)).2,21)]=Ad (Ad e (!(Bl (wdT w 5)).2) 21) (!(listR 4094 (wdT w 6)).2) 21:=rfl
    dsimp only
    rw[hf1]
    generalize Ad e (!(Bl (wdT w 5)).2) 21=e0 at *
    have q1:=O5 w 6 e0 4094 h6 hw hs
    have q2:=D7 ⟨row,kind,dev,port,peer,far,name,mac,addr,bits,(Bl (wdT w 5)).1,num,cost,(listR 4094 (wdT w 6)).1,imports,exports,addrs⟩ (by have:=Od 4094 (wdT w 6);simp only[Aq];omega)
    dsimp only at q2
    have q3:=fun b=>D1 w 7 (Ad e0 (!(listR 4094 (wdT w 6)).2) 21) b 21
    generalize Ad e0 (!(listR 4094 (wdT w 6)).2) 21=e1 at *
    generalize (listR 4094 (wdT w 6)).1=v at *
    generalize (Bl (wdT w 5)).1=u at *
    have hf2:E3 e1 [(!(membersB u v),21)]=Ad e1 (!(membersB u v)) 21:=rfl
    rw[hf2]
    have q3:=q3 (!(membersB u v))
    generalize Ad e1 (!(membersB u v)) 21=e2 at *
    generalize membersB u v=mb at *
    refine T ?_
    refine X (Ac [] E F238 q0 E W E V) ?_
    refine X (Ac [] E F232 q4 E W E V) ?_
    refine X (Ac [] E F241 q1 E W E V) ?_
    refine C q2 F302 ?_
    refine X (Ac [] E F235 q3 E W E V) ?_
    exact Cb E .nil [] (rlO w 7 e2 ⟨row,kind,dev,port,peer,far,name,mac,addr,bits,u,num,cost,v,imports,exports,addrs⟩) (fun _ h=>h) E E U
  ·have b2:(wdT w 4 == (⟨#[116,114,117,110,107]⟩:ByteArray))=false:=Du c2
   rw[if_neg c2,if_neg c2]
   have q2:=D7 ⟨row,kind,dev,port,peer,far,name,mac,addr,bits,0,num,cost,[],imports,exports,addrs⟩ (by simp[Aq])
   dsimp only at q2 ⊢
   have hf2:E3 (E3 e []) [(!(membersB 0 []),21)]=Ad e (!(membersB 0 [])) 21:=rfl
   rw[hf2]
   have q3:=D1 w 5 e (!(membersB 0 [])) 21
   generalize Ad e (!(membersB 0 [])) 21=e2 at *
   generalize membersB 0 []=mb at *
   refine T ?_
   refine X (Ac [] E F238 q0 E W E V) ?_
   refine C q2 F302 ?_
   refine X (Ac [] E F235 q3 E W E V) ?_
   exact Cb E .nil [] (rlO w 5 e2 ⟨row,kind,dev,port,peer,far,name,mac,addr,bits,0,num,cost,[],imports,exports,addrs⟩) (fun _ h=>h) E E U
theorem Oh (s:ByteArray):0≤kindL s∧kindL s≤9:=by
 rw[kindL]
 repeat' split
 all_goals decide
theorem Dx {k:Int} {w:List ByteArray} (h:manyB k w=true):(k=1∨k=6∨k=7→w.length=4)∧(k=3∨k=4∨k=8∨k=9→w.length=5)∧(k=5→w.length=3)∧(k=2→6≤w.length∧w.length≤7∧(wdT w 4=Ct→w.length=7))∧k≠0:=by
 rw[manyB]at h
 by_cases h0:k=0
 ·rw[if_pos h0]at h;cases h
 rw[if_neg h0]at h
 by_cases h2:k=2
 ·rw[if_pos h2]at h
  by_cases h6:w.length<6
  ·rw[if_pos h6]at h;cases h
  rw[if_neg h6]at h
  refine⟨fun x=>by omega,fun x=>by omega,fun x=>by omega,fun _=>?_,h0⟩
  by_cases ca:wdT w 4=C2
  ·rw[if_pos ca]at h
   have:=of_decide_eq_true h
   refine⟨by omega,by omega,fun x=>?_⟩
   rw[ca]at x
   exact absurd x Ub
  ·rw[if_neg ca]at h
   by_cases ctr:wdT w 4=Ct
   ·rw[if_pos ctr]at h
    have:=of_decide_eq_true h
    exact⟨by omega,by omega,fun _=>this⟩
   ·rw[if_neg ctr]at h
    have:=of_decide_eq_true h
    exact⟨by omega,by omega,fun x=>absurd x ctr⟩
 rw[if_neg h2]at h
 by_cases h3:k=3∨k=4∨k=8∨k=9
 ·rw[if_pos h3]at h
  have:=of_decide_eq_true h
  exact⟨fun x=>by omega,fun _=>this,fun x=>by omega,fun x=>by omega,h0⟩
 rw[if_neg h3]at h
 by_cases h5:k=5
 ·rw[if_pos h5]at h
  have:=of_decide_eq_true h
  exact⟨fun x=>by omega,fun x=>by omega,fun _=>this,fun x=>by omega,h0⟩
 rw[if_neg h5]at h
 have:=of_decide_eq_true h
 exact⟨fun _=>this,fun x=>by omega,fun x=>by omega,fun x=>absurd x h2,h0⟩
theorem X7 (w:List ByteArray) (row:Int) (hw:w.length≤1000000) (hs:∀ s∈w,s.size≤40) (hne:0<w.length) (hk:kindL (wdT w 0)=1) (hmy:manyB 1 w=true) :
  Sy.Spec Tryz.prog 146 [.sl 1 Ah w,Aa row] [] (.tup [Aj (Bd w row).1,Aa (Bd w row).2]) []:=cT F146 Tryz.ntmps146 fun F hF=>by
 have hn0:(0:Int).toNat<w.length:=hne
 have f0:((w.length:Int) == 0)=false:=by rw[beq_eq_false_iff_ne];omega
 have hx0:w[(0:Int).toNat]'hn0=wdT w 0:=(B8 hne).symm
 have qk:Sy.Spec Tryz.prog 230 [Ah (w[(0:Int).toNat]'hn0)] [] (Aa 1) []:=by
  have:=C8 (wdT w 0)
  rw[hk]at this
  rw[hx0];exact this
 have qm:=C7 1 j_ w hw
 rw[hmy]at qm
 have hml:=Dx hmy
 have hsT:Bd w row=if Ay (A5 w row).2≠0 then (lineZ,Ay (A5 w row).2) else ((A5 w row).1,0):=by
  rw[Bd,if_neg]
  rintro (hh | hh)
  ·rw[hh]at hne;simp at hne
  ·rw[hk,hmy]at hh;cases hh
 have hfe:=B2 _ (Cd w row)
 have hl:w.length=4:=hml.1 j_
 have q1:=Cr w 1 (0:Int) q_ hw hs
 obtain ⟨e1,he1⟩:∃ e,Ad (0:Int) (!(Ap (wdT w 1))) 20=e:=⟨_,rfl⟩
 rw[he1]at q1
 have q2:=Ke w 2 e1 0 65535 q_ hw
 obtain ⟨e2,he2⟩:∃ e,Ad e1 (!(numR (wdT w 2) 0 65535).2) 21=e:=⟨_,rfl⟩
 rw[he2]at q2
 have q3:=Ab8 w 3 e2 q_ hw hs
 obtain ⟨e3,he3⟩:∃ e,Ad e2 (macE (wdT w 3)) 21=e:=⟨_,rfl⟩
 rw[he3]at q3
 have hR:A5 w row=({ lineZ with row:=row,kind:=1,dev:=wdT w 1,num:=(numR (wdT w 2) 0 65535).1,mac:=(macR (wdT w 3)).1 },[((!(Ap (wdT w 1))),20),((!(numR (wdT w 2) 0 65535).2),21),((macE (wdT w 3)),21)]):=by
  unfold A5
  simp only[hk]
  rfl
 rw[hR]at hsT hfe
 have hfe:Ay _=e3:=hfe.trans (by
  show Ad (Ad (Ad ((0:Int)) (!(Ap (wdT w 1))) 20) (!(numR (wdT w 2) 0 65535).2) 21) (macE (wdT w 3)) 21=_
  rw[he1,he2,he3])
 rw[hfe]at hsT
 rw[hsT]
 generalize e3=eN at *
 refine T ?_
 refine C qk F230 ?_
 refine C qm F229 ?_
 refine C qk F230 ?_
 refine Ae 9 (Ba { lineZ with row:=row,kind:=1 }) rfl (.cons (.refl _) (.cons (.refl _) (.cons (.refl _) (.cons (.refl _) (.cons (.refl _) (.cons (.refl _) (.cons (.refl _) (.cons (.refl _) (.cons (.refl _) (.cons (.refl _) (.cons (.refl _) (.cons (.refl _) (.cons (.refl _) (.cons .nil (.cons .nil (.cons .nil (.cons .nil .nil))))))))))))))))) ?_
 refine T ?_
 refine X (Am [(0,31)] (An E E F231) q1 E W E V) ?_
 refine X (Ac [(0,31)] E F233 q2 E W E V) ?_
 refine X (Ac [(0,31)] E F234 q3 E W E V) ?_
 cases hz:(eN != 0)
 ·have hz0:eN=0:=by simpa using hz
  rw[if_neg (by rw[hz0];simp)]
  refine T ?_
  exact D
 ·have hz0:eN≠0:=by simpa using hz
  rw[if_pos hz0]
  refine T ?_
  refine Ae 4 (Ba lineZ) E (.cons (.refl _) (.cons (.refl _) (.cons (.refl _) (.cons (.refl _) (.cons (.refl _) (.cons (.refl _) (.cons (.refl _) (.cons (.refl _) (.cons (.refl _) (.cons (.refl _) (.cons (.refl _) (.cons (.refl _) (.cons (.refl _) (.cons .nil (.cons .nil (.cons .nil (.cons .nil .nil))))))))))))))))) ?_
  refine T ?_
  exact D
theorem X5 (w:List ByteArray) (row:Int) (hw:w.length≤1000000) (hs:∀ s∈w,s.size≤40) (hne:0<w.length) (hk:kindL (wdT w 0)=3) (hmy:manyB 3 w=true) :
  Sy.Spec Tryz.prog 146 [.sl 1 Ah w,Aa row] [] (.tup [Aj (Bd w row).1,Aa (Bd w row).2]) []:=cT F146 Tryz.ntmps146 fun F hF=>by
 have hn0:(0:Int).toNat<w.length:=hne
 have f0:((w.length:Int) == 0)=false:=by rw[beq_eq_false_iff_ne];omega
 have hx0:w[(0:Int).toNat]'hn0=wdT w 0:=(B8 hne).symm
 have qk:Sy.Spec Tryz.prog 230 [Ah (w[(0:Int).toNat]'hn0)] [] (Aa 3) []:=by
  have:=C8 (wdT w 0)
  rw[hk]at this
  rw[hx0];exact this
 have qm:=C7 3 j_ w hw
 rw[hmy]at qm
 have hml:=Dx hmy
 have hsT:Bd w row=if Ay (A5 w row).2≠0 then (lineZ,Ay (A5 w row).2) else ((A5 w row).1,0):=by
  rw[Bd,if_neg]
  rintro (hh | hh)
  ·rw[hh]at hne;simp at hne
  ·rw[hk,hmy]at hh;cases hh
 have hfe:=B2 _ (Cd w row)
 have hl:w.length=5:=hml.2.1 j_
 have q1:=Cr w 1 (0:Int) q_ hw hs
 obtain ⟨e1,he1⟩:∃ e,Ad (0:Int) (!(Ap (wdT w 1))) 20=e:=⟨_,rfl⟩
 rw[he1]at q1
 have q2:=Cr w 2 e1 q_ hw hs
 obtain ⟨e2,he2⟩:∃ e,Ad e1 (!(Ap (wdT w 2))) 20=e:=⟨_,rfl⟩
 rw[he2]at q2
 have q3:=Cr w 3 e2 q_ hw hs
 obtain ⟨e3,he3⟩:∃ e,Ad e2 (!(Ap (wdT w 3))) 20=e:=⟨_,rfl⟩
 rw[he3]at q3
 have q4:=Cr w 4 e3 q_ hw hs
 obtain ⟨e4,he4⟩:∃ e,Ad e3 (!(Ap (wdT w 4))) 20=e:=⟨_,rfl⟩
 rw[he4]at q4
 have hR:A5 w row=({ lineZ with row:=row,kind:=3,dev:=wdT w 1,port:=wdT w 2,peer:=wdT w 3,far:=wdT w 4 },[((!(Ap (wdT w 1))),20),((!(Ap (wdT w 2))),20),((!(Ap (wdT w 3))),20),((!(Ap (wdT w 4))),20)]):=by
  unfold A5
  simp only[hk]
  rfl
 rw[hR]at hsT hfe
 have hfe:Ay _=e4:=hfe.trans (by
  show Ad (Ad (Ad (Ad ((0:Int)) (!(Ap (wdT w 1))) 20) (!(Ap (wdT w 2))) 20) (!(Ap (wdT w 3))) 20) (!(Ap (wdT w 4))) 20=_
  rw[he1,he2,he3,he4])
 rw[hfe]at hsT
 rw[hsT]
 generalize e4=eN at *
 refine T ?_
 refine C qk F230 ?_
 refine C qm F229 ?_
 refine C qk F230 ?_
 refine Ae 9 (Ba { lineZ with row:=row,kind:=3 }) rfl (.cons (.refl _) (.cons (.refl _) (.cons (.refl _) (.cons (.refl _) (.cons (.refl _) (.cons (.refl _) (.cons (.refl _) (.cons (.refl _) (.cons (.refl _) (.cons (.refl _) (.cons (.refl _) (.cons (.refl _) (.cons (.refl _) (.cons .nil (.cons .nil (.cons .nil (.cons .nil .nil))))))))))))))))) ?_
 refine T ?_
 refine X (Am [(0,31)] (An E E F231) q1 E W E V) ?_
 refine X (Am [(0,31)] (An E E F231) q2 E W E V) ?_
 refine X (Am [(0,31)] (An E E F231) q3 E W E V) ?_
 refine X (Am [(0,31)] (An E E F231) q4 E W E V) ?_
 cases hz:(eN != 0)
 ·have hz0:eN=0:=by simpa using hz
  rw[if_neg (by rw[hz0];simp)]
  refine T ?_
  exact D
 ·have hz0:eN≠0:=by simpa using hz
  rw[if_pos hz0]
  refine T ?_
  refine Ae 4 (Ba lineZ) E (.cons (.refl _) (.cons (.refl _) (.cons (.refl _) (.cons (.refl _) (.cons (.refl _) (.cons (.refl _) (.cons (.refl _) (.cons (.refl _) (.cons (.refl _) (.cons (.refl _) (.cons (.refl _) (.cons (.refl _) (.cons (.refl _) (.cons .nil (.cons .nil (.cons .nil (.cons .nil .nil))))))))))))))))) ?_
  refine T ?_
  exact D
theorem X4 (w:List ByteArray) (row:Int) (hw:w.length≤1000000) (hs:∀ s∈w,s.size≤40) (hne:0<w.length) (hk:kindL (wdT w 0)=4) (hmy:manyB 4 w=true) :
  Sy.Spec Tryz.prog 146 [.sl 1 Ah w,Aa row] [] (.tup [Aj (Bd w row).1,Aa (Bd w row).2]) []:=cT F146 Tryz.ntmps146 fun F hF=>by
 have hn0:(0:Int).toNat<w.length:=hne
 have f0:((w.length:Int) == 0)=false:=by rw[beq_eq_false_iff_ne];omega
 have hx0:w[(0:Int).toNat]'hn0=wdT w 0:=(B8 hne).symm
 have qk:Sy.Spec Tryz.prog 230 [Ah (w[(0:Int).toNat]'hn0)] [] (Aa 4) []:=by
  have:=C8 (wdT w 0)
  rw[hk]at this
  rw[hx0];exact this
 have qm:=C7 4 j_ w hw
 rw[hmy]at qm
 have hml:=Dx hmy
 have hsT:Bd w row=if Ay (A5 w row).2≠0 then (lineZ,Ay (A5 w row).2) else ((A5 w row).1,0):=by
  rw[Bd,if_neg]
  rintro (hh | hh)
  ·rw[hh]at hne;simp at hne
  ·rw[hk,hmy]at hh;cases hh
 have hfe:=B2 _ (Cd w row)
 have hl:w.length=5:=hml.2.1 j_
 have q1:=Cr w 1 (0:Int) q_ hw hs
 obtain ⟨e1,he1⟩:∃ e,Ad (0:Int) (!(Ap (wdT w 1))) 20=e:=⟨_,rfl⟩
 rw[he1]at q1
 have q2:=Ls w 2 e1 q_ hw
 obtain ⟨e2,he2⟩:∃ e,Ad e1 (!(Bl (wdT w 2)).2) 21=e:=⟨_,rfl⟩
 rw[he2]at q2
 have q3:=Ab8 w 3 e2 q_ hw hs
 obtain ⟨e3,he3⟩:∃ e,Ad e2 (macE (wdT w 3)) 21=e:=⟨_,rfl⟩
 rw[he3]at q3
 have q4:=Cr w 4 e3 q_ hw hs
 obtain ⟨e4,he4⟩:∃ e,Ad e3 (!(Ap (wdT w 4))) 20=e:=⟨_,rfl⟩
 rw[he4]at q4
 have hR:A5 w row=({ lineZ with row:=row,kind:=4,dev:=wdT w 1,vlan:=(Bl (wdT w 2)).1,mac:=(macR (wdT w 3)).1,port:=wdT w 4 },[((!(Ap (wdT w 1))),20),((!(Bl (wdT w 2)).2),21),((macE (wdT w 3)),21),((!(Ap (wdT w 4))),20)]):=by
  unfold A5
  simp only[hk]
  rfl
 rw[hR]at hsT hfe
 have hfe:Ay _=e4:=hfe.trans (by
  show Ad (Ad (Ad (Ad ((0:Int)) (!(Ap (wdT w 1))) 20) (!(Bl (wdT w 2)).2) 21) (macE (wdT w 3)) 21) (!(Ap (wdT w 4))) 20=_
  rw[he1,he2,he3,he4])
 rw[hfe]at hsT
 rw[hsT]
 generalize e4=eN at *
 refine T ?_
 refine C qk F230 ?_
 refine C qm F229 ?_
 refine C qk F230 ?_
 refine Ae 9 (Ba { lineZ with row:=row,kind:=4 }) rfl (.cons (.refl _) (.cons (.refl _) (.cons (.refl _) (.cons (.refl _) (.cons (.refl _) (.cons (.refl _) (.cons (.refl _) (.cons (.refl _) (.cons (.refl _) (.cons (.refl _) (.cons (.refl _) (.cons (.refl _) (.cons (.refl _) (.cons .nil (.cons .nil (.cons .nil (.cons .nil .nil))))))))))))))))) ?_
 refine T ?_
 refine X (Am [(0,31)] (An E E F231) q1 E W E V) ?_
 refine X (Am [(0,31)] (An E E F232) q2 E W E V) ?_
 refine X (Ac [(0,31)] E F234 q3 E W E V) ?_
 refine X (Am [(0,31)] (An E E F231) q4 E W E V) ?_
 cases hz:(eN != 0)
 ·have hz0:eN=0:=by simpa using hz
  rw[if_neg (by rw[hz0];simp)]
  refine T ?_
  exact D
 ·have hz0:eN≠0:=by simpa using hz
  rw[if_pos hz0]
  refine T ?_
  refine Ae 4 (Ba lineZ) E (.cons (.refl _) (.cons (.refl _) (.cons (.refl _) (.cons (.refl _) (.cons (.refl _) (.cons (.refl _) (.cons (.refl _) (.cons (.refl _) (.cons (.refl _) (.cons (.refl _) (.cons (.refl _) (.cons (.refl _) (.cons (.refl _) (.cons .nil (.cons .nil (.cons .nil (.cons .nil .nil))))))))))))))))) ?_
  refine T ?_
  exact D
theorem X2 (w:List ByteArray) (row:Int) (hw:w.length≤1000000) (hs:∀ s∈w,s.size≤40) (hne:0<w.length) (hk:kindL (wdT w 0)=6) (hmy:manyB 6 w=true) :
  Sy.Spec Tryz.prog 146 [.sl 1 Ah w,Aa row] [] (.tup [Aj (Bd w row).1,Aa (Bd w row).2]) []:=cT F146 Tryz.ntmps146 fun F hF=>by
 have hn0:(0:Int).toNat<w.length:=hne
 have f0:((w.length:Int) == 0)=false:=by rw[beq_eq_false_iff_ne];omega
 have hx0:w[(0:Int).toNat]'hn0=wdT w 0:=(B8 hne).symm
 have qk:Sy.Spec Tryz.prog 230 [Ah (w[(0:Int).toNat]'hn0)] [] (Aa 6) []:=by
  have:=C8 (wdT w 0)
  rw[hk]at this
  rw[hx0];exact this
 have qm:=C7 6 j_ w hw
 rw[hmy]at qm
 have hml:=Dx hmy
 have hsT:Bd w row=if Ay (A5 w row).2≠0 then (lineZ,Ay (A5 w row).2) else ((A5 w row).1,0):=by
  rw[Bd,if_neg]
  rintro (hh | hh)
  ·rw[hh]at hne;simp at hne
  ·rw[hk,hmy]at hh;cases hh
 have hfe:=B2 _ (Cd w row)
 have hl:w.length=4:=hml.1 j_
 have q1:=Cr w 1 (0:Int) q_ hw hs
 obtain ⟨e1,he1⟩:∃ e,Ad (0:Int) (!(Ap (wdT w 1))) 20=e:=⟨_,rfl⟩
 rw[he1]at q1
 have q2:=Ls w 2 e1 q_ hw
 obtain ⟨e2,he2⟩:∃ e,Ad e1 (!(Bl (wdT w 2)).2) 21=e:=⟨_,rfl⟩
 rw[he2]at q2
 have q3:=Ab7 w 3 e2 q_ hw
 obtain ⟨e3,he3⟩:∃ e,Ad e2 (!(Iu (wdT w 3)).2) 21=e:=⟨_,rfl⟩
 rw[he3]at q3
 have hR:A5 w row=({ lineZ with row:=row,kind:=6,dev:=wdT w 1,vlan:=(Bl (wdT w 2)).1,num:=(Iu (wdT w 3)).1 },[((!(Ap (wdT w 1))),20),((!(Bl (wdT w 2)).2),21),((!(Iu (wdT w 3)).2),21)]):=by
  unfold A5
  simp only[hk]
  rfl
 rw[hR]at hsT hfe
 have hfe:Ay _=e3:=hfe.trans (by
  show Ad (Ad (Ad ((0:Int)) (!(Ap (wdT w 1))) 20) (!(Bl (wdT w 2)).2) 21) (!(Iu (wdT w 3)).2) 21=_
  rw[he1,he2,he3])
 rw[hfe]at hsT
 rw[hsT]
 generalize e3=eN at *
 refine T ?_
 refine C qk F230 ?_
 refine C qm F229 ?_
 refine C qk F230 ?_
 refine Ae 9 (Ba { lineZ with row:=row,kind:=6 }) rfl (.cons (.refl _) (.cons (.refl _) (.cons (.refl _) (.cons (.refl _) (.cons (.refl _) (.cons (.refl _) (.cons (.refl _) (.cons (.refl _) (.cons (.refl _) (.cons (.refl _) (.cons (.refl _) (.cons (.refl _) (.cons (.refl _) (.cons .nil (.cons .nil (.cons .nil (.cons .nil .nil))))))))))))))))) ?_
 refine T ?_
 refine X (Am [(0,31)] (An E E F231) q1 E W E V) ?_
 refine X (Am [(0,31)] (An E E F232) q2 E W E V) ?_
 refine X (Ac [(0,31)] E F239 q3 E W E V) ?_
 cases hz:(eN != 0)
 ·have hz0:eN=0:=by simpa using hz
  rw[if_neg (by rw[hz0];simp)]
  refine T ?_
  exact D
 ·have hz0:eN≠0:=by simpa using hz
  rw[if_pos hz0]
  refine T ?_
  refine Ae 4 (Ba lineZ) E (.cons (.refl _) (.cons (.refl _) (.cons (.refl _) (.cons (.refl _) (.cons (.refl _) (.cons (.refl _) (.cons (.refl _) (.cons (.refl _) (.cons (.refl _) (.cons (.refl _) (.cons (.refl _) (.cons (.refl _) (.cons (.refl _) (.cons .nil (.cons .nil (.cons .nil (.cons .nil .nil))))))))))))))))) ?_
  refine T ?_
  exact D
theorem X0 (w:List ByteArray) (row:Int) (hw:w.length≤1000000) (hs:∀ s∈w,s.size≤40) (hne:0<w.length) (hk:kindL (wdT w 0)=8) (hmy:manyB 8 w=true) :
  Sy.Spec Tryz.prog 146 [.sl 1 Ah w,Aa row] [] (.tup [Aj (Bd w row).1,Aa (Bd w row).2]) []:=cT F146 Tryz.ntmps146 fun F hF=>by
 have hn0:(0:Int).toNat<w.length:=hne
 have f0:((w.length:Int) == 0)=false:=by rw[beq_eq_false_iff_ne];omega
 have hx0:w[(0:Int).toNat]'hn0=wdT w 0:=(B8 hne).symm
 have qk:Sy.Spec Tryz.prog 230 [Ah (w[(0:Int).toNat]'hn0)] [] (Aa 8) []:=by
  have:=C8 (wdT w 0)
  rw[hk]at this
  rw[hx0];exact this
 have qm:=C7 8 j_ w hw
 rw[hmy]at qm
 have hml:=Dx hmy
 have hsT:Bd w row=if Ay (A5 w row).2≠0 then (lineZ,Ay (A5 w row).2) else ((A5 w row).1,0):=by
  rw[Bd,if_neg]
  rintro (hh | hh)
  ·rw[hh]at hne;simp at hne
  ·rw[hk,hmy]at hh;cases hh
 have hfe:=B2 _ (Cd w row)
 have hl:w.length=5:=hml.2.1 j_
 have q1:=Cr w 1 (0:Int) q_ hw hs
 obtain ⟨e1,he1⟩:∃ e,Ad (0:Int) (!(Ap (wdT w 1))) 20=e:=⟨_,rfl⟩
 rw[he1]at q1
 have q2:=Cr w 2 e1 q_ hw hs
 obtain ⟨e2,he2⟩:∃ e,Ad e1 (!(Ap (wdT w 2))) 20=e:=⟨_,rfl⟩
 rw[he2]at q2
 have q3:=O5 w 3 e2 65535 q_ hw hs
 obtain ⟨e3,he3⟩:∃ e,Ad e2 (!(listR 65535 (wdT w 3)).2) 21=e:=⟨_,rfl⟩
 rw[he3]at q3
 have q4:=O5 w 4 e3 65535 q_ hw hs
 obtain ⟨e4,he4⟩:∃ e,Ad e3 (!(listR 65535 (wdT w 4)).2) 21=e:=⟨_,rfl⟩
 rw[he4]at q4
 have hR:A5 w row=({ lineZ with row:=row,kind:=8,dev:=wdT w 1,name:=wdT w 2,imports:=(listR 65535 (wdT w 3)).1,exports:=(listR 65535 (wdT w 4)).1 },[((!(Ap (wdT w 1))),20),((!(Ap (wdT w 2))),20),((!(listR 65535 (wdT w 3)).2),21),((!(listR 65535 (wdT w 4)).2),21)]):=by
  unfold A5
  simp only[hk]
  rfl
 rw[hR]at hsT hfe
 have hfe:Ay _=e4:=hfe.trans (by
  show Ad (Ad (Ad (Ad ((0:Int)) (!(Ap (wdT w 1))) 20) (!(Ap (wdT w 2))) 20) (!(listR 65535 (wdT w 3)).2) 21) (!(listR 65535 (wdT w 4)).2) 21=_
  rw[he1,he2,he3,he4])
 rw[hfe]at hsT
 rw[hsT]
 generalize e4=eN at *
 refine T ?_
 refine C qk F230 ?_
 refine C qm F229 ?_
 refine C qk F230 ?_
 refine Ae 9 (Ba { lineZ with row:=row,kind:=8 }) rfl (.cons (.refl _) (.cons (.refl _) (.cons (.refl _) (.cons (.refl _) (.cons (.refl _) (.cons (.refl _) (.cons (.refl _) (.cons (.refl _) (.cons (.refl _) (.cons (.refl _) (.cons (.refl _) (.cons (.refl _) (.cons (.refl _) (.cons .nil (.cons .nil (.cons .nil (.cons .nil .nil))))))))))))))))) ?_
 refine T ?_
 refine X (Am [(0,31)] (An E E F231) q1 E W E V) ?_
 refine X (Am [(0,31)] (An E E F231) q2 E W E V) ?_
 refine X (Ac [(0,31)] E F241 q3 E W E V) ?_
 refine X (Ac [(0,31)] E F241 q4 E W E V) ?_
 cases hz:(eN != 0)
 ·have hz0:eN=0:=by simpa using hz
  rw[if_neg (by rw[hz0];simp)]
  refine T ?_
  exact D
 ·have hz0:eN≠0:=by simpa using hz
  rw[if_pos hz0]
  refine T ?_
  refine Ae 4 (Ba lineZ) E (.cons (.refl _) (.cons (.refl _) (.cons (.refl _) (.cons (.refl _) (.cons (.refl _) (.cons (.refl _) (.cons (.refl _) (.cons (.refl _) (.cons (.refl _) (.cons (.refl _) (.cons (.refl _) (.cons (.refl _) (.cons (.refl _) (.cons .nil (.cons .nil (.cons .nil (.cons .nil .nil))))))))))))))))) ?_
  refine T ?_
  exact D
theorem X3 (w:List ByteArray) (row:Int) (hw:w.length≤1000000) (hs:∀ s∈w,s.size≤40) (hne:0<w.length) (hk:kindL (wdT w 0)=5) (hmy:manyB 5 w=true) :
  Sy.Spec Tryz.prog 146 [.sl 1 Ah w,Aa row] [] (.tup [Aj (Bd w row).1,Aa (Bd w row).2]) []:=cT F146 Tryz.ntmps146 fun F hF=>by
 have hn0:(0:Int).toNat<w.length:=hne
 have f0:((w.length:Int) == 0)=false:=by rw[beq_eq_false_iff_ne];omega
 have hx0:w[(0:Int).toNat]'hn0=wdT w 0:=(B8 hne).symm
 have qk:Sy.Spec Tryz.prog 230 [Ah (w[(0:Int).toNat]'hn0)] [] (Aa 5) []:=by
  have:=C8 (wdT w 0)
  rw[hk]at this
  rw[hx0];exact this
 have qm:=C7 5 j_ w hw
 rw[hmy]at qm
 have hml:=Dx hmy
 have hsT:Bd w row=if Ay (A5 w row).2≠0 then (lineZ,Ay (A5 w row).2) else ((A5 w row).1,0):=by
  rw[Bd,if_neg]
  rintro (hh | hh)
  ·rw[hh]at hne;simp at hne
  ·rw[hk,hmy]at hh;cases hh
 have hfe:=B2 _ (Cd w row)
 have hl:w.length=3:=hml.2.2.1 rfl
 have q1:=Cr w 1 (0:Int) q_ hw hs
 obtain ⟨e1,he1⟩:∃ e,Ad (0:Int) (!(Ap (wdT w 1))) 20=e:=⟨_,rfl⟩
 rw[he1]at q1
 have qn:=H5 w 2 e1 q_ hw
 have hsz:(wdT w 2).size≤40:=by rw[B8 (by omega:2<w.length)];exact hs _ (List.getElem_mem _)
 have qa:=M1 (wdT w 2) q_
 have q2:=D1 w 3 e1 (!((B6 (wdT w 2)).2 && decide ((B6 (wdT w 2)).1≠0))) 21
 obtain ⟨e2,he2⟩:∃ e,Ad e1 (!((B6 (wdT w 2)).2 && decide ((B6 (wdT w 2)).1≠0))) 21=e:=⟨_,rfl⟩
 rw[he2]at q2
 have hR:A5 w row=({ lineZ with row:=row,kind:=5,dev:=wdT w 1,addr:=(B6 (wdT w 2)).1 },[((!(Ap (wdT w 1))),20),((!((B6 (wdT w 2)).2 && decide ((B6 (wdT w 2)).1≠0))),21)]):=by
  unfold A5
  simp only[hk]
  rfl
 rw[hR]at hsT hfe
 have hfe:Ay _=e2:=hfe.trans (by
  show Ad (Ad ((0:Int)) (!(Ap (wdT w 1))) 20) (!((B6 (wdT w 2)).2 && decide ((B6 (wdT w 2)).1≠0))) 21=_
  rw[he1,he2])
 rw[hfe]at hsT
 rw[hsT]
 generalize e2=eN at *
 clear hR hsT hfe he2
 generalize B6 (wdT w 2)=rt at *
 obtain ⟨av,ok⟩:=rt
 dsimp only at qa q2 ⊢
 cases ok
 ·have q2:Sy.Spec Tryz.prog 235 [.ptr 0 0,Ab true,Aa 21] (rdO w 3 e1) (.tup []) (rdO w 3 eN):=q2
  refine T ?_
  refine C qk F230 ?_
  refine C qm F229 ?_
  refine C qk F230 ?_
  refine Ae 9 (Ba { lineZ with row:=row,kind:=5 }) rfl (.cons (.refl _) (.cons (.refl _) (.cons (.refl _) (.cons (.refl _) (.cons (.refl _) (.cons (.refl _) (.cons (.refl _) (.cons (.refl _) (.cons (.refl _) (.cons (.refl _) (.cons (.refl _) (.cons (.refl _) (.cons (.refl _) (.cons .nil (.cons .nil (.cons .nil (.cons .nil .nil))))))))))))))))) ?_
  refine T ?_
  refine X (Am [(0,31)] (An E E F231) q1 E W E V) ?_
  refine X (Ac [(0,31)] E F238 qn E W E V) ?_
  refine C qa F237 ?_
  refine X (Ac [(0,31)] E F235 q2 E W E V) ?_
  cases hz:(eN != 0)
  ·have hz0:eN=0:=by simpa using hz
   rw[if_neg (by rw[hz0];simp)]
   refine T ?_
   exact D
  ·have hz0:eN≠0:=by simpa using hz
   rw[if_pos hz0]
   refine T ?_
   refine Ae 4 (Ba lineZ) E (.cons (.refl _) (.cons (.refl _) (.cons (.refl _) (.cons (.refl _) (.cons (.refl _) (.cons (.refl _) (.cons (.refl _) (.cons (.refl _) (.cons (.refl _) (.cons (.refl _) (.cons (.refl _) (.cons (.refl _) (.cons (.refl _) (.cons .nil (.cons .nil (.cons .nil (.cons .nil .nil))))))))))))))))) ?_
   refine T ?_
   exact D
 ·have hb:(!(true && decide (av≠0)))=(av == 0):=by
   by_cases h:av=0
   ·rw[h];rfl
   ·rw[decide_eq_true h,beq_eq_false_iff_ne.2 h];rfl
  rw[hb]at q2
  refine T ?_
  refine C qk F230 ?_
  refine C qm F229 ?_
  refine C qk F230 ?_
  refine Ae 9 (Ba { lineZ with row:=row,kind:=5 }) rfl (.cons (.refl _) (.cons (.refl _) (.cons (.refl _) (.cons (.refl _) (.cons (.refl _) (.cons (.refl _) (.cons (.refl _) (.cons (.refl _) (.cons (.refl _) (.cons (.refl _) (.cons (.refl _) (.cons (.refl _) (.cons (.refl _) (.cons .nil (.cons .nil (.cons .nil (.cons .nil .nil))))))))))))))))) ?_
  refine T ?_
  refine X (Am [(0,31)] (An E E F231) q1 E W E V) ?_
  refine X (Ac [(0,31)] E F238 qn E W E V) ?_
  refine C qa F237 ?_
  refine X (Ac [(0,31)] E F235 q2 E W E V) ?_
  cases hz:(eN != 0)
  ·have hz0:eN=0:=by simpa using hz
   rw[if_neg (by rw[hz0];simp)]
   refine T ?_
   exact D
  ·have hz0:eN≠0:=by simpa using hz
   rw[if_pos hz0]
   refine T ?_
   refine Ae 4 (Ba lineZ) E (.cons (.refl _) (.cons (.refl _) (.cons (.refl _) (.cons (.refl _) (.cons (.refl _) (.cons (.refl _) (.cons (.refl _) (.cons (.refl _) (.cons (.refl _) (.cons (.refl _) (.cons (.refl _) (.cons (.refl _) (.cons (.refl _) (.cons .nil (.cons .nil (.cons .nil (.cons .nil .nil))))))))))))))))) ?_
   refine T ?_
   exact D
theorem X1 (w:List ByteArray) (row:Int) (hw:w.length≤1000000) (hs:∀ s∈w,s.size≤40) (hne:0<w.length) (hk:kindL (wdT w 0)=7) (hmy:manyB 7 w=true) :
  Sy.Spec Tryz.prog 146 [.sl 1 Ah w,Aa row] [] (.tup [Aj (Bd w row).1,Aa (Bd w row).2]) []:=cT F146 Tryz.ntmps146 fun F hF=>by
 have hn0:(0:Int).toNat<w.length:=hne
 have f0:((w.length:Int) == 0)=false:=by rw[beq_eq_false_iff_ne];omega
 have hx0:w[(0:Int).toNat]'hn0=wdT w 0:=(B8 hne).symm
 have qk:Sy.Spec Tryz.prog 230 [Ah (w[(0:Int).toNat]'hn0)] [] (Aa 7) []:=by
  have:=C8 (wdT w 0)
  rw[hk]at this
  rw[hx0];exact this
 have qm:=C7 7 j_ w hw
 rw[hmy]at qm
 have hml:=Dx hmy
 have hsT:Bd w row=if Ay (A5 w row).2≠0 then (lineZ,Ay (A5 w row).2) else ((A5 w row).1,0):=by
  rw[Bd,if_neg]
  rintro (hh | hh)
  ·rw[hh]at hne;simp at hne
  ·rw[hk,hmy]at hh;cases hh
 have hfe:=B2 _ (Cd w row)
 have hl:w.length=4:=hml.1 j_
 have q1:=Cr w 1 (0:Int) q_ hw hs
 obtain ⟨e1,he1⟩:∃ e,Ad (0:Int) (!(Ap (wdT w 1))) 20=e:=⟨_,rfl⟩
 rw[he1]at q1
 have q2:=Ab7 w 2 e1 q_ hw
 obtain ⟨e2,he2⟩:∃ e,Ad e1 (!(Iu (wdT w 2)).2) 21=e:=⟨_,rfl⟩
 rw[he2]at q2
 have qn:=H5 w 3 e2 q_ hw
 have hsz:(wdT w 3).size≤40:=by rw[B8 (by omega:3<w.length)];exact hs _ (List.getElem_mem _)
 have qa:=S2 (wdT w 3) q_
 have hpos:(Ca (wdT w 3)).2=true→0<(Ca (wdT w 3)).1.length:=fun h=>by
  have hp:=O6 h
  rw[Ca,Db]at hp ⊢
  have:=(Il _ _ _ _ hp List.Pairwise.nil j_).2.2.1
  rw[this,Es];simp
 have q3:=D1 w 4 e2 (!((Ca (wdT w 3)).2 && decide ((Ca (wdT w 3)).1.head? ≠ some 0))) 21
 obtain ⟨e3,he3⟩:∃ e,Ad e2 (!((Ca (wdT w 3)).2 && decide ((Ca (wdT w 3)).1.head? ≠ some 0))) 21=e:=⟨_,rfl⟩
 rw[he3]at q3
 have hR:A5 w row=({ lineZ with row:=row,kind:=7,dev:=wdT w 1,num:=(Iu (wdT w 2)).1,addrs:=(Ca (wdT w 3)).1 },[((!(Ap (wdT w 1))),20),((!(Iu (wdT w 2)).2),21),((!((Ca (wdT w 3)).2 && decide ((Ca (wdT w 3)).1.head? ≠ some 0))),21)]):=by
  unfold A5
  simp only[hk]
  rfl
 rw[hR]at hsT hfe
 have hfe:Ay _=e3:=hfe.trans (by
  show Ad (Ad (Ad ((0:Int)) (!(Ap (wdT w 1))) 20) (!(Iu (wdT w 2)).2) 21) (!((Ca (wdT w 3)).2 && decide ((Ca (wdT w 3)).1.head? ≠ some 0))) 21=_
  rw[he1,he2,he3])
 rw[hfe]at hsT
 rw[hsT]
 generalize e3=eN at *
 clear hR hsT hfe he3
 generalize Ca (wdT w 3)=rt at *
 obtain ⟨av,ok⟩:=rt
 dsimp only at qa q3 hpos ⊢
 cases ok
 ·have q3:Sy.Spec Tryz.prog 235 [.ptr 0 0,Ab true,Aa 21] (rdO w 4 e2) (.tup []) (rdO w 4 eN):=q3
  refine T ?_
  refine C qk F230 ?_
  refine C qm F229 ?_
  refine C qk F230 ?_
  refine Ae 9 (Ba { lineZ with row:=row,kind:=7 }) rfl (.cons (.refl _) (.cons (.refl _) (.cons (.refl _) (.cons (.refl _) (.cons (.refl _) (.cons (.refl _) (.cons (.refl _) (.cons (.refl _) (.cons (.refl _) (.cons (.refl _) (.cons (.refl _) (.cons (.refl _) (.cons (.refl _) (.cons .nil (.cons .nil (.cons .nil (.cons .nil .nil))))))))))))))))) ?_
  refine T ?_
  refine X (Am [(0,31)] (An E E F231) q1 E W E V) ?_
  refine X (Ac [(0,31)] E F239 q2 E W E V) ?_
  refine X (Ac [(0,31)] E F238 qn E W E V) ?_
  refine C qa F240 ?_
  refine X (Ac [(0,31)] E F235 q3 E W E V) ?_
  cases hz:(eN != 0)
  ·have hz0:eN=0:=by simpa using hz
   rw[if_neg (by rw[hz0];simp)]
   refine T ?_
   exact D
  ·have hz0:eN≠0:=by simpa using hz
   rw[if_pos hz0]
   refine T ?_
   refine Ae 4 (Ba lineZ) E (.cons (.refl _) (.cons (.refl _) (.cons (.refl _) (.cons (.refl _) (.cons (.refl _) (.cons (.refl _) (.cons (.refl _) (.cons (.refl _) (.cons (.refl _) (.cons (.refl _) (.cons (.refl _) (.cons (.refl _) (.cons (.refl _) (.cons .nil (.cons .nil (.cons .nil (.cons .nil .nil))))))))))))))))) ?_
   refine T ?_
   exact D
 ·have h0:(0:Int).toNat<av.length:=hpos rfl
  have hb:(!(true && decide (av.head? ≠ some 0)))=(av[(0:Int).toNat]'h0 == 0):=by
   cases av with
   | nil=>exact absurd h0 y_
   | cons a r =>
    show (!(true && decide (some a≠some 0)))=(a == 0)
    by_cases h:a=0
    ·rw[h];rfl
    ·rw[beq_eq_false_iff_ne.2 h,decide_eq_true (by simpa using h)];rfl
  rw[hb]at q3
  refine T ?_
  refine C qk F230 ?_
  refine C qm F229 ?_
  refine C qk F230 ?_
  refine Ae 9 (Ba { lineZ with row:=row,kind:=7 }) rfl (.cons (.refl _) (.cons (.refl _) (.cons (.refl _) (.cons (.refl _) (.cons (.refl _) (.cons (.refl _) (.cons (.refl _) (.cons (.refl _) (.cons (.refl _) (.cons (.refl _) (.cons (.refl _) (.cons (.refl _) (.cons (.refl _) (.cons .nil (.cons .nil (.cons .nil (.cons .nil .nil))))))))))))))))) ?_
  refine T ?_
  refine X (Am [(0,31)] (An E E F231) q1 E W E V) ?_
  refine X (Ac [(0,31)] E F239 q2 E W E V) ?_
  refine X (Ac [(0,31)] E F238 qn E W E V) ?_
  refine C qa F240 ?_
  refine X (Ac [(0,31)] E F235 q3 E W E V) ?_
  cases hz:(eN != 0)
  ·have hz0:eN=0:=by simpa using hz
   rw[if_neg (by rw[hz0];simp)]
   refine T ?_
   exact D
  ·have hz0:eN≠0:=by simpa using hz
   rw[if_pos hz0]
   refine T ?_
   refine Ae 4 (Ba lineZ) E (.cons (.refl _) (.cons (.refl _) (.cons (.refl _) (.cons (.refl _) (.cons (.refl _) (.cons (.refl _) (.cons (.refl _) (.cons (.refl _) (.cons (.refl _) (.cons (.refl _) (.cons (.refl _) (.cons (.refl _) (.cons (.refl _) (.cons .nil (.cons .nil (.cons .nil (.cons .nil .nil))))))))))))))))) ?_
   refine T ?_
   exact D
theorem Uo (s:ByteArray):∃ m:Nat,(prefixR s).1.1=m∧m<4294967296:=by
 rw[prefixR]
 split
 ·exact⟨0,E,by decide⟩
 ·have h1:=E6 (cutT 47 s).1
  have h2:=Jf (cutT 47 s).1
  exact⟨(B6 (cutT 47 s).1).1.toNat,(Int.toNat_of_nonneg h1).symm,by omega⟩
theorem Xz (w:List ByteArray) (row:Int) (hw:w.length≤1000000) (hs:∀ s∈w,s.size≤40) (hne:0<w.length) (hk:kindL (wdT w 0)=9) (hmy:manyB 9 w=true) :
  Sy.Spec Tryz.prog 146 [.sl 1 Ah w,Aa row] [] (.tup [Aj (Bd w row).1,Aa (Bd w row).2]) []:=cT F146 Tryz.ntmps146 fun F hF=>by
 have hn0:(0:Int).toNat<w.length:=hne
 have f0:((w.length:Int) == 0)=false:=by rw[beq_eq_false_iff_ne];omega
 have hx0:w[(0:Int).toNat]'hn0=wdT w 0:=(B8 hne).symm
 have qk:Sy.Spec Tryz.prog 230 [Ah (w[(0:Int).toNat]'hn0)] [] (Aa 9) []:=by
  have:=C8 (wdT w 0)
  rw[hk]at this
  rw[hx0];exact this
 have qm:=C7 9 j_ w hw
 rw[hmy]at qm
 have hml:=Dx hmy
 have hsT:Bd w row=if Ay (A5 w row).2≠0 then (lineZ,Ay (A5 w row).2) else ((A5 w row).1,0):=by
  rw[Bd,if_neg]
  rintro (hh | hh)
  ·rw[hh]at hne;simp at hne
  ·rw[hk,hmy]at hh;cases hh
 have hfe:=B2 _ (Cd w row)
 have hl:w.length=5:=hml.2.1 j_
 have q1:=Cr w 1 (0:Int) q_ hw hs
 obtain ⟨e1,he1⟩:∃ e,Ad (0:Int) (!(Ap (wdT w 1))) 20=e:=⟨_,rfl⟩
 rw[he1]at q1
 have q2:=Ls w 2 e1 q_ hw
 obtain ⟨e2,he2⟩:∃ e,Ad e1 (!(Bl (wdT w 2)).2) 21=e:=⟨_,rfl⟩
 rw[he2]at q2
 have q3:=Cr w 3 e2 q_ hw hs
 obtain ⟨e3,he3⟩:∃ e,Ad e2 (!(Ap (wdT w 3))) 20=e:=⟨_,rfl⟩
 rw[he3]at q3
 have qn:=H5 w 4 e3 q_ hw
 have hsz:(wdT w 4).size≤40:=by rw[B8 (by omega:4<w.length)];exact hs _ (List.getElem_mem _)
 have qa:=Xe (wdT w 4) q_
 have hrg:=Uo (wdT w 4)
 have q4:=D1 w 5 e3 (!((prefixR (wdT w 4)).2 && subnetB (prefixR (wdT w 4)).1.1 (prefixR (wdT w 4)).1.2)) 21
 obtain ⟨e4,he4⟩:∃ e,Ad e3 (!((prefixR (wdT w 4)).2 && subnetB (prefixR (wdT w 4)).1.1 (prefixR (wdT w 4)).1.2)) 21=e:=⟨_,rfl⟩
 rw[he4]at q4
 have hR:A5 w row=({ lineZ with row:=row,kind:=9,dev:=wdT w 1,vlan:=(Bl (wdT w 2)).1,name:=wdT w 3,addr:=(prefixR (wdT w 4)).1.1,bits:=(prefixR (wdT w 4)).1.2 },[((!(Ap (wdT w 1))),20),((!(Bl (wdT w 2)).2),21),((!(Ap (wdT w 3))),20),((!((prefixR (wdT w 4)).2 && subnetB (prefixR (wdT w 4)).1.1 (prefixR (wdT w 4)).1.2)),21)]):=by
  unfold A5
  simp only[hk]
  rfl
 rw[hR]at hsT hfe
 have hfe:Ay _=e4:=hfe.trans (by
  show Ad (Ad (Ad (Ad ((0:Int)) (!(Ap (wdT w 1))) 20) (!(Bl (wdT w 2)).2) 21) (!(Ap (wdT w 3))) 20) (!((prefixR (wdT w 4)).2 && subnetB (prefixR (wdT w 4)).1.1 (prefixR (wdT w 4)).1.2)) 21=_
  rw[he1,he2,he3,he4])
 rw[hfe]at hsT
 rw[hsT]
 generalize e4=eN at *
 clear hR hsT hfe he4
 obtain ⟨m,hm1,hm2⟩:=hrg
 generalize prefixR (wdT w 4)=rt at *
 obtain ⟨⟨av,bv⟩,ok⟩:=rt
 dsimp only at qa q4 hm1 ⊢
 subst hm1
 have qs:=M4 m bv hm2
 generalize subnetB (m:Int) bv=sb at *
 cases ok
 ·have q4:Sy.Spec Tryz.prog 235 [.ptr 0 0,Ab true,Aa 21] (rdO w 5 e3) (.tup []) (rdO w 5 eN):=q4
  refine T ?_
  refine C qk F230 ?_
  refine C qm F229 ?_
  refine C qk F230 ?_
  refine Ae 9 (Ba { lineZ with row:=row,kind:=9 }) rfl (.cons (.refl _) (.cons (.refl _) (.cons (.refl _) (.cons (.refl _) (.cons (.refl _) (.cons (.refl _) (.cons (.refl _) (.cons (.refl _) (.cons (.refl _) (.cons (.refl _) (.cons (.refl _) (.cons (.refl _) (.cons (.refl _) (.cons .nil (.cons .nil (.cons .nil (.cons .nil .nil))))))))))))))))) ?_
  refine T ?_
  refine X (Am [(0,31)] (An E E F231) q1 E W E V) ?_
  refine X (Am [(0,31)] (An E E F232) q2 E W E V) ?_
  refine X (Am [(0,31)] (An E E F231) q3 E W E V) ?_
  refine X (Ac [(0,31)] E F238 qn E W E V) ?_
  refine C qa F242 ?_
  refine X (Ac [(0,31)] E F235 q4 E W E V) ?_
  cases hz:(eN != 0)
  ·have hz0:eN=0:=by simpa using hz
   rw[if_neg (by rw[hz0];simp)]
   refine T ?_
   exact D
  ·have hz0:eN≠0:=by simpa using hz
   rw[if_pos hz0]
   refine T ?_
   refine Ae 4 (Ba lineZ) E (.cons (.refl _) (.cons (.refl _) (.cons (.refl _) (.cons (.refl _) (.cons (.refl _) (.cons (.refl _) (.cons (.refl _) (.cons (.refl _) (.cons (.refl _) (.cons (.refl _) (.cons (.refl _) (.cons (.refl _) (.cons (.refl _) (.cons .nil (.cons .nil (.cons .nil (.cons .nil .nil))))))))))))))))) ?_
   refine T ?_
   exact D
 ·have hb:(!(true && sb))=!sb:=rfl
  rw[hb]at q4
  refine T ?_
  refine C qk F230 ?_
  refine C qm F229 ?_
  refine C qk F230 ?_
  refine Ae 9 (Ba { lineZ with row:=row,kind:=9 }) rfl (.cons (.refl _) (.cons (.refl _) (.cons (.refl _) (.cons (.refl _) (.cons (.refl _) (.cons (.refl _) (.cons (.refl _) (.cons (.refl _) (.cons (.refl _) (.cons (.refl _) (.cons (.refl _) (.cons (.refl _) (.cons (.refl _) (.cons .nil (.cons .nil (.cons .nil (.cons .nil .nil))))))))))))))))) ?_
  refine T ?_
  refine X (Am [(0,31)] (An E E F231) q1 E W E V) ?_
  refine X (Am [(0,31)] (An E E F232) q2 E W E V) ?_
  refine X (Am [(0,31)] (An E E F231) q3 E W E V) ?_
  refine X (Ac [(0,31)] E F238 qn E W E V) ?_
  refine C qa F242 ?_
  refine C qs F243 ?_
  refine X (Ac [(0,31)] E F235 q4 E W E V) ?_
  cases hz:(eN != 0)
  ·have hz0:eN=0:=by simpa using hz
   rw[if_neg (by rw[hz0];simp)]
   refine T ?_
   exact D
  ·have hz0:eN≠0:=by simpa using hz
   rw[if_pos hz0]
   refine T ?_
   refine Ae 4 (Ba lineZ) E (.cons (.refl _) (.cons (.refl _) (.cons (.refl _) (.cons (.refl _) (.cons (.refl _) (.cons (.refl _) (.cons (.refl _) (.cons (.refl _) (.cons (.refl _) (.cons (.refl _) (.cons (.refl _) (.cons (.refl _) (.cons (.refl _) (.cons .nil (.cons .nil (.cons .nil (.cons .nil .nil))))))))))))))))) ?_
   refine T ?_
   exact D
theorem X6 (w:List ByteArray) (row:Int) (hw:w.length≤1000000) (hs:∀ s∈w,s.size≤40) (hne:0<w.length) (hk:kindL (wdT w 0)=2) (hmy:manyB 2 w=true) :
  Sy.Spec Tryz.prog 146 [.sl 1 Ah w,Aa row] [] (.tup [Aj (Bd w row).1,Aa (Bd w row).2]) []:=cT F146 Tryz.ntmps146 fun F hF=>by
 have hn0:(0:Int).toNat<w.length:=hne
 have f0:((w.length:Int) == 0)=false:=by rw[beq_eq_false_iff_ne];omega
 have hx0:w[(0:Int).toNat]'hn0=wdT w 0:=(B8 hne).symm
 have qk:Sy.Spec Tryz.prog 230 [Ah (w[(0:Int).toNat]'hn0)] [] (Aa 2) []:=by
  have:=C8 (wdT w 0)
  rw[hk]at this
  rw[hx0];exact this
 have qm:=C7 2 j_ w hw
 rw[hmy]at qm
 have hml:=Dx hmy
 have hsT:Bd w row=if Ay (A5 w row).2≠0 then (lineZ,Ay (A5 w row).2) else ((A5 w row).1,0):=by
  rw[Bd,if_neg]
  rintro (hh | hh)
  ·rw[hh]at hne;simp at hne
  ·rw[hk,hmy]at hh;cases hh
 have hfe:=B2 _ (Cd w row)
 have hl:6≤w.length∧w.length≤7∧(wdT w 4=Ct→w.length=7):=hml.2.2.2.1 rfl
 have q1:=Cr w 1 (0:Int) q_ hw hs
 obtain ⟨e1,he1⟩:∃ e,Ad (0:Int) (!(Ap (wdT w 1))) 20=e:=⟨_,rfl⟩
 rw[he1]at q1
 have q2:=Cr w 2 e1 q_ hw hs
 obtain ⟨e2,he2⟩:∃ e,Ad e1 (!(Ap (wdT w 2))) 20=e:=⟨_,rfl⟩
 rw[he2]at q2
 have q3:=Ke w 3 e2 1 65535 q_ hw
 obtain ⟨e3,he3⟩:∃ e,Ad e2 (!(numR (wdT w 3) 1 65535).2) 21=e:=⟨_,rfl⟩
 rw[he3]at q3
 have q4:=D1 w 4 e3 (decide (wdT w 4≠C2) && decide (wdT w 4≠Ct)) 20
 obtain ⟨e4,he4⟩:∃ e,Ad e3 (decide (wdT w 4≠C2) && decide (wdT w 4≠Ct)) 20=e:=⟨_,rfl⟩
 rw[he4]at q4
 have qp:=Ad6 w e4 { lineZ with row:=row,kind:=2,dev:=wdT w 1,port:=wdT w 2,cost:=(numR (wdT w 3) 1 65535).1 } hw hs q_ (fun x=>by
  have h6:w.length=6:=by
   have hm3:=hmy
   rw[manyB,if_neg j_,if_pos rfl,if_neg q_,if_pos x]at hm3
   exact of_decide_eq_true hm3
  omega) (fun x=>by have:=hl.2.2 x;omega) ⟨rfl,rfl⟩
 have hR:A5 w row=({ lineZ with row:=row,kind:=2,dev:=wdT w 1,port:=wdT w 2,cost:=(numR (wdT w 3) 1 65535).1,vlan:=(Cf w).1,tagged:=(Cf w).2.1 },
   [((!(Ap (wdT w 1))),20),((!(Ap (wdT w 2))),20),((!(numR (wdT w 3) 1 65535).2),21),((decide (wdT w 4≠C2) && decide (wdT w 4≠Ct)),20)]++(Cf w).2.2++[(!(membersB (Cf w).1 (Cf w).2.1),21)]):=by
  unfold A5
  simp only[hk]
  rfl
 rw[hR]at hsT hfe
 have hfe:Ay _=E3 e4 ((Cf w).2.2++[(!(membersB (Cf w).1 (Cf w).2.1),21)]):=hfe.trans (by
  rw[Kh,Kh,Kh]
  congr 2
  show Ad (Ad (Ad (Ad ((0:Int)) (!(Ap (wdT w 1))) 20) (!(Ap (wdT w 2))) 20) (!(numR (wdT w 3) 1 65535).2) 21) (decide (wdT w 4≠C2) && decide (wdT w 4≠Ct)) 20=_
  rw[he1,he2,he3,he4])
 rw[hfe]at hsT
 rw[hsT]
 clear hR hsT hfe he4
 dsimp only at qp ⊢
 generalize E3 e4 ((Cf w).2.2++[(!(membersB (Cf w).1 (Cf w).2.1),21)])=eN at *
 generalize Cf w=pr at *
 have hn4:(4:Int).toNat<w.length:=by show 4<w.length;omega
 have hx4:w[(4:Int).toNat]'hn4=wdT w 4:=(B8 q_).symm
 by_cases ca:wdT w 4=C2
 ·have g1:(!(w[(4:Int).toNat]'hn4 == (⟨#[97,99,99,101,115,115]⟩:ByteArray)))=false:=Qc (by rw[hx4];exact ca)
  have q4:Sy.Spec Tryz.prog 235 [.ptr 0 0,Ab false,Aa 20] (rdO w 4 e3) (.tup []) (rdO w 4 e4):=by
   rw[decide_eq_false (fun x=>x ca)]at q4;exact q4
  refine T ?_
  refine C qk F230 ?_
  refine C qm F229 ?_
  refine C qk F230 ?_
  refine Ae 9 (Ba { lineZ with row:=row,kind:=2 }) rfl (.cons (.refl _) (.cons (.refl _) (.cons (.refl _) (.cons (.refl _) (.cons (.refl _) (.cons (.refl _) (.cons (.refl _) (.cons (.refl _) (.cons (.refl _) (.cons (.refl _) (.cons (.refl _) (.cons (.refl _) (.cons (.refl _) (.cons .nil (.cons .nil (.cons .nil (.cons .nil .nil))))))))))))))))) ?_
  refine T ?_
  refine X (Am [(0,31)] (An E E F231) q1 E W E V) ?_
  refine X (Am [(0,31)] (An E E F231) q2 E W E V) ?_
  refine X (Ac [(0,31)] E F233 q3 E W E V) ?_
  refine X (Ac [(0,31)] E F235 q4 E W E V) ?_
  refine X (Ac [(0,31),(1,9)] E F236 qp E W E V) ?_
  cases hz:(eN != 0)
  ·have hz0:eN=0:=by simpa using hz
   rw[if_neg (by rw[hz0];simp)]
   refine T ?_
   exact D
  ·have hz0:eN≠0:=by simpa using hz
   rw[if_pos hz0]
   refine T ?_
   refine Ae 4 (Ba lineZ) E (.cons (.refl _) (.cons (.refl _) (.cons (.refl _) (.cons (.refl _) (.cons (.refl _) (.cons (.refl _) (.cons (.refl _) (.cons (.refl _) (.cons (.refl _) (.cons (.refl _) (.cons (.refl _) (.cons (.refl _) (.cons (.refl _) (.cons .nil (.cons .nil (.cons .nil (.cons .nil .nil))))))))))))))))) ?_
   refine T ?_
   exact D
 ·have g1:(!(w[(4:Int).toNat]'hn4 == (⟨#[97,99,99,101,115,115]⟩:ByteArray)))=true:=Vj (by rw[hx4];exact ca)
  have hb:(decide (wdT w 4≠C2) && decide (wdT w 4≠Ct))=!(w[(4:Int).toNat]'hn4 == (⟨#[116,114,117,110,107]⟩:ByteArray)):=by
   rw[decide_eq_true ca,Bool.true_and,hx4]
   show decide (wdT w 4≠Ct)=!(wdT w 4 == Ct)
   by_cases cr:wdT w 4=Ct
   ·rw[Qc cr,decide_eq_false (fun x:wdT w 4≠Ct=>x cr)]
   ·rw[Vj cr,decide_eq_true cr]
  rw[hb]at q4
  refine T ?_
  refine C qk F230 ?_
  refine C qm F229 ?_
  refine C qk F230 ?_
  refine Ae 9 (Ba { lineZ with row:=row,kind:=2 }) rfl (.cons (.refl _) (.cons (.refl _) (.cons (.refl _) (.cons (.refl _) (.cons (.refl _) (.cons (.refl _) (.cons (.refl _) (.cons (.refl _) (.cons (.refl _) (.cons (.refl _) (.cons (.refl _) (.cons (.refl _) (.cons (.refl _) (.cons .nil (.cons .nil (.cons .nil (.cons .nil .nil))))))))))))))))) ?_
  refine T ?_
  refine X (Am [(0,31)] (An E E F231) q1 E W E V) ?_
  refine X (Am [(0,31)] (An E E F231) q2 E W E V) ?_
  refine X (Ac [(0,31)] E F233 q3 E W E V) ?_
  refine X (Ac [(0,31)] E F235 q4 E W E V) ?_
  refine X (Ac [(0,31),(1,9)] E F236 qp E W E V) ?_
  cases hz:(eN != 0)
  ·have hz0:eN=0:=by simpa using hz
   rw[if_neg (by rw[hz0];simp)]
   refine T ?_
   exact D
  ·have hz0:eN≠0:=by simpa using hz
   rw[if_pos hz0]
   refine T ?_
   refine Ae 4 (Ba lineZ) E (.cons (.refl _) (.cons (.refl _) (.cons (.refl _) (.cons (.refl _) (.cons (.refl _) (.cons (.refl _) (.cons (.refl _) (.cons (.refl _) (.cons (.refl _) (.cons (.refl _) (.cons (.refl _) (.cons (.refl _) (.cons (.refl _) (.cons .nil (.cons .nil (.cons .nil (.cons .nil .nil))))))))))))))))) ?_
   refine T ?_
   exact D
theorem Aah (w:List ByteArray) (row:Int) (hw:w.length≤1000000) (hs:∀ s∈w,s.size≤40):Sy.Spec Tryz.prog 146 [.sl 1 Ah w,Aa row] [] (.tup [Aj (Bd w row).1,Aa (Bd w row).2]) []:=by
 by_cases hne:0<w.length
 ·cases hmy:manyB (kindL (wdT w 0)) w with
  | true =>
   have hr:=Oh (wdT w 0)
   have h0:=(Dx hmy).2.2.2.2
   rcases (by omega:kindL (wdT w 0)=1∨kindL (wdT w 0)=2∨kindL (wdT w 0)=3∨kindL (wdT w 0)=4∨kindL (wdT w 0)=5∨kindL (wdT w 0)=6∨kindL (wdT w 0)=7∨kindL (wdT w 0)=8∨kindL (wdT w 0)=9) with h | h | h | h | h | h | h | h | h
   ·exact X7 w row hw hs hne h (by rw[h]at hmy;exact hmy)
   ·exact X6 w row hw hs hne h (by rw[h]at hmy;exact hmy)
   ·exact X5 w row hw hs hne h (by rw[h]at hmy;exact hmy)
   ·exact X4 w row hw hs hne h (by rw[h]at hmy;exact hmy)
   ·exact X3 w row hw hs hne h (by rw[h]at hmy;exact hmy)
   ·exact X2 w row hw hs hne h (by rw[h]at hmy;exact hmy)
   ·exact X1 w row hw hs hne h (by rw[h]at hmy;exact hmy)
   ·exact X0 w row hw hs hne h (by rw[h]at hmy;exact hmy)
   ·exact Xz w row hw hs hne h (by rw[h]at hmy;exact hmy)
  | false =>
   have hsT:Bd w row=(lineZ,22):=by rw[Bd,if_pos (.inr hmy)]
   rw[hsT]
   refine Sk Γ hm 100 F146 Tryz.ntmps146 E fun F hF=>by
    have hn0:(0:Int).toNat<w.length:=hne
    have f0:((w.length:Int) == 0)=false:=by rw[beq_eq_false_iff_ne];omega
    have hx0:w[(0:Int).toNat]'hn0=wdT w 0:=(B8 hne).symm
    have qk:Sy.Spec Tryz.prog 230 [Ah (w[(0:Int).toNat]'hn0)] [] (Aa (kindL (wdT w 0))) []:=by
     rw[hx0];exact C8 (wdT w 0)
    have qm:=C7 (kindL (wdT w 0)) (Oh _) w hw
    rw[hmy]at qm
    refine T ?_
    refine C qk F230 ?_
    refine C qm F229 ?_
    refine Ae 4 (Ba lineZ) E (.cons (.refl _) (.cons (.refl _) (.cons (.refl _) (.cons (.refl _) (.cons (.refl _) (.cons (.refl _) (.cons (.refl _) (.cons (.refl _) (.cons (.refl _) (.cons (.refl _) (.cons (.refl _) (.cons (.refl _) (.cons (.refl _) (.cons .nil (.cons .nil (.cons .nil (.cons .nil .nil))))))))))))))))) ?_
    refine T ?_
    exact D
 ·have hw0:w=[]:=List.eq_nil_of_length_eq_zero q_
  subst hw0
  have hsT:Bd [] row=(lineZ,22):=by rw[Bd,if_pos (.inl rfl)]
  rw[hsT]
  refine Sk Γ hm 100 F146 Tryz.ntmps146 E fun F hF=>by
   refine T ?_
   refine Ae 4 (Ba lineZ) E (.cons (.refl _) (.cons (.refl _) (.cons (.refl _) (.cons (.refl _) (.cons (.refl _) (.cons (.refl _) (.cons (.refl _) (.cons (.refl _) (.cons (.refl _) (.cons (.refl _) (.cons (.refl _) (.cons (.refl _) (.cons (.refl _) (.cons .nil (.cons .nil (.cons .nil (.cons .nil .nil))))))))))))))))) ?_
   refine T ?_
   exact D
end Go.Sy.YtjenpnjajjplkaaGreatDoor
namespace Go.Sy
theorem Se {f g:Nat→Option (Nat × Nat)}:∀ (ps:List (Nat × Value)) (cs:Array Value),(∀ p∈ps,f p.1=g p.1)→Instr.fill f cs ps=Instr.fill g cs ps
 | [],cs,_=>rfl
 | (i,v)::ps,cs,h=>by
  have h1:=h (i,v) y_
  simp only[Instr.fill]
  dsimp only at h1
  rw[h1]
  cases g i with
  | none=>rfl
  | some os =>
   dsimp only
   split
   ·rfl
   ·exact Se ps _ (fun p hp=>h p (by simp[hp]))
theorem Wr {P:Program} (Γ:Ty P) {o:Oper} {s:SS} {t et:TypeId} {ti:TI} {len esz:Nat} {ps:List (Nat × Operand)} {out:List SV} (h:o.op=.build t ps.toArray) (ht:Γ.get t=some ti) (hk:ti.k=.array et len esz)
  (h1:Oc ti.zero=true) (hps:(ps.all fun p=>Nat.blt p.1 len)=true) (hf:Sf ((List.range len).map fun i=>(i * esz,esz)) (ti.zero.map .val) (ps.map fun p=>(p.1,ev s p.2))=some out):Good P o s ⟨.agg out,[],[]⟩ :=
 Good.pure fun κ a w _ hr _=>by
  obtain ⟨d,info,z,k1,k2,k3,k4,k5,k6⟩:=Γ.ok t ti ht
  obtain ⟨hu,i,q1,q2⟩:=J8 Γ ht hk
  have hops:∀ p∈ps,Rd κ w (ev s p.2) (a.eval p.2):=fun p hp=>hr p.2 (by
   simp only[h,Op.operands]
   simp only[List.mem_toArray,List.mem_map]
   exact⟨p,hp,E⟩)
  obtain ⟨r,r1,r2,r3⟩:=Vb (κ:=κ) (w:=w) (a:=a) ps _ out z.cells (by rw[k6];exact Mh _) (by rw[k6];exact Jy h1) hops hf
  refine⟨.agg r,?_,?_⟩
  ·have hcg:=Se (f:=fun i=>some (i * esz,esz)) (g:=fun i=>((List.range len).map fun i=>(i * esz,esz))[i]?) (ps.map fun p=>(p.1,a.eval p.2)) z.cells (fun p hp=>by
    obtain ⟨x,hx,rfl⟩:=List.mem_map.1 hp
    have hlt:x.1<len:=Nat.le_of_ble_eq_true (List.all_eq_true.1 hps x hx)
    dsimp only
    rw[List.getElem?_map,List.getElem?_range hlt]
    rfl)
   simp only[execOp,h,Sem.run_bind,Instr.build,zeroValue,typeInfo,run_program,Result.andThen_ok,k3,k5,Sem.run_pure,run_underlying hu,sizeOf,q1,q2,List.map_toArray]
   rw[hcg,r1]
   simp
  ·simp only[Rd]
   exact⟨r.toList,by simp,r3,r2⟩
theorem VwL.get {s:SS} {V:List Nat}:∀ {l m:List SV} (_:VwL s V l m) {i:Nat} {y:SV},Ei m i=some y→∃ x,Ei l i=some x∧Vw s V x y
 | _,_,.nil,i,y,h=>by cases i<;>simp[Ei]at h
 | _,_,.cons (x:=x) h0 hs,0,y,h=>by
  simp only[Ei,Option.some.injEq]at h
  subst h
  exact⟨x,E,h0⟩
 | _,_,.cons h0 hs,i+1,y,h=>VwL.get hs (i:=i) h
theorem VwL.len {s:SS} {V:List Nat}:∀ {l m:List SV} (_:VwL s V l m),m.length=l.length
 | _,_,.nil=>rfl
 | _,_,.cons _ hs=>by simp[VwL.len hs]
theorem RdL.setI {κ:Ka} {w:World} {x:SV} {v:Value} (hx:Rd κ w x v):∀ {l:List SV} {cs:List Value} (i:Nat),RdL κ w l cs→RdL κ w (l.set i x) (cs.set i v)
 | [],cs,i,h=>by simp only[RdL]at h;subst h;simp[RdL]
 | y::l,cs,0,h=>by
  simp only[RdL]at h
  obtain ⟨u,r,rfl,h1,h2⟩:=h
  simp only[List.set_cons_zero,RdL]
  exact⟨v,r,E,hx,h2⟩
 | y::l,cs,i+1,h=>by
  simp only[RdL]at h
  obtain ⟨u,r,rfl,h1,h2⟩:=h
  simp only[List.set_cons_succ,RdL]
  exact⟨u,_,E,h1,h2.setI hx i⟩
theorem D6 {κ:Ka} {w:World} {k:Nat} {l:List SV} (hi:Inv κ w) (h:ObOK κ w k (.box l)) {off:Nat} {x:SV} {v:Value} (_hx:x.plain=true) (hv:∀ κ w,Rd κ w x v) (h1:v.oneCell'=true) :
  ∃ b,κ k=.blk b∧(∀ j y,Ei l j=some y→∃ u,w.cell? ⟨b,j,none⟩=some u∧Rd κ w y u)∧(∀ j,j<l.length→w.frozen? ⟨b,j,none⟩=false) ∧
   Step (·=k) κ w κ (w.setCell ⟨b,off,none⟩ v)∧Inv κ (w.setCell ⟨b,off,none⟩ v)∧ObOK κ (w.setCell ⟨b,off,none⟩ v) k (.box (l.set off x)):=by
 obtain ⟨b,cs,T,fr,e1,e2,e3,e4,e5⟩:=h
 have hsame:(w.setCell ⟨b,off,none⟩ v).heap[b]? = some (.cells (cs.set off v).toArray T fr):=by
  simp[World.setCell,Array.getElem?_modify,e2]
 have hoth:∀ j,j≠b→(w.setCell ⟨b,off,none⟩ v).heap[j]? = w.heap[j]?:=fun j hj=>heap_setCell_other w ⟨b,off,none⟩ j v hj
 obtain ⟨st,inv⟩:=Iw (w':=w.setCell ⟨b,off,none⟩ v) hi (k:=k) (b:=b) (by rw[e1];rfl) rfl rfl rfl y_ hoth
 have hlen:=e5.length
 refine⟨b,e1,fun j y hy=>?_,fun j hj=>?_,st,inv,b,_,T,fr,e1,hsame,by rw[List.length_set];exact e3,?_,(RdL.step st _ _ e5).setI (hv _ _) off⟩
 ·obtain ⟨u,hu,hr⟩:=e5.get hy
  exact⟨u,by rw[cell_of_row w b j cs.toArray T fr e2,List.getElem?_toArray];exact hu,hr⟩
 ·obtain ⟨lo,hi'⟩:=fr
  simp only[World.frozen?,e2]
  rcases e3 with h | h
  ·simp only at h;subst h;simp
  ·simp only at h;simp;omega
 ·intro c hc
  rcases List.mem_or_eq_of_mem_set hc with h | h
  ·exact e4 c h
  ·rw[h];exact h1
theorem Tc {P:Program} {o:Oper} {s:SS} {f:FuncId} {ik:IntKind} {ts:Array TypeId} {x:Operand} {k off:Nat} {l:List SV} {v:Int}
  (hf:∀ (a:Addr) (x:Int) (w:World),w.cell? a=some (.int ik x)→(callFunc f #[.pointer (some a)]).run P w=.ok (.value (.int ik x)) w)
  (h:o.op=.call ⟨.value (.func f),#[x],ts⟩) (hx:ev s x=.ptr k off) (hk:s.h k=.box l) (hy:Ei l off=some (.val (.int ik v))):Good P o s ⟨.val (.int ik v),[k],[]⟩ :=
 Good.pure fun κ a w hi hr ho=>by
  have h1:=hr x (by simp[h,Op.operands,Call.operands])
  rw[hx]at h1
  have h2:=ho k y_
  rw[hk]at h2
  obtain ⟨b,cs,T,fr,e1,e2,e3,e4,e5⟩:=h2
  simp only[Rd,e1]at h1
  obtain ⟨u,hu,hr2⟩:=e5.get hy
  have hc:w.cell? ⟨b,off,none⟩=some (.int ik v):=by rw[cell_of_row w b off cs.toArray T fr e2,List.getElem?_toArray,hu,hr2.val]
  have hrun:=hf ⟨b,off,none⟩ v w hc
  refine⟨.int ik v,?_,by simp only[Rd]⟩
  have hev:a.eval (.func f)=.func (.func f) #[] #[]:=rfl
  simp[execOp,h,resolve,hev,Deferred.ofValue,invoke,h1,hrun]
theorem Ctx.onward {F:Fr} {κ κ2:Ka} {w w2:World} {ds:List Deferred} (c:Ctx F κ w) (c2:Ctx ⟨w,κ,ds⟩ κ2 w2):Ctx F κ2 w2 where
 size:=Nat.le_trans c.size c2.size
 os:=c2.os.trans c.os
 tape:=c2.tape.trans c.tape
 output:=c2.output.trans c.output
 M:=c2.M.trans c.M
 old b hb h:=by
  refine(c2.old b (Nat.lt_of_lt_of_le hb c.size) (fun k hk=>?_)).trans (c.old b hb h)
  rcases c.own k b hk with h1 | ⟨j,h1⟩
  ·exact absurd hb (Nat.not_lt.2 h1)
  ·exact h j h1
 own k b hk:=by
  rcases c2.own k b hk with h | ⟨j,h⟩
  ·exact .inl (Nat.le_trans c.size h)
  ·exact c.own j b h
 nam k hk:=by
  have hn:∀ x,κ k=x→x≠.new→κ2 k=x∨κ2 k=.dead:=fun x hx hne=>by
   have h:κ2 k=κ k∨κ2 k=.dead:=c2.nam k (by show κ k≠.new;rw[hx];exact hne)
   rw[hx]at h
   exact h
  rcases c.nam k hk with h | h
  ·exact hn _ h hk
  ·rcases hn _ h (by intro e;cases e) with h2 | h2
   ·exact .inr h2
   ·exact .inr h2
def Z7 (P:Program) (fn:Func) (F:Fr) (R:SV) (H':Obs):Exit→Act→World→Prop :=
 bodyPostD P fn fun e w'=>∃ v κ',e=.returned v∧Ctx F κ' w'∧Inv κ' w'∧Rd κ' w' R v∧H'.ok κ' w'
theorem Ya {P:Program} (Γ:Ty P) {f:FuncId} {fn:Func} {c:Code} {A:List SV} {H:Obs} {R:SV} {H':Obs} (hf:P.funcs[f]? = some fn) (hb:fn.body=some c) {n:Nat} (hn':fn.ntmps=n) (hn:A.length≤n)
  (h:∀ (F:Fr) (hF:∀ k,F.k0 k≠.new→k∈H.keys),F.ds=[]→G ⟨P,Γ,F,n,Z7 P fn F R H',H.keys,hF⟩ [.code c] ⟨argσ A,mkh H⟩):Spec P f A H R H':=by
 subst hn'
 intro κ w vs hi hnew hA hH
 refine calls_of_wp_defers hf hb ?_
 have hlen:=hA.length
 refine h ⟨w,κ,[]⟩ hnew E κ _ w ⟨E,?_,hi,Ctx.refl κ w,?_,?_⟩
 ·simp;omega
 ·intro i
  have:=hA.getD (fn.ntmps-vs.length) i
  have he:(vs.toArray++Array.replicate (fn.ntmps-vs.length) undef)=(vs++List.replicate (fn.ntmps-vs.length) undef).toArray:=by simp
  show Rd κ w _ ((vs.toArray++Array.replicate (fn.ntmps-vs.toArray.size) undef).getD i undef)
  rw[List.size_toArray,he]
  simpa using this
 ·intro k
  exact Yq hH (fun hk=>Classical.byContradiction fun hne=>hk (hnew k hne))
theorem Abg {P:Program} (Γ:TyE P) (hm:P.follows .mixedOrders=true) (N:Nat) {f:FuncId} {fn:Func} {c:Code} {A:List SV} {H:Obs} {R:SV} {H':Obs} (hF:Fun P f fn c) {n:Nat} (hn':fn.ntmps=n) (hn:Wk A n=true)
  (h:∀ (F:Fr) (hF:∀ k,F.k0 k≠.new→k∈H.keys),F.ds=[]→Hz ⟨P,Γ.toTy,F,n,Z7 P fn F R H',H.keys,hF⟩ Γ N [.code c] ⟨argσ A,mkh H⟩):Sy.Spec P f A H R H' :=
 Ya Γ.toTy hF.1 hF.2 hn' (Qz hn) fun F hF h0=>run Γ hm N (h F hF h0)
theorem Aez {C:Cx} {k:List KI} {s:SS} {all:Array Oper} {o:Oper} {rest:List Oper} {x:Operand} {ts:Array TypeId} {g:FuncId} {cap:List SV} (h:o.op=.defer ⟨.value x,#[],ts⟩) (hx:ev s x=.clo (.func g) [] cap) (hd:o.dst=none)
  (hw:Dq C.n all o s=some true) (h0:C.F.ds=[]) (bn:List Nat) (hbn:∀ j,j∉bn→s.h j=.fresh)
  (hg:∀ (F:Fr) (hF:∀ j,F.k0 j≠.new→j∈bn) (cv:List Value),F.ds=[⟨.fn (.func g) cv.toArray,#[]⟩]→RdL F.k0 F.w0 cap cv→(∀ κ w,Ctx F κ w→Ctx C.F κ w)→G ⟨C.P,C.Γ,F,C.n,C.B,bn,hF⟩ (.ops all rest::k) s):G C (.ops all (o::rest)::k) s:=by
 intro κ a w hs
 refine wpList_step fun K hK=>?_
 rw[if_pos (Kc hs (Cw hw).2 (Cw hw).1)]
 have hr:=hs.ev x
 rw[hx]at hr
 simp only[Rd]at hr
 obtain ⟨fs,cs,hv,hfs,hcs⟩:=hr
 simp only[RdL]at hfs
 subst hfs
 have hF:∀ j,κ j≠.new→j∈bn:=fun j hj=>Classical.byContradiction fun hn=>hj (by
  have:=hs.obj j
  rw[hbn j hn]at this
  exact this)
 have hrun:(execOp a.eval o).run C.P w=.ok (.defer ⟨.fn (.func g) cs.toArray,#[]⟩) w:=by
  simp[execOp,h,resolve,Deferred.ofValue,hv]
 show o.upon C.P a K _ ((execOp a.eval o).run C.P w)
 rw[hrun,Oper.upon_defer,hd]
 refine hK _ _ (hg ⟨w,κ,[⟨.fn (.func g) cs.toArray,#[]⟩]⟩ hF cs rfl hcs (fun κ2 w2 c2=>hs.ctx.onward c2) κ { a with defers:=_::a.defers } w ⟨?_,hs.size,hs.inv,?_,hs.slot,hs.obj⟩)
 ·show _::a.defers=_
  rw[hs.defers,h0]
 ·have:=Ctx.refl κ w
  exact⟨this.size,this.os,this.tape,this.output,this.M,this.old,this.own,this.nam⟩
end Go.Sy
namespace Go.Sy.YtjenpnjajjplkaaGreatDoor
open Go.Proofs
attribute [local irreducible] Go.Sy.G Go.Sy.DR
set_option maxRecDepth 100000
set_option maxHeartbeats 4000000
theorem Sv (ae al:Addr) (e:Int) (x:Value) (u:FrameMode) (w:World) (he:w.cell? ae=some (.int .i64 e)) (hl:w.cell? al=some x) (hz:w.frozen? al=false) :
  CallsD Tryz.prog 144 #[.pointer (some ae),.pointer (some al)] u w fun r u' w'=>u'=u∧(r=.returned (.tuple #[])∧w'=if e=0 then w else w.setCell al (.slice none 0 0)):=by
 by_cases h:e=0
 ·subst h
  go_enter_d Tryz.func144,Tryz.ntmps144
  go_wp2
  go_end0
  exact⟨E,by simp⟩
 ·rw[if_neg h]
  go_enter_d Tryz.func144,Tryz.ntmps144
  go_wp2
  go_end0
  exact⟨E,E⟩
theorem Ab9 {κ0' κ:Ka} {w0 w:World} {k:Nat} {v:Value} {l:List SV} (h0:Rd κ0' w0 (.ptr k 0) v) (hn:κ0' k≠.new→κ k=κ0' k∨κ k=.dead) (ho:ObOK κ w k (.box l)):∃ b,κ k=.blk b∧v=.pointer (some ⟨b,0,none⟩):=by
 obtain ⟨b,cs,T,fr,e1,_⟩:=ho
 refine⟨b,e1,?_⟩
 have hne:κ0' k≠.new:=fun e=>by simp only[Rd,e]at h0
 rcases hn hne with h | h
 ·rw[e1]at h
  simp only[Rd,← h]at h0
  exact h0
 ·rw[e1]at h;cases h
theorem Ad3 {F F2:Fr} {n:Nat} {bn:List Nat} {hbn:∀ k,F2.k0 k≠.new→k∈bn} {k:List KI} {s:SS} {L:List LineM} {row e:Int} {cv:List Value} (hd:F2.ds=[⟨.fn (.func 144) cv.toArray,#[]⟩])
  (hcv:RdL F2.k0 F2.w0 [.ptr 4 0,.ptr 2 0] cv) (hctx:∀ κ w,Ctx F2 κ w→Ctx F κ w) (h2:s.h 2=.box [.sl 17 Aj L]) (h4:s.h 4=.box [Aa e]) (h3:s.σ 3=Aa row) (p2:s.σ 2=.ptr 2 0) (p4:s.σ 4=.ptr 4 0) :
  G ⟨Tryz.prog,Γ.toTy,F2,n,Z7 Tryz.prog Tryz.f44 F (.tup [.sl 17 Aj (if e=0 then L else []),Aa row,Aa e]) [],bn,hbn⟩ (.code .ret::k) s:=by
 refine Ae7 fun κ a w hs=>?_
 have o2:=hs.obj 2
 rw[h2]at o2
 have o4:=hs.obj 4
 rw[h4]at o4
 simp only[RdL]at hcv
 obtain ⟨v4,r4,rfl,hv4,v2,r2,rfl,hv2,rfl⟩:=hcv
 obtain ⟨b4,k4,rfl⟩:=Ab9 hv4 (hs.ctx.nam 4) o4
 obtain ⟨b2,k2,rfl⟩:=Ab9 hv2 (hs.ctx.nam 2) o2
 obtain ⟨b2',e1,c1,c2,st1,inv1,ob1⟩:=D6 (off:=0) (x:=.val (.slice none 0 0)) (v:=.slice none 0 0) hs.inv o2 rfl (fun κ w=>by simp only[Rd]) rfl
 have ob1:ObOK κ (w.setCell ⟨b2',0,none⟩ (.slice none 0 0)) 2 (.box [.sl 17 Aj []]):=by
  obtain ⟨b,cs,T,fr,f1,f2,f3,f4,f5⟩:=ob1
  refine⟨b,cs,T,fr,f1,f2,f3,f4,?_⟩
  have f5:RdL κ _ [.val (.slice none 0 0)] cs:=f5
  simp only[RdL,Rd]at f5 ⊢
  obtain ⟨v,r,rfl,rfl,rfl⟩:=f5
  exact⟨_,_,E,by simp[RdD],E⟩
 rw[k2]at e1
 cases e1
 obtain ⟨b4',e4,d1,_,_,_,_⟩:=D6 (off:=0) (x:=Aa e) (v:=.int .i64 e) hs.inv o4 rfl (fun κ w=>by simp[Rd,Aa]) rfl
 rw[k4]at e4
 cases e4
 obtain ⟨u4,hu4,hr4⟩:=d1 0 (Aa e) rfl
 have hu4':u4=.int .i64 e:=by simpa [Aa,Rd] using hr4
 subst hu4'
 obtain ⟨u2,hu2,_⟩:=c1 0 _ rfl
 show Leaves Tryz.prog Tryz.f44 a.tmps _ a.defers .returning w
 rw[hs.defers,hd]
 refine leaves_cons (f:=144) (args:=#[.pointer (some ⟨b4,0,none⟩),.pointer (some ⟨b2,0,none⟩)]) y_ (by simp[go_sem]) ?_
 refine(Sv ⟨b4,0,none⟩ ⟨b2,0,none⟩ e u2 .returning w hu4 hu2 (c2 0 y_)).mono ?_
 rintro r u' w'' ⟨rfl,rfl,rfl⟩
 by_cases he:e=0
 ·rw[if_pos he,if_pos he]
  obtain ⟨v,g1,g2⟩:=Js (P:=Tryz.prog) (Γ:=Γ.toTy) hs (fn:=Tryz.f44) (xs:=[.sl 17 Aj L,Aa row,Aa e]) rfl (.cons (.cell p2 h2 rfl rfl) (.cons (h3 ▸ .tmp) (.cons (.cell p4 h4 rfl rfl) .nil)))
  exact⟨v,g1,v,κ,rfl,hctx _ _ hs.ctx,hs.inv,g2,fun p hp=>by cases hp⟩
 ·rw[if_neg he,if_neg he]
  have hs2:St F2 n ⟨s.σ,upd s.h 2 (.box [.sl 17 Aj []])⟩ κ a (w.setCell ⟨b2,0,none⟩ (.slice none 0 0)):=⟨hs.defers,hs.size,inv1,hs.ctx.step inv1 st1,fun i=>Rd.step st1 _ _ (hs.slot i),fun j=>by
   show ObOK κ _ j (upd s.h 2 _ j)
   by_cases hj:j=2
   ·subst hj;exact ob1
   ·have:upd s.h 2 (.box [.sl 17 Aj []]) j=s.h j:=by
     simp only[upd]
     have:Nat.beq j 2=false:=by
      cases hb:Nat.beq j 2
      ·rfl
      ·exact absurd (Nat.eq_of_beq_eq_true hb) hj
     rw[this];rfl
    rw[this]
    exact ObOK.step st1 (show ¬ j=2 from hj) _ (hs.obj j)⟩
  obtain ⟨v,g1,g2⟩:=Js (P:=Tryz.prog) (Γ:=Γ.toTy) hs2 (fn:=Tryz.f44) (xs:=[.sl 17 Aj [],Aa row,Aa e]) rfl (.cons (.cell p2 rfl rfl rfl) (.cons (h3 ▸ .tmp) (.cons (.cell p4 h4 rfl rfl) .nil)))
  exact⟨v,g1,v,κ,rfl,hctx _ _ hs2.ctx,inv1,g2,fun p hp=>by cases hp⟩
theorem Lj {F F2:Fr} {n:Nat} {bn:List Nat} {hbn:∀ k,F2.k0 k≠.new→k∈bn} {k:List KI} {s:SS} {L L':List LineM} {row e:Int} {cv:List Value} (hd:F2.ds=[⟨.fn (.func 144) cv.toArray,#[]⟩])
  (hcv:RdL F2.k0 F2.w0 [.ptr 4 0,.ptr 2 0] cv) (hctx:∀ κ w,Ctx F2 κ w→Ctx F κ w) (hL:(if e=0 then L else [])=L') (h2:s.h 2=.box [.sl 17 Aj L]) (h4:s.h 4=.box [Aa e]) (h3:s.σ 3=Aa row) (p2:s.σ 2=.ptr 2 0) (p4:s.σ 4=.ptr 4 0) :
  G ⟨Tryz.prog,Γ.toTy,F2,n,Z7 Tryz.prog Tryz.f44 F (.tup [.sl 17 Aj L',Aa row,Aa e]) [],bn,hbn⟩ (.code .ret::k) s:=by
 subst hL
 exact Ad3 hd hcv hctx h2 h4 h3 p2 p4
theorem Jn:∀ (l cur:List UInt8),∀ s∈Cu cur l,s.size≤cur.length+l.length
 | [],cur,s,hs=>by
  rw[Cu]at hs
  split at hs
  ·cases hs
  ·simp at hs;rw[hs,Dk];simp
 | c::l,cur,s,hs=>by
  rw[Cu]at hs
  split at hs
  ·rcases List.mem_cons.1 hs with hs | hs
   ·rw[hs,Dk];simp
   ·have:=Jn l [] s hs
    simp at this ⊢;omega
  ·have:=Jn l (cur++[c]) s hs
   simp at this ⊢;omega
theorem M6 (b:List UInt8):(rowsT b).1.length≤400∧∀ s∈(rowsT b).1,s.size≤20000:=by
 rw[rowsT]
 split
 ·exact⟨by simp,fun s hs=>by cases hs⟩
 ·rename_i h1
  split
  ·exact⟨by simp,fun s hs=>by cases hs⟩
  ·rename_i h2
   refine⟨by dsimp only;omega,fun s hs=>?_⟩
   have:=Jn b [] s hs
   simp at this;omega
theorem Ue (r:ByteArray) (hr:r.size≤20000):(wordsT r).1.length≤20001∧∀ s∈(wordsT r).1,s.size≤40:=by
 have hl:=H1 r.data.toList []
 have hrs:r.data.toList.length=r.size:=rfl
 rw[wordsT]
 split
 ·rename_i h
  refine⟨by dsimp only;omega,fun s hs=>?_⟩
  rw[List.all_eq_true]at h
  have:=h s hs
  simp only[wordB,Bool.and_eq_true,decide_eq_true_eq]at this
  exact this.1.2
 ·exact⟨by simp,fun s hs=>by cases hs⟩
theorem Aac (b:List UInt8) (hb:b.length≤1000000):Sy.Spec Tryz.prog 44 [.sl 1 Cc b] [] (.tup [.sl 17 Aj (textT b).1,Aa (textT b).2.1,Aa (textT b).2.2]) []:=Abg Γ hm 100 F44 Tryz.ntmps44 rfl fun F hF h0=>by
 have q1:=Aa4 b hb
 have hres:=textT.eq_1 b
 have hsm:=M6 b
 generalize textT b=res at *
 generalize rowsT b=rt at *
 obtain ⟨rows,e0⟩:=rt
 dsimp only at hres hsm q1
 refine T ?_
 refine Aez E E E E h0 [2,4] (fun j hj=>?_) ?_
 ·simp only[List.mem_cons,List.not_mem_nil,or_false,not_or]at hj
  have n2:Nat.beq j 2=false:=by
   cases hb:Nat.beq j 2
   ·rfl
   ·exact absurd (Nat.eq_of_beq_eq_true hb) hj.1
  have n4:Nat.beq j 4=false:=by
   cases hb:Nat.beq j 4
   ·rfl
   ·exact absurd (Nat.eq_of_beq_eq_true hb) hj.2
  simp[SS.upd,Jj,upd,mkh,n2,n4]
 intro F2 hF2 cv hd hcv hctx
 refine T ?_
 refine C q1 F36 ?_
 cases hz:(e0 != 0)
 rotate_left
 ·have he:e0≠0:=by simpa using hz
  rw[if_pos he]at hres
  subst hres
  refine T ?_
  refine Ae 2 [.sl 17 Aj []] E (.cons .nil .nil) ?_
  exact Lj (L:=[]) hd hcv hctx y_ E E E E E
 have he0:e0=0:=by simpa using hz
 rw[if_neg (by simp[he0])]at hres
 subst he0
 obtain ⟨hlen,hsz⟩:=hsm
 refine T ?_
 refine Xi 2 0 1000 17 Aj E E E E ?_
 refine B3 (fun x:Nat × List LineM=>res=E8 x.1 (rows.drop x.1) x.2∧x.1≤rows.length∧x.2.length≤x.1) (fun x=>[(2,.ptr 2 0),(4,.ptr 4 0),(20,.sl 1 Ah rows),(21,Aa rows.length),(22,Aa x.1)]) (fun x=>[(2,.box [.osl 1000]),(4,.box [Aa 0]),(1000,.row 17 Aj x.2)]) (fun x=>rows.length-x.1) (0,[]) [] ⟨hres,by simp,by simp⟩ U ?_
 rintro ⟨j,out⟩ ⟨hI,hj,hol⟩
 dsimp only at hI hj hol ⊢
 refine T ?_
 refine⟨fun h=>?_,fun h=>?_⟩
 ·have hlt:j<rows.length:=qA h
  have hlt0:((j:Nat):Int).toNat<rows.length:=hlt
  have hr:(rows[((j:Nat):Int).toNat]'hlt0).size≤20000:=hsz _ (List.getElem_mem _)
  have hdr:rows.drop j=rows[((j:Nat):Int).toNat]'hlt0::rows.drop (j+1):=List.drop_eq_getElem_cons hlt
  rw[hdr,E8]at hI
  clear h
  have q2:=Yv (rows[((j:Nat):Int).toNat]'hlt0) q_
  have hws:=Ue (rows[((j:Nat):Int).toNat]'hlt0) hr
  generalize wordsT (rows[((j:Nat):Int).toNat]'hlt0)=wt at *
  obtain ⟨ws,we⟩:=wt
  dsimp only at hI hws q2
  cases hz:(we != 0)
  rotate_left
  ·have he:we≠0:=by simpa using hz
   rw[if_pos he]at hI
   subst hI
   refine T ?_
   refine C q2 F145 ?_
   refine Ae 2 [.sl 17 Aj []] E (.cons .nil .nil) ?_
   exact Lj (L:=[]) hd hcv hctx y_ E E E E E
  have he:we=0:=by simpa using hz
  rw[if_neg (by simp[he])]at hI
  by_cases hw0:ws.length=0
  ·rw[if_pos (List.eq_nil_of_length_eq_zero hw0)]at hI
   have f0:((ws.length:Int) == 0)=true:=by rw[hw0];rfl
   refine T ?_
   refine C q2 F145 ?_
   exact Az (j+1,out) [] ⟨hI,hlt,by dsimp only;omega⟩ (by dsimp only;omega) U
  ·rw[if_neg (fun e=>hw0 (by rw[e];rfl))]at hI
   have f0:((ws.length:Int) == 0)=false:=by rw[beq_eq_false_iff_ne];omega
   have q3:=Aah ws ((j:Int)+1) q_ hws.2
   generalize Bd ws ((j:Int)+1)=st at *
   obtain ⟨l,se⟩:=st
   dsimp only at hI q3
   cases hz2:(se != 0)
   rotate_left
   ·have he2:se≠0:=by simpa using hz2
    rw[if_pos he2]at hI
    subst hI
    refine T ?_
    refine C q2 F145 ?_
    refine C q3 F146 ?_
    refine Ag 1000 E ?_
    exact Lj (L:=out) hd hcv hctx (if_neg he2) E E E E E
   ·have he2:se=0:=by simpa using hz2
    rw[if_neg (by simp[he2])]at hI
    refine T ?_
    refine C q2 F145 ?_
    refine C q3 F146 ?_
    refine X (Ak Γ.toTy 56 E E E E E (.row E) (.lit (e:=Aj) (l:=[l]) E E) y_ (by simp;omega) (by simp;omega)) ?_
    exact Az (j+1,out++[l]) [(1000,56)] ⟨hI,hlt,by simp;omega⟩ (by dsimp only;omega) U
 ·have hje:j=rows.length:=qB h
  subst hje
  rw[List.drop_length,E8]at hI
  subst hI
  clear h
  refine T ?_
  refine Ag 1000 E ?_
  exact Lj (L:=out) hd hcv hctx (if_pos E) E E E E E
end Go.Sy.YtjenpnjajjplkaaGreatDoor
