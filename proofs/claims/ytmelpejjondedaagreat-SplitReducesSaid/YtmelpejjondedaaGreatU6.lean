/-
  V6 V7 V8 T5 T6 T7 T8 T9 T10 T11 T12 T13 T15 T16 T17 T14 T19 T21 Z0 Z1 Z2 Sy34: parts of a proof, joined by program.
-/
import Derived.Test.YtmelpejjondedaaGreatU4
import Derived.Test.YtmelpejjondedaaGreatU5
namespace Go.Sy.YtmelpejjondedaaGreat
open Go.Proofs
attribute [local irreducible] Go.Sy.G Go.Sy.DR
set_option maxRecDepth 20000
set_option maxHeartbeats 4000000
theorem great1 {n:Net} (h:n.ports.any (fun p=>decide (100<p.tagged.length))=true):Hb n=true:=by simp only[Hb,h,Bool.or_true,Bool.true_or]
theorem great2 {n:Net} (h:n.domains.any (fun p=>decide (100<p.peers.length))=true):Hb n=true:=by simp only[Hb,h,Bool.or_true,Bool.true_or]
theorem great3 {n:Net} (h:n.floods.any (fun p=>decide (100<p.addrs.length))=true):Hb n=true:=by simp only[Hb,h,Bool.or_true,Bool.true_or]
theorem great4 {n:Net} (h:n.vrfs.any (fun v=>decide (100<v.imports.length) || decide (100<v.exports.length))=true):Hb n=true:=by simp only[Hb,h,Bool.or_true]
theorem greatS (n:Net):Sy.Spec Tryz.prog 10 [Ap n] [] (Ad (Hb n)) []:=Ab Γ hm 100 F10 Tryz.ntmps10 rfl fun F hF=>by
 conv=>whnf
 (repeat' (first | (refine⟨fun h=>?_,fun h=>?_⟩<;>(repeat (first | simp only[decide_eq_true_eq]at h | simp only[decide_eq_false_iff_not]at h))<;>((refine rg ?_);(conv=>whnf);repeat((refine aT ?_);(refine rg ?_);(conv=>whnf)))) | (refine Ac rfl (.cons .tmp .nil) ?_ rfl)))
 all_goals first
  | (refine congrArg Ad ?_;clear hF;grind [Hb])
  | skip
 have l1:n.ports.length≤200:=by omega
 have l2:n.domains.length≤200:=by omega
 have l3:n.floods.length≤200:=by omega
 have l4:n.vrfs.length≤200:=by omega
 refine Bg 1 8 (Ap n) E E E ?_
 refine A2 n.ports.length (fun j=>Dd (fun _ p=>!(decide (100<p.tagged.length))) n.ports j) (fun j=>[(1,.ref 8 (Ap n) 0),(3,Aa j)]) (fun _=>[]) [] (A5 _ _) ⟨⟨E,E,E,E,Y⟩,Y,E,E⟩ ?_
 intro j hj hI
 refine rg ?_;conv=>whnf
 refine⟨fun h=>?_,fun h=>?_⟩
 ·have hjl:j<n.ports.length:=by simpa using h
  refine rg ?_;conv=>whnf
  (repeat' (first | (refine⟨fun h=>?_,fun h=>?_⟩<;>(repeat (first | simp only[decide_eq_true_eq]at h | simp only[decide_eq_false_iff_not]at h))<;>((refine rg ?_);(conv=>whnf))) | (refine Ac rfl (.cons .tmp .nil) ?_ rfl) | (refine⟨qy,?_⟩;((conv=>whnf))) | (refine⟨by (omega),by (omega),?_⟩;((conv=>whnf))) | (refine⟨by (unfold I64;omega),?_⟩;((conv=>whnf))) | refine Aw [] hI hjl ?_ ⟨⟨rfl,rfl,rfl,rfl,trivial⟩,trivial,rfl,rfl⟩))
  all_goals (simp only[Int.toNat_natCast]at *)
  ·refine congrArg Ad ?_
   exact great1 (L8 hjl (by simp;omega))
  ·exact A3 hI hjl (by simp;omega)
 have a1:n.ports.any (fun p=>decide (100<p.tagged.length))=false:=J0 hI (by simpa using h)
 clear hI hj h
 refine rg ?_;conv=>whnf
 refine A2 n.domains.length (fun j=>Dd (fun _ p=>!(decide (100<p.peers.length))) n.domains j) (fun j=>[(1,.ref 8 (Ap n) 0),(4,Aa j)]) (fun _=>[]) [] (A5 _ _) ⟨⟨E,E,E,E,Y⟩,Y,E,E⟩ ?_
 intro j hj hI
 refine rg ?_;conv=>whnf
 refine⟨fun h=>?_,fun h=>?_⟩
 ·have hjl:j<n.domains.length:=by simpa using h
  refine rg ?_;conv=>whnf
  (repeat' (first | (refine⟨fun h=>?_,fun h=>?_⟩<;>(repeat (first | simp only[decide_eq_true_eq]at h | simp only[decide_eq_false_iff_not]at h))<;>((refine rg ?_);(conv=>whnf))) | (refine Ac rfl (.cons .tmp .nil) ?_ rfl) | (refine⟨qy,?_⟩;((conv=>whnf))) | (refine⟨by (omega),by (omega),?_⟩;((conv=>whnf))) | (refine⟨by (unfold I64;omega),?_⟩;((conv=>whnf))) | refine Aw [] hI hjl ?_ ⟨⟨rfl,rfl,rfl,rfl,trivial⟩,trivial,rfl,rfl⟩))
  all_goals (simp only[Int.toNat_natCast]at *)
  ·refine congrArg Ad ?_
   exact great2 (L8 hjl (by simp;omega))
  ·exact A3 hI hjl (by simp;omega)
 have a2:n.domains.any (fun p=>decide (100<p.peers.length))=false:=J0 hI (by simpa using h)
 clear hI hj h
 refine rg ?_;conv=>whnf
 refine A2 n.floods.length (fun j=>Dd (fun _ p=>!(decide (100<p.addrs.length))) n.floods j) (fun j=>[(1,.ref 8 (Ap n) 0),(5,Aa j)]) (fun _=>[]) [] (A5 _ _) ⟨⟨E,E,E,E,Y⟩,Y,E,E⟩ ?_
 intro j hj hI
 refine rg ?_;conv=>whnf
 refine⟨fun h=>?_,fun h=>?_⟩
 ·have hjl:j<n.floods.length:=by simpa using h
  refine rg ?_;conv=>whnf
  (repeat' (first | (refine⟨fun h=>?_,fun h=>?_⟩<;>(repeat (first | simp only[decide_eq_true_eq]at h | simp only[decide_eq_false_iff_not]at h))<;>((refine rg ?_);(conv=>whnf))) | (refine Ac rfl (.cons .tmp .nil) ?_ rfl) | (refine⟨qy,?_⟩;((conv=>whnf))) | (refine⟨by (omega),by (omega),?_⟩;((conv=>whnf))) | (refine⟨by (unfold I64;omega),?_⟩;((conv=>whnf))) | refine Aw [] hI hjl ?_ ⟨⟨rfl,rfl,rfl,rfl,trivial⟩,trivial,rfl,rfl⟩))
  all_goals (simp only[Int.toNat_natCast]at *)
  ·refine congrArg Ad ?_
   exact great3 (L8 hjl (by simp;omega))
  ·exact A3 hI hjl (by simp;omega)
 have a3:n.floods.any (fun p=>decide (100<p.addrs.length))=false:=J0 hI (by simpa using h)
 clear hI hj h
 refine rg ?_;conv=>whnf
 refine A2 n.vrfs.length (fun j=>Dd (fun _ v=>!(decide (100<v.imports.length) || decide (100<v.exports.length))) n.vrfs j) (fun j=>[(1,.ref 8 (Ap n) 0),(6,Aa j)]) (fun _=>[]) [] (A5 _ _) ⟨⟨E,E,E,E,Y⟩,Y,E,E⟩ ?_
 intro j hj hI
 refine rg ?_;conv=>whnf
 refine⟨fun h=>?_,fun h=>?_⟩
 ·have hjl:j<n.vrfs.length:=by simpa using h
  refine rg ?_;conv=>whnf
  (repeat' (first | (refine⟨fun h=>?_,fun h=>?_⟩<;>(repeat (first | simp only[decide_eq_true_eq]at h | simp only[decide_eq_false_iff_not]at h))<;>((refine rg ?_);(conv=>whnf);repeat((refine aT ?_);(refine rg ?_);(conv=>whnf)))) | (refine Ac rfl (.cons .tmp .nil) ?_ rfl) | (refine⟨qy,?_⟩;((conv=>whnf))) | (refine⟨by (omega),by (omega),?_⟩;((conv=>whnf))) | (refine⟨by (unfold I64;omega),?_⟩;((conv=>whnf))) | refine Aw [] hI hjl ?_ ⟨⟨rfl,rfl,rfl,rfl,trivial⟩,trivial,rfl,rfl⟩))
  all_goals (simp only[Int.toNat_natCast]at *)
  all_goals first
   | exact A3 hI hjl (by simp;omega)
   | (refine congrArg Ad ?_;exact great4 (L8 hjl (by simp;omega)))
 have a4:n.vrfs.any (fun v=>decide (100<v.imports.length) || decide (100<v.exports.length))=false:=J0 hI (by simpa using h)
 clear hI hj h
 refine rg ?_;conv=>whnf
 refine Ac E (.cons .tmp .nil) (congrArg Ad ?_) E
 rw[Hb,a1,a2,a3,a4]
 simp
 omega
def C0:Vec→List Vec→Vec
 | v,[]=>v
 | v,x::l=>C0 (if Ci x v then x else v) l
def Asl:Vec:=⟨0,0,0,0,0⟩
def Hs:List Vec→Vec × Bool
 | []=>(Asl,false)
 | v::l=>(C0 v (v::l),true)
theorem Kz (a:Vec):Ci a a=false:=by simp[Ci]
theorem Aik {a b:Vec} (h:Ci a b=true):Ci b a=false:=by
 unfold Ci at *
 grind
theorem Ta {a b:Vec} (h:a≠b):Ci a b=true∨Ci b a=true:=by
 obtain ⟨a1,a2,a3,a4,a5⟩:=a
 obtain ⟨b1,b2,b3,b4,b5⟩:=b
 simp only[ne_eq,Vec.mk.injEq]at h
 simp only[Ci]
 grind
theorem S9 {a b c:Vec} (h1:Ci a b=true) (h2:Ci b c=true):Ci a c=true:=by
 obtain ⟨a1,a2,a3,a4,a5⟩:=a
 obtain ⟨b1,b2,b3,b4,b5⟩:=b
 obtain ⟨c1,c2,c3,c4,c5⟩:=c
 simp only[Ci]at *
 grind
theorem Yy:∀ (v:Vec) (l:List Vec),C0 v l=v∨C0 v l∈l
 | v,[]=>.inl rfl
 | v,x::l=>by
  rw[C0]
  rcases Yy (if Ci x v then x else v) l with h | h
  ·rw[h]
   split
   ·exact .inr za
   ·exact .inl E
  ·exact .inr (by simp[h])
theorem Abg:∀ (v:Vec) (l:List Vec),Ci v (C0 v l)=false∧∀ x∈l,Ci x (C0 v l)=false
 | v,[]=>⟨Kz v,by simp⟩
 | v,x::l=>by
  rw[C0]
  obtain ⟨h1,h2⟩:=Abg (if Ci x v then x else v) l
  have key:Ci v (C0 (if Ci x v then x else v) l)=false∧Ci x (C0 (if Ci x v then x else v) l)=false:=by
   generalize C0 (if Ci x v then x else v) l=m at *
   cases hx:Ci x v with
   | true =>
    rw[hx]at h1
    simp only[if_true]at h1
    refine⟨?_,h1⟩
    cases hv:Ci v m with
    | false=>rfl
    | true=>rw[S9 hx hv]at h1;cases h1
   | false =>
    rw[hx]at h1
    simp only[Bool.false_eq_true,if_false]at h1
    refine⟨h1,?_⟩
    cases hv:Ci x m with
    | false=>rfl
    | true =>
     by_cases hxv:x=v
     ·subst hxv;rw[hv]at h1;cases h1
     ·rcases Ta hxv with h3 | h3
      ·rw[hx]at h3;cases h3
      ·rw[S9 h3 hv]at h1;cases h1
  refine⟨key.1,fun y hy=>?_⟩
  rcases List.mem_cons.1 hy with rfl | hy
  ·exact key.2
  ·exact h2 y hy
theorem Afr (v:Vec) (l:List Vec) (j:Nat) (h:j<l.length):C0 v (l.take (j+1))=(if Ci l[j] (C0 v (l.take j)) then l[j] else C0 v (l.take j)):=by
 have key:∀ (a b:List Vec) (v:Vec),C0 v (a++b)=C0 (C0 v a) b:=by
  intro a
  induction a with
  | nil=>intro b v;rfl
  | cons x a ih=>intro b v;rw[List.cons_append,C0,C0,ih]
 rw[List.take_succ_eq_append_getElem h,key]
 rfl
theorem leastS (l:List Vec) (hl:Ar l):Sy.Spec Tryz.prog 236 [.sl 5 Dt l] [] (.tup [Dt (Hs l).1,Ad (Hs l).2]) []:=Ab Γ hm 100 F236 Tryz.ntmps236 rfl fun F hF=>by
 unfold Ar at hl
 have hR:∀ h:0<l.length,Hs l=(C0 l[0] l,true):=fun h=>by
  cases l with
  | nil=>simp at h
  | cons v t=>rfl
 conv=>whnf
 refine⟨fun h=>?_,fun h=>?_⟩
 ·have:l=[]:=List.eq_nil_of_length_eq_zero (by have:(l.length:Int)=0:=(by simpa using h);omega)
  subst this
  refine rg ?_;conv=>whnf
  exact done E (.cons (.cell E E E E) (.cons .tmp .nil)) [] [] (fun _ h=>h) E E ⟨Y,Y,E,E⟩
 have h0:0<l.length:=by
  have:¬ (l.length:Int)=0:=by simpa using h
  omega
 rw[hR h0]
 refine rg ?_;conv=>whnf
 refine⟨E,by decide,h0,?_⟩
 conv=>whnf
 have e0:l[(0:Int).toNat]'(h0)=l[0]:=rfl
 generalize hv:l[0]=v at *
 refine At l.length (fun j=>[(0,.sl 5 Dt l),(2,.ptr 2 0),(4,.ptr 4 0),(14,.sl 5 Dt l),(15,Aa l.length),(16,Aa j)]) (fun j=>[(2,.box [Aa 0,Aa 0,Aa 0,Aa 0,Aa 0]),(4,.box [Aa (C0 v (l.take j)).root,Aa (C0 v (l.take j)).cost,Aa (C0 v (l.take j)).bridge,Aa (C0 v (l.take j)).port,Aa (C0 v (l.take j)).own])]) []
  ⟨⟨rfl,rfl,rfl,rfl,rfl,rfl,rfl,rfl,rfl,rfl,rfl,rfl,trivial⟩,⟨.inl rfl,rfl,.inl (by subst hv;rfl),rfl,trivial⟩,rfl,rfl⟩ ?_
 intro j hj
 refine rg ?_;conv=>whnf
 refine⟨fun h=>?_,fun h=>?_⟩
 ·have hlt:j<l.length:=by simpa using h
  have hdrop:=Afr v l j hlt
  generalize hx:l[j]=x at hdrop
  have hx':l[(j:Int).toNat]'qn=x:=hx
  generalize hmn:C0 v (l.take j)=m at hdrop
  refine rg ?_;conv=>whnf
  refine⟨E,by omega,by omega,?_⟩
  rw[hx']
  conv=>whnf
  refine Ah (lessS x m) F287 E E E E E ?_
  refine rg ?_;conv=>whnf
  refine⟨fun h2=>?_,fun h2=>?_⟩
  ·rw[h2,if_pos rfl]at hdrop
   refine rg ?_;conv=>whnf
   refine⟨by unfold I64;omega,?_⟩
   conv=>whnf
   exact Aq [] hlt ⟨⟨E,E,E,E,E,E,E,E,E,E,E,E,Y⟩,⟨.inl E,E,.inl (by rw[hdrop];rfl),E,Y⟩,E,E⟩
  ·rw[h2]at hdrop
   refine rg ?_;conv=>whnf
   refine⟨by unfold I64;omega,?_⟩
   conv=>whnf
   exact Aq [] hlt ⟨⟨E,E,E,E,E,E,E,E,E,E,E,E,Y⟩,⟨.inl E,E,.inl (by rw[hdrop];rfl),E,Y⟩,E,E⟩
 ·have hjl:¬ j<l.length:=by simpa using h
  rw[List.take_of_length_le qn]
  refine rg ?_;conv=>whnf
  exact done E (.cons (.cell E E E E) (.cons .tmp .nil)) [] [] (fun _ h=>h) E E ⟨Y,Y,E,E⟩
theorem Afs {l:List Vec} (h:(Hs l).2=false):l=[]∧(Hs l).1=Asl:=by
 cases l with
 | nil=>exact⟨rfl,rfl⟩
 | cons v t=>cases h
theorem Abh (l:List Vec):∀ x∈l,Ci x (Hs l).1=false:=by
 cases l with
 | nil=>simp
 | cons v t=>exact(Abg v (v::t)).2
theorem Air {l:List Vec} (h:(Hs l).2=true):(Hs l).1∈l:=by
 cases l with
 | nil=>cases h
 | cons v t =>
  rcases Yy v (v::t) with h | h
  ·show C0 v (v::t)∈v::t
   rw[h];simp
  ·exact h
theorem Wj (n:Net):∀ x∈Cr n,0≤x∧x<n.devices.length:=fun x hx=>by
 rw[Ym,Jz]at hx
 obtain ⟨i,hi,rfl⟩:=List.mem_map.1 hx
 have hi:=List.mem_range.1 hi
 have h1:=List.countP_le_length (p:=fun k=>Cj n (k:Nat) i) (l:=List.range n.devices.length)
 rw[List.length_range]at h1
 have h2:(List.range n.devices.length).countP (fun k=>Cj n (k:Nat) i)≠n.devices.length:=fun e=>by
  have:=List.countP_eq_length.1 (e.trans List.length_range.symm) i (List.mem_range.2 hi)
  rw[Mu]at this
  cases this
 omega
theorem En (n:Net):(Cr n).length=n.devices.length:=by rw[Ym,Jz];simp
end Go.Sy.YtmelpejjondedaaGreat
namespace Go.Sy.YtmelpejjondedaaGreat
open Go.Proofs
attribute [local irreducible] Go.Sy.G Go.Sy.DR
set_option maxRecDepth 100000
set_option maxHeartbeats 4000000
def Q9 (n:Net) (up:List Bool) (ranks:List Int) (x y:SV):List SV:=[.sl 5 Bt n.devices,.sl 7 Bj n.ports,.sl 3 Cu n.links,.sl 6 A1 n.domains,.sl 4 Br n.statics,.sl 4 Ca n.floods,.sl 5 C6 n.vrfs,.sl 5 Du n.irbs,.sl 1 Ad up,.sl 1 Aa ranks,x,y]
def Cb (n:Net) (up:List Bool) (i:Nat):Int :=
 let p:=n.ports.getD i default
 if p.link<0 || !(up.getD p.link.toNat false) then -1 else (nth n.links p.link).a+(nth n.links p.link).b-i
theorem farS (n:Net) (up:List Bool) (ranks:List Int) (x y:SV) (_hx:(x.boxed && x.data && y.boxed && y.data && Nat.beq (cellsOf x).length 1 && Nat.beq (cellsOf y).length 1)=true) (i:Nat) (hr:Ag n=true) (hu:up.length=n.links.length) (hi:i<n.ports.length) :
  Sy.Spec Tryz.prog 158 [.ref 12 (.agg (Q9 n up ranks x y)) 0,Aa i] [] (Aa (Cb n up i)) []:=Ab Γ hm 100 F158 Tryz.ntmps158 rfl fun F hF=>by
 have hpl:=Dy hr hi
 have hf:=Cy hr
 have e1:n.ports[(i:Int).toNat]'qn=n.ports[i]:=rfl
 have hfar:Cb n up i=if n.ports[i].link<0 || !(up.getD n.ports[i].link.toNat false) then -1 else (nth n.links n.ports[i].link).a+(nth n.links n.ports[i].link).b-i:=by
  rw[Cb,Bb hi]
 generalize hp:n.ports[i]=p at *
 have hle:=fun h=>Ir hr (i:=p.link.toNat) h
 conv=>whnf
 refine⟨E,by omega,by omega,?_⟩
 rw[e1]
 conv=>whnf
 (repeat' (first | (refine⟨fun h=>?_,fun h=>?_⟩<;>(repeat (first | simp only[decide_eq_true_eq]at h | simp only[decide_eq_false_iff_not]at h | simp only[Bool.not_eq_true']at h | simp only[Bool.not_eq_false']at h))<;>((first|refine rg ?_|refine rd qy ?_);(conv=>whnf))) | (refine Ac rfl (.cons .tmp .nil) ?_ rfl) | (refine⟨qy,?_⟩;((conv=>whnf);repeat((refine aT ?_);(refine rg ?_);(conv=>whnf)))) | (refine⟨by (first | omega | ((have hq:=hle qn;unfold I64;omega))),by (first | omega | ((have hq:=hle qn;unfold I64;omega))),?_⟩;((conv=>whnf)))))
 all_goals (refine congrArg Aa ?_;rw[hfar])
 ·simp_all
 ·have h1:up.getD p.link.toNat false=false:=by rw[Bb qn];assumption
  rw[h1];simp
 ·have h1:up.getD p.link.toNat false=true:=by rw[Bb qn];assumption
  rw[h1,Ao qn]
  simp_all
def Of (n:Net) (up:List Bool) (ranks roots costs:List Int):SV:=.ref 12 (.agg (Q9 n up ranks (.sl 1 Aa roots) (.sl 1 Aa costs))) 0
def Jy (n:Net) (ranks costs:List Int) (i k:Nat):Bool :=
 let a:=(n.ports.getD i default).dev
 let b:=(n.ports.getD k default).dev
 decide (nth costs a<nth costs b) || (nth costs a == nth costs b && decide (nth ranks a<nth ranks b))
theorem Ag4 (n:Net) (up:List Bool) (ranks roots costs:List Int) (i k:Nat) (hr:Ag n=true) (hrk:ranks.length=n.devices.length) (hc:costs.length=n.devices.length) (hi:i<n.ports.length) (hk:k<n.ports.length) :
  Sy.Spec Tryz.prog 159 [Of n up ranks roots costs,Aa i,Aa k] [] (Ad (Jy n ranks costs i k)) []:=Ab Γ hm 100 F159 Tryz.ntmps159 rfl fun F hF=>by
 have hd1:=Oo hr hi
 have hd2:=Oo hr hk
 have e1:n.ports[(i:Int).toNat]'qn=n.ports[i]:=rfl
 have e2:n.ports[(k:Int).toNat]'qn=n.ports[k]:=rfl
 have hres:Jy n ranks costs i k=(decide (nth costs n.ports[i].dev<nth costs n.ports[k].dev) || (nth costs n.ports[i].dev == nth costs n.ports[k].dev && decide (nth ranks n.ports[i].dev<nth ranks n.ports[k].dev))):=by
  rw[Jy,Bb hi,Bb hk]
 rw[Ao qn,Ao qn,Ao qn,Ao qn]at hres
 conv=>whnf
 (repeat' (first | (refine⟨fun h=>?_,fun h=>?_⟩<;>(repeat (first | simp only[decide_eq_true_eq]at h | simp only[decide_eq_false_iff_not]at h | simp only[beq_iff_eq]at h | simp only[beq_eq_false_iff_ne]at h))<;>((refine rd qy ?_);(conv=>whnf))) | (refine Ac rfl (.cons .tmp .nil) ?_ rfl) | (refine⟨qy,?_⟩;((conv=>whnf))) | (refine⟨by (first | omega | (simp only[Int.toNat_natCast];omega)),by (first | omega | (simp only[Int.toNat_natCast];omega)),?_⟩;((conv=>whnf)))))
 all_goals (refine congrArg Ad ?_;rw[hres];clear hF hres hr;simp only[Int.toNat_natCast]at *;grind)
theorem Tf {n:Net} {up:List Bool} (h:Ag n=true) {i:Nat} (hi:i<n.ports.length) (hf:0≤Cb n up i):Cb n up i<n.ports.length:=by
 have hp:=J5 h hi
 have hpl:=Dy h hi
 simp only[Eu,Bool.and_eq_true,Bool.or_eq_true,beq_iff_eq]at hp
 have hp:=hp.2
 unfold Cb at *
 rw[Bb hi]at *
 simp only at *
 split at hf
 ·omega
 ·rename_i hc
  rw[if_neg hc]
  simp only[Bool.or_eq_true,decide_eq_true_eq,not_or]at hc
  rcases hp with hp | hp
  ·omega
  ·have hl:n.ports[i].link.toNat<n.links.length:=by omega
   have he:=Ir h hl
   rw[Ao hl]at *
   omega
def Vb (n:Net) (up:List Bool) (ranks roots costs:List Int) (dev:Int) (i:Nat):Option Vec :=
 let p:=n.ports.getD i default
 let far:=Cb n up i
 let there:=(nth n.ports far).dev
 if p.dev == dev && decide (0≤far) then some ⟨nth roots there,nth costs there+p.cost,nth ranks there,far,i⟩ else none
def H2 (n:Net) (up:List Bool) (ranks roots costs:List Int) (dev:Int) (j:Nat):List Vec:=(List.range j).filterMap (Vb n up ranks roots costs dev)
theorem Ajl (n:Net) (up:List Bool) (ranks roots costs:List Int) (dev:Int) (j:Nat):H2 n up ranks roots costs dev (j+1)=H2 n up ranks roots costs dev j++(Vb n up ranks roots costs dev j).toList:=by
 rw[H2,List.range_succ,List.filterMap_append]
 cases h:Vb n up ranks roots costs dev j<;>simp[H2,h]
theorem Vc (n:Net) (up:List Bool) (ranks roots costs:List Int) (dev:Int) (j:Nat):(H2 n up ranks roots costs dev j).length≤j:=by
 have:=List.length_filterMap_le (Vb n up ranks roots costs dev) (List.range j)
 simpa [H2] using this
def E7 (n:Net) (up:List Bool) (ranks roots costs:List Int) (dev:Int):Int :=
 let r:=Hs (H2 n up ranks roots costs dev n.ports.length)
 if !r.2 || nth roots dev == nth ranks dev then -1 else r.1.own
theorem bestS (n:Net) (up:List Bool) (ranks roots costs:List Int) (dev:Int) (hr:Ag n=true) (hu:up.length=n.links.length) (hcost:Cm n=true) (hrk:ranks.length=n.devices.length) (hro:roots.length=n.devices.length) (hc:costs.length=n.devices.length)
  (hb:∀ c∈costs,0≤c∧c<1000000000) (hd:0≤dev∧dev<n.devices.length) :
  Sy.Spec Tryz.prog 160 [Of n up ranks roots costs,Aa dev] [] (Aa (E7 n up ranks roots costs dev)) []:=Ab Γ hm 100 F160 Tryz.ntmps160 rfl fun F hF=>by
 have hf:=Cy hr
 conv=>whnf
 refine Bm 5 1000 5 Dt E E ?_
 refine At n.ports.length (fun j=>[(0,Of n up ranks roots costs),(1,Aa dev),(5,.osl 1000),(16,.sl 7 Bj n.ports),(17,Aa n.ports.length),(18,Aa j)]) (fun j=>[(1000,.row 5 Dt (H2 n up ranks roots costs dev j))]) []
  ⟨⟨rfl,rfl,rfl,rfl,rfl,rfl,rfl,rfl,rfl,rfl,rfl,rfl,trivial⟩,⟨.inl rfl,rfl,trivial⟩,rfl,rfl⟩ ?_
 intro j hj
 refine rg ?_;conv=>whnf
 refine⟨fun h=>?_,fun h=>?_⟩
 ·have hlt:j<n.ports.length:=by simpa using h
  have e1:n.ports[(j:Int).toNat]'qn=n.ports[j]:=rfl
  have hfar:=farS n up ranks (.sl 1 Aa roots) (.sl 1 Aa costs) rfl j hr hu hlt
  have hfl:=Tf (up:=up) hr hlt
  have hsucc:=Ajl n up ranks roots costs dev j
  have hbl:=Vc n up ranks roots costs dev j
  have hcand:Vb n up ranks roots costs dev j=if n.ports[j].dev == dev && decide (0≤Cb n up j) then some ⟨nth roots (nth n.ports (Cb n up j)).dev,nth costs (nth n.ports (Cb n up j)).dev+n.ports[j].cost,nth ranks (nth n.ports (Cb n up j)).dev,Cb n up j,j⟩ else none:=by
   rw[Vb,Bb hlt]
  generalize Cb n up j=k at *
  have hpc:1≤n.ports[j].cost∧n.ports[j].cost≤65535:=by
   simp only[Cm,Bool.not_eq_true',List.any_eq_false]at hcost
   have:=hcost _ (List.getElem_mem hlt)
   simp only[Ik,Bool.or_eq_true,decide_eq_true_eq,not_or]at this
   omega
  obtain ⟨p,hp⟩:∃ p,n.ports[j]=p:=⟨_,rfl⟩
  rw[hp]at e1 hcand hpc
  refine rg ?_;conv=>whnf
  refine⟨E,by omega,by omega,?_⟩
  rw[e1]
  conv=>whnf
  refine Ah hfar F158 E E E E E ?_
  refine rg ?_;conv=>whnf
  refine⟨fun h=>?_,fun h=>?_⟩
  ·refine rg ?_;conv=>whnf
   refine⟨fun h2=>?_,fun h2=>?_⟩
   ·have hk0:0≤k:=of_decide_eq_true h2
    have hk1:=hfl hk0
    rw[if_pos (by simp only[Bool.and_eq_true,decide_eq_true_eq];exact⟨h,hk0⟩),Ao (l:=n.ports) (i:=k) qn]at hcand
    have hpd:=Oo hr (i:=k.toNat) qn
    obtain ⟨q,hq⟩:∃ q,n.ports[k.toNat]'qn=q:=⟨_,rfl⟩
    rw[hq]at hcand hpd
    have hcb:=hb (costs[q.dev.toNat]'qn) (List.getElem_mem _)
    rw[Ao (l:=roots) (i:=q.dev) qn,Ao (l:=costs) (i:=q.dev) qn,Ao (l:=ranks) (i:=q.dev) qn]at hcand
    refine rg ?_;conv=>whnf
    refine⟨E,hk0,by omega,?_⟩
    rw[hq]
    conv=>whnf
    refine⟨qy,?_⟩
    refine⟨by omega,by omega,?_⟩
    conv=>whnf
    refine⟨qy,?_⟩
    refine⟨by omega,by omega,?_⟩
    conv=>whnf
    refine⟨by unfold I64;omega,?_⟩
    conv=>whnf
    refine⟨qy,?_⟩
    refine⟨by omega,by omega,?_⟩
    conv=>whnf
    refine Bn (Ae Γ.toTy 72 E E E E E (.row E) (.lit (l:=[(⟨roots[q.dev.toNat]'qn,costs[q.dev.toNat]'qn+p.cost,ranks[q.dev.toNat]'qn,k,j⟩:Vec)]) E E) za (by simp;omega) (by simp;omega)) qy E ?_
    refine rd qy ?_;conv=>whnf
    refine⟨qy,?_⟩
    conv=>whnf
    refine⟨by unfold I64;omega,?_⟩
    conv=>whnf
    refine Aq [(1000,72)] hlt ⟨⟨E,E,E,E,E,E,E,E,E,E,E,E,Y⟩,⟨.inl (congrArg (Ob.row 5 Dt) ?_),E,Y⟩,E,E⟩
    rw[hsucc,hcand]
    rfl
   ·have hk0:¬ 0≤k:=of_decide_eq_false h2
    rw[if_neg (by simp only[Bool.and_eq_true,decide_eq_true_eq];exact fun hh=>hk0 hh.2)]at hcand
    refine rg ?_;conv=>whnf
    refine⟨by unfold I64;omega,?_⟩
    conv=>whnf
    refine Aq [] hlt ⟨⟨E,E,E,E,E,E,E,E,E,E,E,E,Y⟩,⟨.inl (congrArg (Ob.row 5 Dt) ?_),E,Y⟩,E,E⟩
    rw[hsucc,hcand]
    simp
  ·rw[if_neg (by rw[h];simp)]at hcand
   (refine rg ?_;(conv=>whnf);refine aF ?_;refine rg ?_;conv=>whnf)
   refine⟨by unfold I64;omega,?_⟩
   conv=>whnf
   refine Aq [] hlt ⟨⟨E,E,E,E,E,E,E,E,E,E,E,E,Y⟩,⟨.inl (congrArg (Ob.row 5 Dt) ?_),E,Y⟩,E,E⟩
   rw[hsucc,hcand]
   simp
 ·have hjl:j=n.ports.length:=by
   have:¬ j<n.ports.length:=by simpa using h
   omega
  subst hjl
  have hbl:=Vc n up ranks roots costs dev n.ports.length
  have hbi:E7 n up ranks roots costs dev=if !(Hs (H2 n up ranks roots costs dev n.ports.length)).2 || nth roots dev == nth ranks dev then -1 else (Hs (H2 n up ranks roots costs dev n.ports.length)).1.own:=rfl
  rw[Ao qn,Ao qn]at hbi
  have hls:=leastS (H2 n up ranks roots costs dev n.ports.length) (by unfold Ar;omega)
  generalize Hs (H2 n up ranks roots costs dev n.ports.length)=r at hls hbi
  obtain ⟨v,ok⟩:=r
  simp only at hls hbi
  rw[hbi]
  refine rg ?_;conv=>whnf
  refine As 1000 E ?_
  refine Ah hls F236 E E E E E ?_
  refine rg ?_;conv=>whnf
  (repeat' (first | (refine⟨fun h=>?_,fun h=>?_⟩<;>(repeat (first | simp only[beq_iff_eq]at h | simp only[beq_eq_false_iff_ne]at h | simp only[Bool.not_eq_true']at h | simp only[Bool.not_eq_false']at h))<;>((first|refine rg ?_|refine rd qy ?_);(conv=>whnf))) | (refine Ac rfl (.cons .tmp .nil) ?_ rfl) | (refine⟨qy,?_⟩;((conv=>whnf);repeat((refine aT ?_);(refine rg ?_);(conv=>whnf)))) | (refine⟨by (omega),by (omega),?_⟩;((conv=>whnf)))))
  all_goals (refine congrArg Aa ?_;clear hF hls hbi;grind)
theorem best_lt {n:Net} {up:List Bool} {ranks roots costs:List Int} {dev:Int} (h:0≤E7 n up ranks roots costs dev):E7 n up ranks roots costs dev<n.ports.length:=by
 have hmem:=@Air (H2 n up ranks roots costs dev n.ports.length)
 unfold E7 at *
 simp only at *
 split at h
 ·omega
 ·rename_i hc
  rw[if_neg hc]
  simp only[Bool.or_eq_true,Bool.not_eq_true',not_or]at hc
  have h2:=hmem (by simpa using hc.1)
  obtain ⟨i,hi,he⟩:=List.mem_filterMap.1 h2
  have hi:=List.mem_range.1 hi
  unfold Vb at he
  simp only at he
  split at he
  ·have e:=congrArg Vec.own (Option.some.inj he)
   simp only at e
   omega
  ·cases he
def Oi (n:Net) (up:List Bool) (ranks costs:List Int) (i:Nat):Int :=
 if Cb n up i<0 then 0 else if Jy n ranks costs i (Cb n up i).toNat then 2 else 3
def Hq (n:Net) (up:List Bool) (ranks costs:List Int) (j:Nat):List Int:=(List.range n.ports.length).map fun i=>if i<j then Oi n up ranks costs i else 0
theorem Lb (n:Net) (up:List Bool) (ranks costs:List Int) (j:Nat):(Hq n up ranks costs j).length=n.ports.length:=by simp[Hq]
theorem Aen (n:Net) (up:List Bool) (ranks costs:List Int):Hq n up ranks costs 0=List.replicate n.ports.length 0:=by
 rw[Hq]
 exact List.ext_getElem za za
theorem Aeo (n:Net) (up:List Bool) (ranks costs:List Int) (j:Nat) (hj:j<n.ports.length):Hq n up ranks costs (j+1)=(Hq n up ranks costs j).set j (Oi n up ranks costs j):=by
 refine List.ext_getElem (by simp[Hq]) (fun i h1 h2=>?_)
 rw[List.getElem_set]
 simp only[Hq,List.getElem_map,List.getElem_range]
 rcases Nat.lt_trichotomy i j with h | h | h
 ·rw[if_pos qn,if_neg qn,if_pos h]
 ·subst h;rw[if_pos qn,if_pos rfl]
 ·rw[if_neg qn,if_neg qn,if_neg qn]
theorem Aep (n:Net) (up:List Bool) (ranks costs:List Int) (j:Nat) (h:Oi n up ranks costs j=0):Hq n up ranks costs (j+1)=Hq n up ranks costs j:=by
 simp only[Hq]
 refine List.map_congr_left (fun i _=>?_)
 by_cases hij:i<j
 ·rw[if_pos qn,if_pos hij]
 ·by_cases he:i=j
  ·subst he;rw[if_pos qn,if_neg hij,h]
  ·rw[if_neg qn,if_neg hij]
def H8 (n:Net) (up:List Bool) (ranks roots costs:List Int):Nat→List Int
 | 0=>Hq n up ranks costs n.ports.length
 | d+1=>if 0≤E7 n up ranks roots costs d then (H8 n up ranks roots costs d).set (E7 n up ranks roots costs d).toNat 1 else H8 n up ranks roots costs d
theorem He (n:Net) (up:List Bool) (ranks roots costs:List Int):∀ d,(H8 n up ranks roots costs d).length=n.ports.length
 | 0=>Lb n up ranks costs _
 | d+1=>by
  rw[H8]
  split
  ·rw[List.length_set,He]
  ·rw[He]
theorem rolesS (n:Net) (up:List Bool) (ranks roots costs:List Int) (hr:Ag n=true) (hu:up.length=n.links.length) (hcost:Cm n=true) (hrk:ranks.length=n.devices.length) (hro:roots.length=n.devices.length) (hc:costs.length=n.devices.length)
  (hb:∀ c∈costs,0≤c∧c<1000000000) :
  Sy.Spec Tryz.prog 85 [Of n up ranks roots costs] [] (.sl 1 Aa (H8 n up ranks roots costs n.devices.length)) []:=Ab Γ hm 100 F85 Tryz.ntmps85 rfl fun F hF=>by
 have hf:=Cy hr
 conv=>whnf
 refine Ai (B1 Γ.toTy (d:=14) (n:=n.ports.length) Aa 0 E E E E E E E E qn qn E E E) E E ?_
 rw[← Aen n up ranks costs]
 refine rg ?_;conv=>whnf
 refine At n.ports.length (fun j=>[(0,Of n up ranks roots costs),(3,.osl 14),(20,Aa n.ports.length),(21,Aa j)]) (fun j=>[(14,.row 1 Aa (Hq n up ranks costs j))]) []
  ⟨⟨rfl,rfl,rfl,rfl,rfl,rfl,rfl,rfl,trivial⟩,⟨.inl rfl,rfl,trivial⟩,rfl,rfl⟩ ?_
 intro j hj
 refine rg ?_;conv=>whnf
 refine⟨fun h=>?_,fun h=>?_⟩
 ·have hlt:j<n.ports.length:=by simpa using h
  have hfar:=farS n up ranks (.sl 1 Aa roots) (.sl 1 Aa costs) rfl j hr hu hlt
  have hfl:=Tf (up:=up) hr hlt
  have hlen:=Lb n up ranks costs j
  have hrole:Oi n up ranks costs j=if Cb n up j<0 then 0 else if Jy n ranks costs j (Cb n up j).toNat then 2 else 3:=rfl
  have hsucc:=Aeo n up ranks costs j hlt
  have hsame:=Aep n up ranks costs j
  generalize Cb n up j=k at *
  refine rg ?_;conv=>whnf
  refine Ah hfar F158 E E E E E ?_
  refine rg ?_;conv=>whnf
  refine⟨fun h=>?_,fun h=>?_⟩
  ·have hk:k<0:=of_decide_eq_true h
   rw[if_pos hk]at hrole
   refine rg ?_;conv=>whnf
   refine⟨by unfold I64;omega,?_⟩
   conv=>whnf
   exact Aq [] hlt ⟨⟨E,E,E,E,E,E,E,E,Y⟩,⟨.inl (congrArg (Ob.row 1 Aa) (hsame hrole)),E,Y⟩,E,E⟩
  have hk:¬ k<0:=of_decide_eq_false h
  rw[if_neg hk]at hrole
  obtain ⟨m,rfl⟩:∃ m:Nat,k=m:=⟨k.toNat,by omega⟩
  have hah:=Ag4 n up ranks roots costs j m hr hrk hc hlt qn
  rw[Int.toNat_natCast]at hrole
  refine rg ?_;conv=>whnf
  refine Ah hah F159 E E E E E ?_
  refine rg ?_;conv=>whnf
  refine⟨fun h=>?_,fun h=>?_⟩
  ·rw[h,if_pos rfl]at hrole
   rw[hrole]at hsucc
   refine rg ?_;conv=>whnf
   refine⟨by omega,by omega,?_⟩
   conv=>whnf
   refine⟨E,by omega,2,E,E,?_⟩
   conv=>whnf
   refine⟨by unfold I64;omega,?_⟩
   conv=>whnf
   exact Aq [] hlt ⟨⟨E,E,E,E,E,E,E,E,Y⟩,⟨.inl (congrArg (Ob.row 1 Aa) hsucc),E,Y⟩,E,E⟩
  ·rw[h]at hrole
   simp only[Bool.false_eq_true,if_false]at hrole
   rw[hrole]at hsucc
   refine rg ?_;conv=>whnf
   refine⟨by omega,by omega,?_⟩
   conv=>whnf
   refine⟨E,by omega,3,E,E,?_⟩
   conv=>whnf
   refine⟨by unfold I64;omega,?_⟩
   conv=>whnf
   exact Aq [] hlt ⟨⟨E,E,E,E,E,E,E,E,Y⟩,⟨.inl (congrArg (Ob.row 1 Aa) hsucc),E,Y⟩,E,E⟩
 have hjl:j=n.ports.length:=by
  have:¬ j<n.ports.length:=by simpa using h
  omega
 subst hjl
 refine rg ?_;conv=>whnf
 refine At n.devices.length (fun d=>[(0,Of n up ranks roots costs),(3,.osl 14),(47,Aa n.devices.length),(48,Aa d)]) (fun d=>[(14,.row 1 Aa (H8 n up ranks roots costs d))]) []
  ⟨⟨rfl,rfl,rfl,rfl,rfl,rfl,rfl,rfl,trivial⟩,⟨.inl rfl,rfl,trivial⟩,rfl,rfl⟩ ?_
 clear hj h
 intro d hdle
 refine rg ?_;conv=>whnf
 refine⟨fun h=>?_,fun h=>?_⟩
 ·have hlt:d<n.devices.length:=by simpa using h
  have hbs:=bestS n up ranks roots costs d hr hu hcost hrk hro hc hb qn
  have hbl:=@best_lt n up ranks roots costs d
  have hlen:=He n up ranks roots costs d
  have hsucc:H8 n up ranks roots costs (d+1)=if 0≤E7 n up ranks roots costs d then (H8 n up ranks roots costs d).set (E7 n up ranks roots costs d).toNat 1 else H8 n up ranks roots costs d:=rfl
  generalize E7 n up ranks roots costs d=k at *
  refine rg ?_;conv=>whnf
  refine Ah hbs F160 E E E E E ?_
  refine rg ?_;conv=>whnf
  refine⟨fun h=>?_,fun h=>?_⟩
  ·have hk:0≤k:=of_decide_eq_true h
   rw[if_pos hk]at hsucc
   refine rg ?_;conv=>whnf
   refine⟨hk,by omega,?_⟩
   conv=>whnf
   refine⟨E,by omega,1,E,E,?_⟩
   conv=>whnf
   refine⟨by unfold I64;omega,?_⟩
   conv=>whnf
   exact Aq [] hlt ⟨⟨E,E,E,E,E,E,E,E,Y⟩,⟨.inl (congrArg (Ob.row 1 Aa) hsucc),E,Y⟩,E,E⟩
  ·have hk:¬ 0≤k:=of_decide_eq_false h
   rw[if_neg hk]at hsucc
   refine rg ?_;conv=>whnf
   refine⟨by unfold I64;omega,?_⟩
   conv=>whnf
   exact Aq [] hlt ⟨⟨E,E,E,E,E,E,E,E,Y⟩,⟨.inl (congrArg (Ob.row 1 Aa) hsucc),E,Y⟩,E,E⟩
 have hdl:d=n.devices.length:=by
  have:¬ d<n.devices.length:=by simpa using h
  omega
 subst hdl
 refine rg ?_;conv=>whnf
 refine As 14 E ?_
 exact Ac E (.cons .tmp .nil) E E
def Aaw (n:Net) (up:List Bool) (ranks:List Int) (roots costs:List Int):Obs:=[(0,.box (Q9 n up ranks (.osl 1) (.osl 2))),(1,.row 1 Aa roots),(2,.row 1 Aa costs)]
theorem farR (n:Net) (up:List Bool) (ranks roots costs:List Int) (i:Nat) (hr:Ag n=true) (hu:up.length=n.links.length) (hi:i<n.ports.length) :
  Sy.Spec Tryz.prog 158 [.ptr 0 0,Aa i] (Aaw n up ranks roots costs) (Aa (Cb n up i)) (Aaw n up ranks roots costs):=Ab Γ hm 100 F158 Tryz.ntmps158 rfl fun F hF=>by
 have hpl:=Dy hr hi
 have hf:=Cy hr
 have e1:n.ports[(i:Int).toNat]'qn=n.ports[i]:=rfl
 have hfar:Cb n up i=if n.ports[i].link<0 || !(up.getD n.ports[i].link.toNat false) then -1 else (nth n.links n.ports[i].link).a+(nth n.links n.ports[i].link).b-i:=by
  rw[Cb,Bb hi]
 generalize hp:n.ports[i]=p at *
 have hle:=fun h=>Ir hr (i:=p.link.toNat) h
 conv=>whnf
 refine⟨E,by omega,by omega,?_⟩
 rw[e1]
 conv=>whnf
 (repeat' (first | (refine⟨fun h=>?_,fun h=>?_⟩<;>(repeat (first | simp only[decide_eq_true_eq]at h | simp only[decide_eq_false_iff_not]at h | simp only[Bool.not_eq_true']at h | simp only[Bool.not_eq_false']at h))<;>((first|refine rg ?_|refine rd qy ?_);(conv=>whnf))) | (refine⟨qy,?_⟩;((conv=>whnf);repeat((refine aT ?_);(refine rg ?_);(conv=>whnf)))) | (refine⟨by (first | omega | ((have hq:=hle qn;unfold I64;omega))),by (first | omega | ((have hq:=hle qn;unfold I64;omega))),?_⟩;((conv=>whnf))) | refine done rfl (.cons .tmp .nil) [] (Aaw n up ranks roots costs) (fun _ h=>h) ?_ rfl ⟨trivial,⟨.inl rfl,rfl,.inl rfl,rfl,.inl rfl,rfl,trivial⟩,rfl,rfl⟩))
 all_goals (refine congrArg Aa ?_;rw[hfar])
 ·simp_all
 ·have h1:up.getD p.link.toNat false=false:=by rw[Bb qn];assumption
  rw[h1];simp
 ·have h1:up.getD p.link.toNat false=true:=by rw[Bb qn];assumption
  rw[h1,Ao qn]
  simp_all
def De (n:Net) (up:List Bool) (x:Item) (q:List Item) (i:Nat):List Item :=
 if (n.ports.getD i default).dev=x.dev∧0≤Cb n up i then Se q ⟨x.root,x.cost+(nth n.ports (Cb n up i)).cost,(nth n.ports (Cb n up i)).dev⟩ else q
def Mi (n:Net) (up:List Bool) (s:List Item × List Int × List Int):List Item × List Int × List Int :=
 let x:=(C4 s.1).getLast?.getD default
 let q:=(C4 s.1).dropLast
 if 0≤nth s.2.1 x.dev then (q,s.2) else ((List.range n.ports.length).foldl (De n up x) q,s.2.1.set x.dev.toNat x.root,s.2.2.set x.dev.toNat x.cost)
def E9 (n:Net) (up:List Bool):Nat→List Item × List Int × List Int→List Item × List Int × List Int
 | 0,s=>s
 | f+1,s=>if s.1=[] then s else E9 n up f (Mi n up s)
end Go.Sy.YtmelpejjondedaaGreat
namespace Go.Sy.YtmelpejjondedaaGreat
theorem Su (q:List Item) (i j:Nat) (hi:i<q.length) (hj:j<q.length):(Dx q i j).Perm q:=by
 rw[Dx,Bb hi,Bb hj]
 exact List.set_set_perm hi hj
theorem Ad5:∀ (f:Nat) (q:List Item) (j:Nat),j<q.length→(upF f q j).Perm q
 | 0,_,_,_=>.refl _
 | f+1,q,j,hj=>by
  rw[upF]
  split
  ·exact .refl _
  ·split
   ·exact(Ad5 f _ _ (by rw[A8];omega)).trans (Su q _ _ qn hj)
   ·exact .refl _
theorem Zo:∀ (f:Nat) (q:List Item) (i n:Nat),i<q.length→n≤q.length→(Dv f q i n).1.Perm q
 | 0,_,_,_,_,_=>.refl _
 | f+1,q,i,n,hi,hn=>by
  rw[Dv]
  split
  ·rename_i h
   have hc:=L6 q i n h
   split
   ·exact(Zo f _ _ n (by rw[A8];omega) (by rw[A8];exact hn)).trans (Su q _ _ hi qn)
   ·exact .refl _
  ·exact .refl _
theorem Mj (q:List Item) (x:Item):(Se q x).Perm (x::q) :=
 (Ad5 _ _ _ za).trans (List.perm_append_comm (l₁:=q) (l₂:=[x]))
theorem Js (q:List Item) (x:Item):(Se q x).length=q.length+1:=by rw[Se,Xs];simp
theorem Qr (q:List Item) (hq:q≠[]):(C4 q).Perm q:=by
 have h0:0<q.length:=List.length_pos_iff.2 hq
 exact(Zo _ _ _ _ (by rw[A8];exact h0) (by rw[A8];omega)).trans (Su q _ _ h0 qn)
def Kp (q:List Item) (n:Nat):Prop:=∀ c,0<c→c<n→c<q.length→B8 (q.getD c default) (q.getD ((c-1) / 2) default)=false
theorem Mo {x y z:Item} (h1:B8 y x=false) (h2:B8 z y=false):B8 z x=false:=by
 unfold B8 at *
 grind
theorem Aiz {q:List Item} {n:Nat} (h:Kp q n) (hn:n≤q.length):∀ c,c<n→B8 (q.getD c default) (q.getD 0 default)=false:=by
 intro c
 induction c using Nat.strongRecOn with
 | ind c ih =>
  intro hc
  rcases Nat.eq_zero_or_pos c with h0 | h0
  ·subst h0;unfold B8;grind
  ·have h1:=h c h0 hc qn
   have h2:=ih ((c-1) / 2) qn qn
   exact Mo h2 h1
theorem Ej (q:List Item) (i j c:Nat) (hi:i<q.length) (hj:j<q.length):(Dx q i j).getD c default=if c=j then q.getD i default else if c=i then q.getD j default else q.getD c default:=by
 rw[Dx]
 simp only[List.getD_eq_getElem?_getD,List.getElem?_set,List.length_set]
 by_cases h1:c=j
 ·subst h1;simp[hj]
 ·rw[if_neg (Ne.symm h1),if_neg h1]
  by_cases h2:c=i
  ·subst h2;simp[hi]
  ·rw[if_neg (Ne.symm h2),if_neg h2]
theorem Mp {x y:Item} (h:B8 x y=true):B8 y x=false:=by
 unfold B8 at *
 grind
structure UpInv (q:List Item) (j n:Nat):Prop where
 heap:∀ c,0<c→c<n→c≠j→B8 (q.getD c default) (q.getD ((c-1) / 2) default)=false
 over:∀ c,0<c→c<n→(c-1) / 2=j→0<j→B8 (q.getD c default) (q.getD ((j-1) / 2) default)=false
theorem Ad6 (n:Nat):∀ (f:Nat) (q:List Item) (j:Nat),j≤f→j<n→n≤q.length→UpInv q j n→Kp (upF f q j) n
 | 0,q,j,hf,hj,hn,hI=>by
  have:j=0:=by omega
  subst this
  exact fun c h0 hc _=>hI.heap c h0 hc qn
 | f+1,q,j,hf,hj,hn,hI=>by
  rw[upF]
  split
  ·rename_i h0
   subst h0
   exact fun c h0 hc _=>hI.heap c h0 hc qn
  ·rename_i h0
   split
   ·rename_i hlt
    have hp:(j-1) / 2<j:=by omega
    refine Ad6 n f _ _ qn qn (by rw[A8];exact hn) ⟨fun c hc0 hcn hcp=>?_,fun c hc0 hcn hpar hp0=>?_⟩
    ·rw[Ej _ _ _ _ qn qn,Ej _ _ _ _ qn qn]
     by_cases hcj:c=j
     ·subst hcj
      rw[if_pos rfl,if_neg qn,if_pos rfl]
      exact Mp hlt
     ·rw[if_neg hcj,if_neg hcp]
      by_cases hpj:(c-1) / 2=j
      ·rw[if_pos hpj]
       exact hI.over c hc0 hcn hpj qn
      ·rw[if_neg hpj]
       by_cases hpp:(c-1) / 2=(j-1) / 2
       ·rw[if_pos hpp]
        have:=hI.heap c hc0 hcn hcj
        rw[hpp]at this
        exact Mo (Mp hlt) this
       ·rw[if_neg hpp]
        exact hI.heap c hc0 hcn hcj
    ·rw[Ej _ _ _ _ qn qn,Ej _ _ _ _ qn qn]
     have hpI:=hI.heap ((j-1) / 2) hp0 qn qn
     rw[if_neg (show ((j-1) / 2-1) / 2≠j by omega),if_neg (show ((j-1) / 2-1) / 2≠(j-1) / 2 by omega)]
     by_cases hcj:c=j
     ·rw[if_pos hcj];exact hpI
     ·rw[if_neg hcj,if_neg qn]
      have:=hI.heap c hc0 hcn hcj
      rw[hpar]at this
      exact Mo hpI this
   ·rename_i hlt
    intro c hc0 hcn _
    by_cases hcj:c=j
    ·subst hcj;simpa using hlt
    ·exact hI.heap c hc0 hcn hcj
theorem L0 {q r:List Item} {c:Nat} (h:c<q.length):(q++r).getD c default=q.getD c default:=by
 simp[List.getD_eq_getElem?_getD,List.getElem?_append_left h]
theorem Yo (q:List Item) (x:Item) (h:Kp q q.length):Kp (Se q x) (Se q x).length:=by
 rw[Js]
 refine Ad6 (q.length+1) _ _ _ (Nat.le_refl _) qn za ⟨fun c hc0 hcn hcj=>?_,fun c hc0 hcn hpar hp0=>by omega⟩
 rw[L0 qn,L0 qn]
 exact h c hc0 qn qn
structure DownInv (q:List Item) (i n:Nat):Prop where
 heap:∀ c,0<c→c<n→(c-1) / 2≠i→B8 (q.getD c default) (q.getD ((c-1) / 2) default)=false
 over:∀ c,0<c→c<n→(c-1) / 2=i→0<i→B8 (q.getD c default) (q.getD ((i-1) / 2) default)=false
theorem Amz (q:List Item) (i n c:Nat) (_h:2 * i+1<n) (hc0:0<c) (hc:c<n) (hp:(c-1) / 2=i):B8 (q.getD c default) (q.getD (Ds q i n) default)=false:=by
 have hcc:c=2 * i+1∨c=2 * i+2:=by omega
 unfold Ds
 split
 ·rename_i hh
  rcases hcc with rfl | rfl
  ·exact Mp hh.2
  ·unfold B8;grind
 ·rename_i hh
  rcases hcc with rfl | rfl
  ·unfold B8;grind
  ·cases hlt:B8 (q.getD (2 * i+2) default) (q.getD (2 * i+1) default) with
   | false=>rfl
   | true=>exact absurd ⟨hc,hlt⟩ hh
theorem Zp (n:Nat):∀ (f:Nat) (q:List Item) (i:Nat),n≤f+i→i<q.length→n≤q.length→DownInv q i n→Kp (Dv f q i n).1 n
 | 0,q,i,hf,hi,hn,hI=>fun c hc0 hc _=>hI.heap c hc0 hc qn
 | f+1,q,i,hf,hi,hn,hI=>by
  rw[Dv]
  split
  ·rename_i h
   have hcl:=L6 q i n h
   have hpar:(Ds q i n-1) / 2=i:=by unfold Ds;split<;>omega
   have hle:=fun c=>Amz q i n c h
   generalize Ds q i n=k at *
   split
   ·rename_i hlt
    refine Zp n f _ _ qn (by rw[A8];omega) (by rw[A8];exact hn) ⟨fun c hc0 hcn hck=>?_,fun c hc0 hcn hcp hk0=>?_⟩
    ·rw[Ej _ _ _ _ hi qn,Ej _ _ _ _ hi qn,if_neg hck]
     by_cases hc1:c=k
     ·subst hc1
      rw[if_pos rfl,if_pos hpar]
      exact Mp hlt
     ·rw[if_neg hc1]
      by_cases hc2:c=i
      ·subst hc2
       rw[if_pos rfl,if_neg qn]
       exact hI.over k qn hcl.1 hpar hc0
      ·rw[if_neg hc2]
       by_cases hc3:(c-1) / 2=i
       ·rw[if_pos hc3];exact hle c hc0 hcn hc3
       ·rw[if_neg hc3];exact hI.heap c hc0 hcn hc3
    ·rw[Ej _ _ _ _ hi qn,Ej _ _ _ _ hi qn]
     rw[if_neg qn,if_neg qn,hpar,if_neg qn,if_pos rfl]
     have:=hI.heap c hc0 hcn qn
     rwa [hcp]at this
   ·rename_i hlt
    intro c hc0 hcn _
    by_cases hc3:(c-1) / 2=i
    ·rw[hc3]
     exact Mo (by simpa using hlt) (hle c hc0 hcn hc3)
    ·exact hI.heap c hc0 hcn hc3
  ·exact fun c hc0 hc _=>hI.heap c hc0 hc qn
theorem Zn (n:Nat):∀ (f:Nat) (q:List Item) (i c:Nat),i<n→n≤q.length→n≤c→(Dv f q i n).1.getD c default=q.getD c default
 | 0,_,_,_,_,_,_=>rfl
 | f+1,q,i,c,hi,hn,hc=>by
  rw[Dv]
  split
  ·rename_i h
   have hcl:=L6 q i n h
   split
   ·rw[Zn n f _ _ c qn (by rw[A8];exact hn) hc,Ej _ _ _ _ qn qn,if_neg qn,if_neg qn]
   ·rfl
  ·rfl
theorem Ae7 (q:List Item) (hq:q≠[]):(C4 q).getLast (Dw hq)=q.getD 0 default:=by
 have h0:0<q.length:=List.length_pos_iff.2 hq
 rw[List.getLast_eq_getElem,← Bb (show (C4 q).length-1<(C4 q).length by rw[D3];omega),D3]
 by_cases h1:q.length=1
 ·have:C4 q=q:=by
   obtain ⟨x,rfl⟩:=List.length_eq_one_iff.1 h1
   rfl
  rw[this,h1]
 ·rw[C4,Zn _ _ _ _ _ qn (by rw[A8];omega) (Nat.le_refl _),Ej _ _ _ _ h0 qn,if_pos rfl]
theorem Alw (q:List Item) (hq:q≠[]):(C4 q).dropLast++[q.getD 0 default]=C4 q:=by
 rw[← Ae7 q hq];exact List.dropLast_concat_getLast (Dw hq)
theorem Aoi (q:List Item) (hq:q≠[]):(q.getD 0 default::(C4 q).dropLast).Perm q :=
 ((List.perm_append_comm (l₁:=[q.getD 0 default]) (l₂:=(C4 q).dropLast)).trans (by rw[Alw q hq])).trans (Qr q hq)
theorem Aoj (q:List Item) (hq:q≠[]) (h:Kp q q.length):Kp (C4 q).dropLast (C4 q).dropLast.length:=by
 have h0:0<q.length:=List.length_pos_iff.2 hq
 have hd:(C4 q).dropLast.length=q.length-1:=by rw[List.length_dropLast,D3]
 have hh:Kp (C4 q) (q.length-1):=by
  rw[C4]
  refine Zp (q.length-1) _ _ _ qn (by rw[A8];exact h0) (by rw[A8];omega) ⟨fun c hc0 hcn hp=>?_,fun c hc0 hcn hp h=>by omega⟩
  rw[Ej _ _ _ _ h0 qn,Ej _ _ _ _ h0 qn,if_neg qn,if_neg qn,if_neg qn,if_neg hp]
  exact h c hc0 qn qn
 intro c hc0 hcn _
 rw[hd]at hcn
 have hl:=D3 q
 have e:∀ k,k<q.length-1→(C4 q).dropLast.getD k default=(C4 q).getD k default:=fun k hk=>by
  rw[Bb (show k<(C4 q).dropLast.length by omega),Bb (show k<(C4 q).length by omega),List.getElem_dropLast]
 rw[e c hcn,e _ qn]
 exact hh c hc0 hcn qn
theorem Alx (q:List Item) (h:Kp q q.length):∀ x∈q,B8 x (q.getD 0 default)=false:=fun x hx=>by
 obtain ⟨c,hc,rfl⟩:=List.getElem_of_mem hx
 have:=Aiz h (Nat.le_refl _) c hc
 rwa [Bb hc]at this
def D8 (ranks:List Int) (j:Nat):List Item:=(List.range j).foldl (fun q (i:Nat)=>Se q ⟨ranks.getD i 0,0,i⟩) []
theorem I5 (ranks:List Int) (j:Nat):D8 ranks (j+1)=Se (D8 ranks j) ⟨ranks.getD j 0,0,j⟩:=by
 rw[D8,List.range_succ,List.foldl_append];rfl
theorem K9 (ranks:List Int):∀ j,(D8 ranks j).length=j
 | 0=>rfl
 | j+1=>by rw[I5,Js,K9 ranks j]
def Um (roots:List Int):Nat:=roots.countP (fun r=>decide (r<0))
def reachM (s:List Item × List Int × List Int):Nat:=41 * Um s.2.1+s.1.length
structure ReachInv (n:Net) (s:List Item × List Int × List Int):Prop where
 rootsL:s.2.1.length=n.devices.length
 costsL:s.2.2.length=n.devices.length
 items:∀ x∈s.1,0≤x.dev∧x.dev<n.devices.length∧0≤x.root∧0≤x.cost∧x.cost+65535 * Um s.2.1≤65535 * n.devices.length
 few:s.1.length+40 * Um s.2.1≤1000
theorem Ao3 (roots:List Int):Um roots≤roots.length:=List.countP_le_length
theorem Ama {roots:List Int} {i:Nat} {v:Int} (h:i<roots.length) (h0:roots[i]<0) (hv:0≤v):Um (roots.set i v)+1=Um roots:=by
 have h1:0<roots.countP (fun r=>decide (r<0)):=List.countP_pos_iff.2 ⟨roots[i],List.getElem_mem h,by simpa using h0⟩
 have hv':¬ v<0:=by omega
 rw[Um,Um,List.countP_set h]
 simp only[h0,hv',decide_true,decide_false,if_true,Bool.false_eq_true,if_false]
 omega
theorem Acq (n:Net) (up:List Bool) (x:Item) (hr:Ag n=true) (hcost:Cm n=true) {m:Nat} (hx:0≤x.root∧0≤x.cost∧x.cost+65535 * (m+1)≤65535 * n.devices.length) (q:List Item)
  (hq:∀ y∈q,0≤y.dev∧y.dev<n.devices.length∧0≤y.root∧0≤y.cost∧y.cost+65535 * m≤65535 * n.devices.length) (i:Nat) (hi:i<n.ports.length) :
  (∀ y∈De n up x q i,0≤y.dev∧y.dev<n.devices.length∧0≤y.root∧0≤y.cost∧y.cost+65535 * m≤65535 * n.devices.length)∧(De n up x q i).length≤q.length+1:=by
 rw[De]
 split
 ·rename_i h
  have hlt:=Tf hr hi h.2
  have hk:(Cb n up i).toNat<n.ports.length:=by omega
  have hd:=Oo hr hk
  have hpc:1≤n.ports[(Cb n up i).toNat].cost∧n.ports[(Cb n up i).toNat].cost≤65535:=by
   simp only[Cm,Bool.not_eq_true',List.any_eq_false]at hcost
   have:=hcost _ (List.getElem_mem hk)
   simp only[Ik,Bool.or_eq_true,decide_eq_true_eq,not_or]at this
   omega
  have e:nth n.ports (Cb n up i)=n.ports[(Cb n up i).toNat]:=Ao (l:=n.ports) (i:=Cb n up i) qn
  rw[e]
  refine⟨fun y hy=>?_,by rw[Js];omega⟩
  rcases List.mem_cons.1 ((Mj q _).mem_iff.1 hy) with rfl | hy
  ·simp only
   omega
  ·exact hq y hy
 ·exact⟨hq,by omega⟩
theorem Yj (n:Net) (up:List Bool) (x:Item) (hr:Ag n=true) (hcost:Cm n=true) {m:Nat} (hx:0≤x.root∧0≤x.cost∧x.cost+65535 * (m+1)≤65535 * n.devices.length) (q:List Item)
  (hq:∀ y∈q,0≤y.dev∧y.dev<n.devices.length∧0≤y.root∧0≤y.cost∧y.cost+65535 * m≤65535 * n.devices.length):∀ i,i≤n.ports.length →
  (∀ y∈(List.range i).foldl (De n up x) q,0≤y.dev∧y.dev<n.devices.length∧0≤y.root∧0≤y.cost∧y.cost+65535 * m≤65535 * n.devices.length)∧((List.range i).foldl (De n up x) q).length≤q.length+i
 | 0,_=>⟨hq,by simp⟩
 | i+1,hi=>by
  obtain ⟨h1,h2⟩:=Yj n up x hr hcost hx q hq i qn
  rw[List.range_succ,List.foldl_append]
  obtain ⟨h3,h4⟩:=Acq n up x hr hcost hx _ h1 i qn
  exact⟨h3,by simp only[List.foldl_cons,List.foldl_nil];omega⟩
theorem Yz {q:List Item} (hq:q≠[]):(C4 q).getLast?.getD default=(C4 q).getLast (Dw hq):=by
 rw[List.getLast?_eq_some_getLast (Dw hq)];rfl
theorem J8 (n:Net) (up:List Bool) (hr:Ag n=true) (hcost:Cm n=true) (s:List Item × List Int × List Int) (hI:ReachInv n s) (hne:s.1≠[]):ReachInv n (Mi n up s)∧reachM (Mi n up s)<reachM s:=by
 have hf:=Cy hr
 have hx:=hI.items _ ((Qr s.1 hne).mem_iff.1 (List.getLast_mem (Dw hne)))
 have hd:∀ y∈(C4 s.1).dropLast,y∈s.1:=fun y hy=>(Qr s.1 hne).mem_iff.1 ((List.dropLast_sublist _).subset hy)
 have h0:0<s.1.length:=List.length_pos_iff.2 hne
 have hdl:(C4 s.1).dropLast.length+1=s.1.length:=by rw[List.length_dropLast,D3];omega
 have hfew:=hI.few
 rw[Mi,Yz hne]
 generalize (C4 s.1).getLast (Dw hne)=x at *
 split
 ·exact⟨⟨hI.rootsL,hI.costsL,fun y hy=>hI.items y (hd y hy),by simp only;omega⟩,by unfold reachM;simp only;omega⟩
 ·rename_i hneg
  have hk:x.dev.toNat<s.2.1.length:=by rw[hI.rootsL];omega
  rw[Ao (l:=s.2.1) (i:=x.dev) (by rw[hI.rootsL];omega)]at hneg
  have hm:=Ama hk qn hx.2.2.1
  obtain ⟨h1,h2⟩:=Yj n up x hr hcost (m:=Um (s.2.1.set x.dev.toNat x.root)) ⟨hx.2.2.1,hx.2.2.2.1,by have:=hx.2.2.2.2;omega⟩ (C4 s.1).dropLast (fun y hy=>by have:=hI.items y (hd y hy);omega) n.ports.length (Nat.le_refl _)
  exact⟨⟨by simp only[List.length_set];exact hI.rootsL,by simp only[List.length_set];exact hI.costsL,h1,by simp only;omega⟩,by unfold reachM;simp only;omega⟩
theorem Wi (n:Net) (up:List Bool) (hr:Ag n=true) (hcost:Cm n=true):∀ (f g:Nat) (s:List Item × List Int × List Int),ReachInv n s→reachM s≤f→reachM s≤g→E9 n up f s=E9 n up g s
 | 0,0,_,_,_,_=>rfl
 | 0,g+1,s,_,h,_=>by
  have:s.1=[]:=List.eq_nil_of_length_eq_zero (by unfold reachM at h;omega)
  rw[E9,E9,if_pos this]
 | f+1,0,s,_,_,h=>by
  have:s.1=[]:=List.eq_nil_of_length_eq_zero (by unfold reachM at h;omega)
  rw[E9,E9,if_pos this]
 | f+1,g+1,s,hI,h1,h2=>by
  rw[E9,E9]
  split
  ·rfl
  ·rename_i hne
   obtain ⟨h3,h4⟩:=J8 n up hr hcost s hI hne
   exact Wi n up hr hcost f g _ h3 qn qn
def Jk (n:Net) (up:List Bool) (s:List Item × List Int × List Int):List Item × List Int × List Int:=E9 n up (reachM s) s
theorem Ahx (n:Net) (up:List Bool) (s:List Item × List Int × List Int) (h:s.1=[]):Jk n up s=s:=by
 rw[Jk]
 cases reachM s with
 | zero=>rfl
 | succ m=>rw[E9,if_pos h]
theorem Ae4 (n:Net) (up:List Bool) (hr:Ag n=true) (hcost:Cm n=true) (s:List Item × List Int × List Int) (hI:ReachInv n s) (hne:s.1≠[]):Jk n up s=Jk n up (Mi n up s):=by
 obtain ⟨h3,h4⟩:=J8 n up hr hcost s hI hne
 rw[Jk,Jk]
 obtain ⟨m,hm⟩:∃ m,reachM s=m+1:=⟨reachM s-1,by omega⟩
 rw[hm,E9,if_neg hne]
 exact Wi n up hr hcost _ _ _ h3 qn (Nat.le_refl _)
theorem Wa (ranks:List Int) (m:Nat) (hrr:∀ r∈ranks,0≤r):∀ j,j≤ranks.length→∀ y∈D8 ranks j,0≤y.dev∧y.dev<m+ranks.length∧0≤y.root∧y.cost=0
 | 0,_,y,hy=>by simp[D8]at hy
 | j+1,hj,y,hy=>by
  rw[I5]at hy
  rcases List.mem_cons.1 ((Mj _ _).mem_iff.1 hy) with rfl | hy
  ·have h1:=hrr (ranks[j]'qn) (List.getElem_mem _)
   have h2:(0:Int)≤(j:Int)∧(j:Int)<m+ranks.length:=by omega
   exact⟨h2.1,h2.2,by rw[Bb (show j<ranks.length by omega)];exact h1,E⟩
  ·exact Wa ranks m hrr j qn y hy
theorem Aav (n:Net) (ranks roots costs:List Int) (hr:Ag n=true) (hrk:ranks.length=n.devices.length) (hro:roots.length=n.devices.length) (hc:costs.length=n.devices.length) (hrr:∀ r∈ranks,0≤r):ReachInv n (D8 ranks ranks.length,roots,costs):=by
 have hf:=Cy hr
 have hm:=Ao3 roots
 refine⟨hro,hc,fun y hy=>?_,by simp only[K9];omega⟩
 have:=Wa ranks 0 hrr _ (Nat.le_refl _) y hy
 simp only
 omega
def Le2 (r c r' c':Int):Prop:=r<r'∨(r=r'∧c≤c')
theorem Ame {x y:Item} (h:B8 y x=false):Le2 x.root x.cost y.root y.cost:=by
 simp only[B8,Bool.or_eq_false_iff,decide_eq_false_iff_not,Bool.and_eq_false_iff,beq_eq_false_iff_ne]at h
 unfold Le2
 omega
theorem Vv {a b c d e f:Int} (h1:Le2 a b c d) (h2:Le2 c d e f):Le2 a b e f:=by
 unfold Le2 at *
 omega
theorem Aft {a b c d m:Int} (h1:Le2 a b c d) (hm:0≤m):Le2 a b c (d+m):=by
 unfold Le2 at *
 omega
def Hop (n:Net) (up:List Bool) (i j:Nat):Prop:=i<n.ports.length∧Cb n up i=j
theorem Ha {n:Net} {up:List Bool} (hr:Ag n=true) {i j:Nat} (h:Hop n up i j):j<n.ports.length:=by
 have:=Tf (up:=up) hr h.1 (by rw[h.2];omega)
 rw[h.2]at this
 omega
theorem V0 {n:Net} {up:List Bool} (hr:Ag n=true) {i j:Nat} (h:Hop n up i j) :
  ∃ k:Nat,k<n.links.length∧(nth n.ports i).link=k∧(nth n.ports j).link=k∧up.getD k false=true∧(((nth n.links k).a=i∧(nth n.links k).b=j)∨((nth n.links k).a=j∧(nth n.links k).b=i))∧Bl n i≠Bl n j:=by
 have hj:=Ha hr h
 obtain ⟨hi,hf⟩:=h
 have hp:=J5 hr hi
 have hpl:=Dy hr hi
 simp only[Eu,Bool.and_eq_true,Bool.or_eq_true,beq_iff_eq]at hp
 have hp:=hp.2
 have e:nth n.ports i=n.ports[i]:=Ao (l:=n.ports) (i:=(i:Int)) (by simpa using hi)
 unfold Cb at hf
 rw[Bb hi]at hf
 simp only at hf
 split at hf
 ·omega
 ·rename_i hc
  simp only[Bool.or_eq_true,decide_eq_true_eq,not_or,Bool.not_eq_true',Bool.not_eq_false]at hc
  rcases hp with hp | hp
  ·omega
  ·have hl:n.ports[i].link.toNat<n.links.length:=by omega
   have hlk:=S2 hr hl
   have he:=Ir hr hl
   have ek:((n.ports[i].link.toNat:Nat):Int)=n.ports[i].link:=by omega
   refine⟨n.ports[i].link.toNat,hl,by rw[e];omega,?_⟩
   simp only[Ki,Bool.and_eq_true,beq_iff_eq,bne_iff_ne]at hlk
   obtain ⟨⟨⟨_,hne⟩,h1⟩,h2⟩:=hlk
   rw[ek]
   rw[Ao (l:=n.links) (i:=n.ports[i].link) qn]at hf hp ⊢
   generalize n.links[n.ports[i].link.toNat]=l at *
   rcases hp.2 with ha | hb
   ·have hb:l.b=j:=by omega
    rw[ha,hb]at hne
    rw[hb]at h2
    exact⟨by omega,by simpa using hc.2,.inl ⟨ha,hb⟩,hne⟩
   ·have ha:l.a=j:=by omega
    rw[ha,hb]at hne
    rw[ha]at h1
    exact⟨by omega,by simpa using hc.2,.inr ⟨ha,hb⟩,fun h=>hne h.symm⟩
theorem Zb {n:Net} {up:List Bool} (hr:Ag n=true) {i j:Nat} (h:Hop n up i j):Hop n up j i:=by
 have hj:=Ha hr h
 obtain ⟨k,hk,_,h2,h3,h4,_⟩:=V0 hr h
 refine⟨hj,?_⟩
 unfold Cb
 have e:n.ports.getD j default=nth n.ports j:=rfl
 rw[e]
 simp only[h2,Int.toNat_natCast,h3]
 rw[if_neg za]
 omega
theorem Cv {n:Net} (hr:Ag n=true) {i:Nat} (hi:i<n.ports.length):0≤Bl n i∧Bl n i<n.devices.length:=by
 rw[Bl,Ao (l:=n.ports) (i:=(i:Int)) (by simpa using hi)]
 exact Oo hr hi
def Der (n:Net) (up:List Bool) (K R C:Int→Int) (r c d:Int):Prop :=
 (r=K d∧c=0)∨∃ i j:Nat,Hop n up i j∧Bl n i=d∧0≤R (Bl n j)∧r=R (Bl n j)∧c=C (Bl n j)+Hx n i
structure Dij (n:Net) (up:List Bool) (K:Int→Int) (q:List Item) (R C:Int→Int):Prop where
 heap:Kp q q.length
 items:∀ x∈q,Der n up K R C x.root x.cost x.dev
 done:∀ d:Int,0≤d→d<n.devices.length→0≤R d→Der n up K R C (R d) (C d) d
 own:∀ d:Int,0≤d→d<n.devices.length→R d<0→⟨K d,0,d⟩∈q
 push:∀ i j:Nat,Hop n up i j→R (Bl n i)<0→0≤R (Bl n j)→⟨R (Bl n j),C (Bl n j)+Hx n i,Bl n i⟩∈q
 low:∀ d:Int,0≤d→d<n.devices.length→0≤R d→∀ x∈q,Le2 (R d) (C d) x.root x.cost
 self:∀ d:Int,0≤d→d<n.devices.length→0≤R d→Le2 (R d) (C d) (K d) 0
 tri:∀ i j:Nat,Hop n up i j→0≤R (Bl n i)→0≤R (Bl n j)→Le2 (R (Bl n i)) (C (Bl n i)) (R (Bl n j)) (C (Bl n j)+Hx n i)
theorem Yh (n:Net) (up:List Bool) (x:Item) (q:List Item) (y:Item):∀ m,y∈(List.range m).foldl (De n up x) q↔y∈q∨∃ i,i<m∧Bl n i=x.dev∧0≤Cb n up i∧y=⟨x.root,x.cost+(nth n.ports (Cb n up i)).cost,(nth n.ports (Cb n up i)).dev⟩
 | 0=>by simp
 | m+1=>by
  rw[List.range_succ,List.foldl_append]
  simp only[List.foldl_cons,List.foldl_nil]
  rw[De]
  have ih:=Yh n up x q y m
  have e:(n.ports.getD m default).dev=Bl n m:=rfl
  rw[e]
  split
  ·rename_i h
   rw[(Mj _ _).mem_iff,List.mem_cons,ih]
   constructor
   ·rintro (h1 | h1 | ⟨i,h1,h2⟩)
    ·exact .inr ⟨m,by omega,h.1,h.2,h1⟩
    ·exact .inl h1
    ·exact .inr ⟨i,by omega,h2⟩
   ·rintro (h1 | ⟨i,h1,h2,h3,h4⟩)
    ·exact .inr (.inl h1)
    ·by_cases hm:i=m
     ·subst hm;exact .inl h4
     ·exact .inr (.inr ⟨i,by omega,h2,h3,h4⟩)
  ·rename_i h
   rw[ih]
   constructor
   ·rintro (h1 | ⟨i,h1,h2⟩)
    ·exact .inl h1
    ·exact .inr ⟨i,by omega,h2⟩
   ·rintro (h1 | ⟨i,h1,h2,h3,h4⟩)
    ·exact .inl h1
    ·by_cases hm:i=m
     ·subst hm;exact absurd ⟨h2,h3⟩ h
     ·exact .inr ⟨i,by omega,h2,h3,h4⟩
theorem Wh (n:Net) (up:List Bool) (x:Item) (q:List Item) (h:Kp q q.length):∀ m,Kp ((List.range m).foldl (De n up x) q) ((List.range m).foldl (De n up x) q).length
 | 0=>h
 | m+1=>by
  rw[List.range_succ,List.foldl_append]
  simp only[List.foldl_cons,List.foldl_nil]
  have ih:=Wh n up x q h m
  rw[De]
  split
  ·exact Yo _ _ ih
  ·exact ih
theorem Zr {n:Net} {up:List Bool} {K R C R' C':Int→Int} {r c d:Int} (h:Der n up K R C r c d) (hs:∀ e,0≤R e→R' e=R e∧C' e=C e):Der n up K R' C' r c d:=by
 rcases h with h | ⟨i,j,h1,h2,h3,h4,h5⟩
 ·exact .inl h
 ·obtain ⟨e1,e2⟩:=hs _ h3
  exact .inr ⟨i,j,h1,h2,by rw[e1];exact h3,by rw[e1];exact h4,by rw[e2];exact h5⟩
theorem Aqb {n:Net} {up:List Bool} {K R C:Int→Int} {q q':List Item} {x:Item} (h:Dij n up K q R C) (hp:(x::q').Perm q) (hh:Kp q' q'.length) (hx:0≤R x.dev):Dij n up K q' R C:=by
 have hm:∀ y,y∈q↔y=x∨y∈q':=fun y=>by rw[← hp.mem_iff,List.mem_cons]
 refine⟨hh,fun y hy=>h.items y ((hm y).2 (.inr hy)),h.done,fun d h0 h1 h2=>?_,fun i j hij h1 h2=>?_,fun d h0 h1 h2 y hy=>h.low d h0 h1 h2 y ((hm y).2 (.inr hy)),h.self,h.tri⟩
 ·rcases (hm _).1 (h.own d h0 h1 h2) with e | e
  ·rw[← e]at hx;simp only at hx;omega
  ·exact e
 ·rcases (hm _).1 (h.push i j hij h1 h2) with e | e
  ·rw[← e]at hx;simp only at hx;omega
  ·exact e
theorem Aqa {n:Net} {up:List Bool} {K R C R' C':Int→Int} {q q':List Item} {x:Item} (hr:Ag n=true) (hcost:Cm n=true) (h:Dij n up K q R C) (hp:(x::q').Perm q) (hh:Kp q' q'.length)
  (hmin:∀ y∈q,B8 y x=false) (hx:R x.dev<0) (hx0:0≤x.root) (_hxd:0≤x.dev∧x.dev<n.devices.length)
  (hR:∀ e,R' e=if e=x.dev then x.root else R e) (hC:∀ e,C' e=if e=x.dev then x.cost else C e) :
  Dij n up K ((List.range n.ports.length).foldl (De n up x) q') R' C':=by
 have hm:∀ y,y∈q↔y=x∨y∈q':=fun y=>by rw[← hp.mem_iff,List.mem_cons]
 have hn:=fun y=>Yh n up x q' y n.ports.length
 have hs:∀ e,0≤R e→R' e=R e∧C' e=C e:=fun e he=>by
  have:e≠x.dev:=fun h=>by rw[h]at he;omega
  rw[hR,hC,if_neg this,if_neg this]
  exact⟨E,E⟩
 have hRd:R' x.dev=x.root:=by rw[hR,if_pos rfl]
 have hCd:C' x.dev=x.cost:=by rw[hC,if_pos rfl]
 have hxq:x∈q:=(hm x).2 (.inl rfl)
 have hle:∀ y∈q,Le2 x.root x.cost y.root y.cost:=fun y hy=>Ame (hmin y hy)
 have hnew:∀ y,y∈(List.range n.ports.length).foldl (De n up x) q'↔y∈q'∨∃ i j:Nat,Hop n up i j∧Bl n i=x.dev∧y=⟨x.root,x.cost+Hx n j,Bl n j⟩:=fun y=>by
  rw[hn y]
  constructor
  ·rintro (h1 | ⟨i,h1,h2,h3,h4⟩)
   ·exact .inl h1
   ·obtain ⟨j,hj⟩:∃ j:Nat,Cb n up i=j:=⟨(Cb n up i).toNat,by omega⟩
    rw[hj]at h4
    exact .inr ⟨i,j,⟨h1,hj⟩,h2,h4⟩
  ·rintro (h1 | ⟨i,j,h1,h2,h3⟩)
   ·exact .inl h1
   ·refine .inr ⟨i,h1.1,h2,by rw[h1.2];omega,?_⟩
    rw[h1.2]
    exact h3
 refine⟨Wh n up x q' hh _,fun y hy=>?_,fun d h0 h1 h2=>?_,fun d h0 h1 h2=>?_,fun i j hij h1 h2=>?_,fun d h0 h1 h2 y hy=>?_,fun d h0 h1 h2=>?_,fun i j hij h1 h2=>?_⟩
 ·rcases (hnew y).1 hy with hy | ⟨i,j,h1,h2,rfl⟩
  ·exact Zr (h.items y ((hm y).2 (.inr hy))) hs
  ·exact .inr ⟨j,i,Zb hr h1,E,by rw[h2,hRd];exact hx0,by rw[h2,hRd],by rw[h2,hCd]⟩
 ·by_cases hd:d=x.dev
  ·subst hd
   rw[hRd,hCd]
   exact Zr (h.items x hxq) hs
  ·rw[hR,if_neg hd]at h2
   obtain ⟨e1,e2⟩:=hs d h2
   rw[e1,e2]
   exact Zr (h.done d h0 h1 h2) hs
 ·have hd:d≠x.dev:=fun e=>by rw[e,hRd]at h2;omega
  rw[hR,if_neg hd]at h2
  refine(hnew _).2 (.inl ?_)
  rcases (hm _).1 (h.own d h0 h1 h2) with e | e
  ·exact absurd (congrArg Item.dev e) hd
  ·exact e
 ·have hd:Bl n i≠x.dev:=fun e=>by rw[e,hRd]at h1;omega
  rw[hR,if_neg hd]at h1
  by_cases hj:Bl n j=x.dev
  ·rw[hj,hRd,hCd]
   exact(hnew _).2 (.inr ⟨j,i,Zb hr hij,hj,E⟩)
  ·rw[hR,if_neg hj]at h2
   obtain ⟨e1,e2⟩:=hs _ h2
   rw[e1,e2]
   refine(hnew _).2 (.inl ?_)
   rcases (hm _).1 (h.push i j hij h1 h2) with e | e
   ·exact absurd (congrArg Item.dev e) hd
   ·exact e
 ·have hdx:Le2 (R' d) (C' d) x.root x.cost:=by
   by_cases hd:d=x.dev
   ·subst hd;rw[hRd,hCd];exact .inr ⟨rfl,Int.le_refl _⟩
   ·rw[hR,if_neg hd]at h2
    obtain ⟨e1,e2⟩:=hs d h2
    rw[e1,e2]
    exact h.low d h0 h1 h2 x hxq
  rcases (hnew y).1 hy with hy | ⟨i,j,h3,_,rfl⟩
  ·exact Vv hdx (hle y ((hm y).2 (.inr hy)))
  ·exact Aft hdx (by have:=Kd hcost (Ha hr h3);omega)
 ·by_cases hd:d=x.dev
  ·subst hd
   rw[hRd,hCd]
   exact hle _ (h.own _ h0 h1 hx)
  ·rw[hR,if_neg hd]at h2
   obtain ⟨e1,e2⟩:=hs d h2
   rw[e1,e2]
   exact h.self d h0 h1 h2
 ·have hj:=Ha hr hij
  have hpc:=Kd hcost hij.1
  have hne:=(V0 hr hij).choose_spec.2.2.2.2.2
  by_cases hd:Bl n i=x.dev
  ·rw[hd,hRd,hCd]
   have hjd:Bl n j≠x.dev:=fun e=>hne (by rw[hd,e])
   rw[hR,if_neg hjd]at h2
   obtain ⟨e1,e2⟩:=hs _ h2
   rw[e1,e2]
   exact hle _ (h.push i j hij (by rw[hd];exact hx) h2)
  ·rw[hR,if_neg hd]at h1
   obtain ⟨e1,e2⟩:=hs _ h1
   rw[e1,e2]
   by_cases hjd:Bl n j=x.dev
   ·rw[hjd,hRd,hCd]
    have hdl:=Cv hr hij.1
    exact Aft (h.low _ hdl.1 hdl.2 h1 x hxq) qn
   ·rw[hR,if_neg hjd]at h2
    obtain ⟨e3,e4⟩:=hs _ h2
    rw[e3,e4]
    exact h.tri i j hij h1 h2
def atI (l:List Int) (e:Int):Int:=if e<0 then -1 else nth l e
theorem Kn {l:List Int} {e:Int} (h:0≤e):atI l e=nth l e:=by rw[atI,if_neg qn]
theorem Ako {l:List Int} {d v:Int} (h0:0≤d) (h1:d<l.length) (e:Int):atI (l.set d.toNat v) e=if e=d then v else atI l e:=by
 by_cases he:e<0
 ·rw[atI,if_pos he,if_neg qn,atI,if_pos he]
 ·rw[atI,if_neg he,atI,if_neg he,nth,nth,List.getElem?_set]
  by_cases hd:e=d
  ·subst hd
   rw[if_pos rfl,if_pos rfl,if_pos qn]
   rfl
  ·rw[if_neg qn,if_neg hd]
structure DijS (n:Net) (up:List Bool) (ranks:List Int) (s:List Item × List Int × List Int):Prop where
 inv:ReachInv n s
 dij:Dij n up (atI ranks) s.1 (atI s.2.1) (atI s.2.2)
 bound:∀ c∈s.2.2,0≤c∧c≤1000000
theorem Ahy (n:Net) (up:List Bool) (ranks:List Int) (hr:Ag n=true) (hcost:Cm n=true) (s:List Item × List Int × List Int) (hI:DijS n up ranks s) (hne:s.1≠[]):DijS n up ranks (Mi n up s):=by
 have hf:=Cy hr
 have h1:=(J8 n up hr hcost s hI.inv hne).1
 have hrest:=Aoi s.1 hne
 have hheap:=Aoj s.1 hne hI.dij.heap
 have hleast:=Alx s.1 hI.dij.heap
 have hx:=hI.inv.items _ (hrest.mem_iff.1 (List.mem_cons_self ..))
 have hrl:=hI.inv.rootsL
 have hcl:=hI.inv.costsL
 have hd:=hI.dij
 have hb:=hI.bound
 rw[Mi,Yz hne,Ae7 s.1 hne]at *
 generalize s.1.getD 0 default=x at *
 try simp only at *
 have ea:nth s.2.1 x.dev=atI s.2.1 x.dev:=(Kn hx.1).symm
 rw[ea];rw[ea]at h1
 split
 ·rename_i hc
  rw[if_pos hc]at h1
  exact⟨h1,Aqb hd hrest hheap hc,hb⟩
 ·rename_i hc
  rw[if_neg hc]at h1
  refine⟨h1,Aqa hr hcost hd hrest hheap hleast qn hx.2.2.1 ⟨hx.1,hx.2.1⟩ (Ako hx.1 qn) (Ako hx.1 qn),fun c hc=>?_⟩
  rcases List.mem_or_eq_of_mem_set hc with h | h
  ·exact hb c h
  ·omega
theorem Yk (n:Net) (up:List Bool) (ranks:List Int) (hr:Ag n=true) (hcost:Cm n=true):∀ (f:Nat) (s:List Item × List Int × List Int),DijS n up ranks s→reachM s≤f→DijS n up ranks (E9 n up f s)∧(E9 n up f s).1=[]
 | 0,s,h,hf=>⟨h,List.eq_nil_of_length_eq_zero (by unfold reachM at hf;rw[E9];omega)⟩
 | f+1,s,h,hf=>by
  rw[E9]
  split
  ·rename_i he;exact⟨h,he⟩
  ·rename_i hne
   exact Yk n up ranks hr hcost f _ (Ahy n up ranks hr hcost s h hne) (by have:=(J8 n up hr hcost s h.inv hne).2;omega)
structure Solved (n:Net) (up:List Bool) (ranks roots costs:List Int):Prop where
 rootsL:roots.length=n.devices.length
 costsL:costs.length=n.devices.length
 bound:∀ c∈costs,0≤c∧c≤1000000
 root:∀ d:Int,0≤d→d<n.devices.length→0≤nth roots d
 self:∀ d:Int,0≤d→d<n.devices.length→Le2 (nth roots d) (nth costs d) (nth ranks d) 0
 tri:∀ i j:Nat,Hop n up i j→Le2 (nth roots (Bl n i)) (nth costs (Bl n i)) (nth roots (Bl n j)) (nth costs (Bl n j)+Hx n i)
 der:∀ d:Int,0≤d→d<n.devices.length→(nth roots d=nth ranks d∧nth costs d=0)∨∃ i j:Nat,Hop n up i j∧Bl n i=d∧nth roots d=nth roots (Bl n j)∧nth costs d=nth costs (Bl n j)+Hx n i
theorem Ak6 (n:Net) (up:List Bool) (ranks:List Int) (hr:Ag n=true) (s:List Item × List Int × List Int) (h:DijS n up ranks s) (he:s.1=[]):Solved n up ranks s.2.1 s.2.2:=by
 have hd:=h.dij
 rw[he]at hd
 have h0:∀ d:Int,0≤d→d<n.devices.length→0≤atI s.2.1 d:=fun d h1 h2=>by
  by_cases hc:0≤atI s.2.1 d
  ·exact hc
  ·have:=hd.own d h1 h2 qn
   simp at this
 refine⟨h.inv.rootsL,h.inv.costsL,h.bound,fun d h1 h2=>?_,fun d h1 h2=>?_,fun i j hij=>?_,fun d h1 h2=>?_⟩
 ·have:=h0 d h1 h2
  rwa [Kn h1]at this
 ·have:=hd.self d h1 h2 (h0 d h1 h2)
  simpa only [Kn h1] using this
 ·have hi:=Cv hr hij.1
  have hj:=Cv hr (Ha hr hij)
  have:=hd.tri i j hij (h0 _ hi.1 hi.2) (h0 _ hj.1 hj.2)
  simpa only [Kn hi.1,Kn hj.1] using this
 ·rcases hd.done d h1 h2 (h0 d h1 h2) with h3 | ⟨i,j,h3,h4,_,h5,h6⟩
  ·simp only[Kn h1]at h3
   exact .inl h3
  ·have hj:=Cv hr (Ha hr h3)
   simp only[Kn h1,Kn hj.1]at h5 h6
   exact .inr ⟨i,j,h3,h4,h5,h6⟩
theorem Vm (ranks:List Int) (y:Item):∀ j,y∈D8 ranks j↔∃ i,i<j∧y=⟨ranks.getD i 0,0,i⟩
 | 0=>by simp[D8]
 | j+1=>by
  rw[I5,(Mj _ _).mem_iff,List.mem_cons,Vm ranks y j]
  constructor
  ·rintro (h | ⟨i,h1,h2⟩)
   ·exact⟨j,by omega,h⟩
   ·exact⟨i,by omega,h2⟩
  ·rintro ⟨i,h1,h2⟩
   by_cases h:i=j
   ·subst h;exact .inl h2
   ·exact .inr ⟨i,by omega,h2⟩
theorem Xz (ranks:List Int):∀ j,Kp (D8 ranks j) (D8 ranks j).length
 | 0=>fun c _ h2 _=>by simp[D8]at h2
 | j+1=>by
  rw[I5]
  exact Yo _ _ (Xz ranks j)
theorem Z7 {v:Int} {m:Nat} {d:Int} (h1:d<m) (h0:0≤d):nth (List.replicate m v) d=v:=by
 rw[Ao (by simp;omega)];simp
theorem Ak3 (n:Net) (up:List Bool) (ranks:List Int) (hr:Ag n=true) (hrk:ranks.length=n.devices.length) (hrr:∀ r∈ranks,0≤r) :
  DijS n up ranks (D8 ranks ranks.length,List.replicate n.devices.length (-1),List.replicate n.devices.length 0):=by
 have hneg:∀ d:Int,0≤d→d<n.devices.length→atI (List.replicate n.devices.length (-1)) d=-1:=fun d h0 h1=>by rw[Kn h0,Z7 h1 h0]
 refine⟨Aav n ranks _ _ hr hrk za za hrr,⟨Xz ranks _,fun x hx=>?_,fun d h0 h1 h2=>?_,fun d h0 h1 h2=>?_,fun i j hij h1 h2=>?_,fun d h0 h1 h2=>?_,fun d h0 h1 h2=>?_,fun i j hij h1 h2=>?_⟩,fun c hc=>?_⟩
 ·obtain ⟨i,h1,rfl⟩:=(Vm ranks x _).1 hx
  refine .inl ⟨?_,E⟩
  simp only
  rw[Kn qn,Ao (by simpa using h1),Bb h1]
  rfl
 ·rw[hneg d h0 h1]at h2;omega
 ·refine(Vm ranks _ _).2 ⟨d.toNat,by omega,?_⟩
  rw[Kn h0,Ao qn,Bb qn,Int.toNat_of_nonneg h0]
 ·have hj:=Cv hr (Ha hr hij)
  rw[hneg _ hj.1 hj.2]at h2;omega
 ·rw[hneg d h0 h1]at h2;omega
 ·rw[hneg d h0 h1]at h2;omega
 ·have hj:=Cv hr (Ha hr hij)
  rw[hneg _ hj.1 hj.2]at h2;omega
 ·have:=List.eq_of_mem_replicate hc
  omega
def On (n:Net) (up:List Bool) (ranks:List Int):List Item × List Int × List Int:=Jk n up (D8 ranks ranks.length,List.replicate n.devices.length (-1),List.replicate n.devices.length 0)
theorem Z3 (n:Net) (up:List Bool) (ranks:List Int) (hr:Ag n=true) (hcost:Cm n=true) (hrk:ranks.length=n.devices.length) (hrr:∀ r∈ranks,0≤r):Solved n up ranks (On n up ranks).2.1 (On n up ranks).2.2:=by
 obtain ⟨h1,h2⟩:=Yk n up ranks hr hcost _ _ (Ak3 n up ranks hr hrk hrr) (Nat.le_refl _)
 exact Ak6 n up ranks hr _ h1 h2
end Go.Sy.YtmelpejjondedaaGreat
namespace Go.Sy.YtmelpejjondedaaGreat
section
variable {n:Net} {up:List Bool} {ranks roots costs:List Int}
theorem Ks (S:Solved n up ranks roots costs) (hr:Ag n=true) {i j:Nat} (h:Hop n up i j):nth roots (Bl n i)=nth roots (Bl n j):=by
 have h1:=S.tri i j h
 have h2:=S.tri j i (Zb hr h)
 unfold Le2 at h1 h2
 omega
theorem X0 (S:Solved n up ranks roots costs) (hr:Ag n=true) {i j:Nat} (h:Hop n up i j):nth costs (Bl n i)≤nth costs (Bl n j)+Hx n i:=by
 have h1:=S.tri i j h
 have h2:=Ks S hr h
 unfold Le2 at h1
 omega
theorem Og (S:Solved n up ranks roots costs) {d:Int} (h0:0≤d) (h1:d<n.devices.length):0≤nth costs d∧nth costs d≤1000000:=by
 have hl:=S.costsL
 rw[Ao qn]
 exact S.bound _ (List.getElem_mem _)
theorem Aee (S:Solved n up ranks roots costs) {d:Int} (h0:0≤d) (h1:d<n.devices.length) (h:nth roots d=nth ranks d):nth costs d=0:=by
 have h2:=S.self d h0 h1
 have h3:=Og S h0 h1
 unfold Le2 at h2
 omega
theorem Ag5 (S:Solved n up ranks roots costs) {d:Int} (h0:0≤d) (h1:d<n.devices.length) (h:nth roots d≠nth ranks d):∃ i j:Nat,Hop n up i j∧Bl n i=d∧nth roots d=nth roots (Bl n j)∧nth costs d=nth costs (Bl n j)+Hx n i:=by
 rcases S.der d h0 h1 with h2 | h2
 ·exact absurd h2.1 h
 ·exact h2
theorem best_mem {dev:Int} {v:Vec}:v∈H2 n up ranks roots costs dev n.ports.length↔∃ i j:Nat,Hop n up i j∧Bl n i=dev∧v=⟨nth roots (Bl n j),nth costs (Bl n j)+Hx n i,nth ranks (Bl n j),j,i⟩:=by
 rw[H2,List.mem_filterMap]
 constructor
 ·rintro ⟨i,hi,he⟩
  have hi:=List.mem_range.1 hi
  unfold Vb at he
  simp only at he
  split at he
  ·rename_i hc
   simp only[Bool.and_eq_true,beq_iff_eq,decide_eq_true_eq]at hc
   obtain ⟨j,hj⟩:∃ j:Nat,Cb n up i=j:=⟨(Cb n up i).toNat,by omega⟩
   rw[hj]at he
   exact⟨i,j,⟨hi,hj⟩,hc.1,(Option.some.inj he).symm⟩
  ·cases he
 ·rintro ⟨i,j,⟨hi,hj⟩,hd,rfl⟩
  refine⟨i,List.mem_range.2 hi,?_⟩
  unfold Vb
  have e:(n.ports.getD i default).dev=dev:=hd
  simp only[hj,e]
  rw[if_pos za]
  rfl
theorem Am2 {d:Int} (h:nth roots d=nth ranks d):E7 n up ranks roots costs d=-1:=by
 simp only[E7,h,beq_self_eq_true,Bool.or_true,if_true]
theorem Zw {d:Int} {i:Nat} (h:E7 n up ranks roots costs d=i):∃ j:Nat,Hop n up i j∧Bl n i=d∧nth roots d≠nth ranks d∧(Hs (H2 n up ranks roots costs d n.ports.length)).1=⟨nth roots (Bl n j),nth costs (Bl n j)+Hx n i,nth ranks (Bl n j),j,i⟩:=by
 have hmem:=@Air (H2 n up ranks roots costs d n.ports.length)
 unfold E7 at h
 simp only at h
 split at h
 ·omega
 ·rename_i hc
  simp only[Bool.or_eq_true,Bool.not_eq_true',not_or,Bool.not_eq_false,beq_iff_eq]at hc
  obtain ⟨i',j,h1,h2,h3⟩:=best_mem.1 (hmem hc.1)
  rw[h3]at h
  have:i'=i:=by simp only at h;omega
  subst this
  exact⟨j,h1,h2,hc.2,h3⟩
theorem Am1 (S:Solved n up ranks roots costs) (hr:Ag n=true) {d:Int} (h0:0≤d) (h1:d<n.devices.length) (h:nth roots d≠nth ranks d):∃ i j:Nat,Hop n up i j∧Bl n i=d∧E7 n up ranks roots costs d=i∧nth costs d=nth costs (Bl n j)+Hx n i:=by
 obtain ⟨p,q,g1,g2,g3,g4⟩:=Ag5 S h0 h1 h
 have hm:=(best_mem (ranks:=ranks) (roots:=roots) (costs:=costs)).2 ⟨p,q,g1,g2,rfl⟩
 have h2:(Hs (H2 n up ranks roots costs d n.ports.length)).2=true:=by
  cases hb:(Hs (H2 n up ranks roots costs d n.ports.length)).2
  ·rw[(Afs hb).1]at hm;simp at hm
  ·rfl
 obtain ⟨i,j,e1,e2,e3⟩:=best_mem.1 (Air h2)
 have hle:=Abh _ _ hm
 rw[e3]at hle
 refine⟨i,j,e1,e2,?_,?_⟩
 ·unfold E7
  simp only[h2,Bool.not_true,Bool.false_or,beq_iff_eq]
  rw[if_neg h,e3]
 ·have r1:=Ks S hr e1
  have v1:=X0 S hr e1
  rw[e2]at r1 v1
  simp only[Ci]at hle
  grind
theorem Ahb (n:Net) (up:List Bool) (ranks costs:List Int) {p:Nat} (hp:p<n.ports.length):nth (Hq n up ranks costs n.ports.length) p=Oi n up ranks costs p:=by
 rw[Ao (by rw[Lb];simpa using hp)]
 simp[Hq,hp]
theorem T6 (n:Net) (up:List Bool) (ranks roots costs:List Int) {p:Nat} (hp:p<n.ports.length):∀ e:Nat,(∀ d:Nat,d<e→E7 n up ranks roots costs d≠p)→nth (H8 n up ranks roots costs e) p=Oi n up ranks costs p
 | 0,_=>Ahb n up ranks costs hp
 | e+1,h=>by
  have ih:=T6 n up ranks roots costs hp e (fun d hd=>h d qn)
  have hne:=h e qn
  rw[H8]
  split
  ·rw[nth,List.getElem?_set_ne qn]
   exact ih
  ·exact ih
theorem Wd (n:Net) (up:List Bool) (ranks roots costs:List Int) {p:Nat} (hp:p<n.ports.length):∀ (e d:Nat),d<e→E7 n up ranks roots costs d=p→nth (H8 n up ranks roots costs e) p=1
 | 0,_,h,_=>absurd h qn
 | e+1,d,h,hb=>by
  have hl:=He n up ranks roots costs e
  rw[H8]
  by_cases hbe:E7 n up ranks roots costs e=p
  ·rw[hbe,if_pos qn,nth,Int.toNat_natCast,List.getElem?_set_self qn]
   rfl
  ·have hde:d≠e:=fun h=>hbe (by rw[← h];exact hb)
   have ih:=Wd n up ranks roots costs hp e d qn hb
   split
   ·rw[nth,List.getElem?_set_ne qn]
    exact ih
   ·exact ih
def An9 (n:Net) (up:List Bool) (ranks roots costs:List Int):List Int:=H8 n up ranks roots costs n.devices.length
theorem Aaz (hr:Ag n=true) {p:Nat} (hp:p<n.ports.length):nth (An9 n up ranks roots costs) p=if E7 n up ranks roots costs (Bl n p)=p then 1 else Oi n up ranks costs p:=by
 have hd:=Cv hr hp
 split
 ·rename_i h
  refine Wd n up ranks roots costs hp _ (Bl n p).toNat qn ?_
  rw[Int.toNat_of_nonneg hd.1]
  exact h
 ·rename_i h
  refine T6 n up ranks roots costs hp _ (fun d _ hb=>h ?_)
  obtain ⟨_,_,h2,_⟩:=Zw hb
  rw[h2]
  exact hb
theorem Ahc {p:Nat} (h:Cb n up p<0):Oi n up ranks costs p=0:=by rw[Oi,if_pos h]
theorem Alg {p q:Nat} (h:Hop n up p q):Oi n up ranks costs p=if nth costs (Bl n p)<nth costs (Bl n q)∨(nth costs (Bl n p)=nth costs (Bl n q)∧nth ranks (Bl n p)<nth ranks (Bl n q)) then 2 else 3:=by
 rw[Oi,h.2,if_neg qn,Int.toNat_natCast,Jy]
 have e1:(n.ports.getD p default).dev=Bl n p:=rfl
 have e2:(n.ports.getD q default).dev=Bl n q:=rfl
 simp only[e1,e2,Bool.or_eq_true,decide_eq_true_eq,Bool.and_eq_true,beq_iff_eq]
def V3 (roles:List Int) (l:Link):Bool:=inB [nth roles l.a,nth roles l.b] 1 && inB [nth roles l.a,nth roles l.b] 2
def fwdL (n:Net) (roles:List Int):List Bool:=n.links.map (V3 roles)
end
end Go.Sy.YtmelpejjondedaaGreat
namespace Go.Sy.YtmelpejjondedaaGreat
open Go.Proofs
theorem G_lit {C:Cx} {k:List KI} {s:SS} (d:Nat) {sz:Nat} {α:Type} (e:α→SV) (l:List α) {svs:List SV} (h:s.h d=.lit sz svs) (hl:l.map e=svs) (hg:G C k ⟨s.σ,upd s.h d (.row sz e l)⟩):G C k s:=fun κ a w hs=>by
 refine hg κ a w ⟨hs.defers,hs.size,hs.inv,hs.ctx,hs.slot,fun j=>?_⟩
 show ObOK κ w j (upd s.h d (.row sz e l) j)
 by_cases hj:j=d
 ·subst hj
  rw[Bq]
  have hob:=hs.obj j
  rw[h]at hob
  have hlen:l.length=svs.length:=by rw[← hl,List.length_map]
  obtain ⟨b,cap,cs,T,fr,e1,e2,e3,e4,e5,e6⟩:=hob
  exact .inr ⟨b,cap,cs,T,fr,by rw[hlen];exact e1,e2,e3,e4,by omega,fun i x hx=>by rw[hlen];exact e6 i x (Lo hl i x hx)⟩
 ·rw[Cd _ _ hj];exact hs.obj j
attribute [local irreducible] Go.Sy.G Go.Sy.DR
set_option maxRecDepth 100000
set_option maxHeartbeats 4000000
theorem Yi (n:Net) (up:List Bool) (x:Item) (q:List Item):∀ i,((List.range i).foldl (De n up x) q).length≤q.length+i
 | 0=>by simp
 | i+1=>by
  have:=Yi n up x q i
  rw[List.range_succ,List.foldl_append]
  simp only[List.foldl_cons,List.foldl_nil]
  rw[De]
  split
  ·rw[Js];omega
  ·omega
theorem reachS (n:Net) (up:List Bool) (ranks roots costs:List Int) (hr:Ag n=true) (hu:up.length=n.links.length) (hcost:Cm n=true) (hrk:ranks.length=n.devices.length) (hro:roots.length=n.devices.length) (hc:costs.length=n.devices.length) (hrr:∀ r∈ranks,0≤r) (D:List Item × List Int × List Int) (hD:Jk n up (D8 ranks ranks.length,roots,costs)=D) :
  Sy.Spec Tryz.prog 157 [.ptr 0 0] (Aaw n up ranks roots costs) (.tup []) (Aaw n up ranks D.2.1 D.2.2):=Ab Γ hm 100 F157 Tryz.ntmps157 rfl fun F hF=>by
 have hf:=Cy hr
 conv=>whnf
 refine G_lit 10 Bs [] E E ?_
 refine At ranks.length (fun j=>[(0,.ptr 0 0),(2,.ptr 11 0),(15,.sl 1 Aa ranks),(16,Aa ranks.length),(17,Aa j)]) (fun j=>[(0,.box (Q9 n up ranks (.osl 1) (.osl 2))),(1,.row 1 Aa roots),(2,.row 1 Aa costs),(11,.box [.osl 12]),(12,.row 3 Bs (D8 ranks j))]) [(12,10)]
  ⟨⟨rfl,rfl,rfl,rfl,rfl,rfl,rfl,rfl,rfl,rfl,trivial⟩,⟨.inl rfl,rfl,.inl rfl,rfl,.inl rfl,rfl,.inl rfl,rfl,.inl rfl,rfl,trivial⟩,rfl,rfl⟩ ?_
 intro j hj
 refine rg ?_;conv=>whnf
 refine⟨fun h=>?_,fun h=>?_⟩
 ·have hlt:j<ranks.length:=by simpa using h
  have e1:ranks[(j:Int).toNat]'qn=ranks[j]:=rfl
  have hpush:=Abp (D8 ranks j) ⟨ranks.getD j 0,0,j⟩ (by rw[K9];omega)
  have hsucc:=I5 ranks j
  rw[Bb (show j<ranks.length by omega)]at hpush hsucc
  refine rg ?_;conv=>whnf
  refine⟨by omega,by omega,?_⟩
  conv=>whnf
  refine⟨by omega,?_⟩
  rw[e1]
  conv=>whnf
  refine Ai (Ak [(0,11),(1,12),(2,28)] E F233 hpush E ⟨E,E,Y⟩ E ⟨.inl E,.inl E,.inr E,Y⟩) E E ?_
  refine rg ?_;conv=>whnf
  refine⟨by unfold I64;omega,?_⟩
  conv=>whnf
  refine Aq [(12,28)] hlt ⟨⟨E,E,E,E,E,E,E,E,E,E,Y⟩,⟨.inl E,E,.inl E,E,.inl E,E,.inl E,E,.inl (congrArg (Ob.row 3 Bs) hsucc),E,Y⟩,E,E⟩
 ·have hjl:j=ranks.length:=by
   have:¬ j<ranks.length:=by simpa using h
   omega
  subst hjl
  refine rg ?_;conv=>whnf
  refine Qi (α:={s:List Item × List Int × List Int // ReachInv n s∧Jk n up s=D}) (fun p=>[(0,.ptr 0 0),(2,.ptr 11 0)]) (fun p=>[(0,.box (Q9 n up ranks (.osl 1) (.osl 2))),(1,.row 1 Aa p.1.2.1),(2,.row 1 Aa p.1.2.2),(11,.box [.osl 12]),(12,.row 3 Bs p.1.1)]) (fun p=>reachM p.1) ⟨(D8 ranks ranks.length,roots,costs),Aav n ranks roots costs hr hrk hro hc hrr,hD⟩ []
   ⟨⟨rfl,rfl,rfl,rfl,trivial⟩,⟨.inl rfl,rfl,.inl rfl,rfl,.inl rfl,rfl,.inl rfl,rfl,.inl rfl,rfl,trivial⟩,rfl,rfl⟩ ?_
  rintro ⟨⟨q,ro,co⟩,hI,hDq⟩
  have hlen:=Vo q
  have hdn:=Ahx n up (q,ro,co)
  have hds:=Ae4 n up hr hcost (q,ro,co) hI
  dsimp only at hdn hds ⊢
  refine rg ?_;conv=>whnf
  refine Ai (Te [12] E F234 hlen (.cons (.row E E) .nil) E E) E E ?_
  refine rg ?_;conv=>whnf
  refine⟨fun h2=>?_,fun h2=>?_⟩
  ·have hne:q≠[]:=fun e=>by subst e;simp at h2
   have hpop:=Apl q hne (by have:=hI.few;simp only at this;omega)
   have hx:=hI.items _ ((Qr q hne).mem_iff.1 (List.getLast_mem (Dw hne)))
   have hst:Mi n up (q,ro,co)=if 0≤nth ro ((C4 q).getLast (Dw hne)).dev then ((C4 q).dropLast,ro,co) else ((List.range n.ports.length).foldl (De n up ((C4 q).getLast (Dw hne))) (C4 q).dropLast,ro.set ((C4 q).getLast (Dw hne)).dev.toNat ((C4 q).getLast (Dw hne)).root,co.set ((C4 q).getLast (Dw hne)).dev.toNat ((C4 q).getLast (Dw hne)).cost):=by
    rw[Mi,Yz hne]
   have hr1:=J8 n up hr hcost (q,ro,co) hI hne
   have hD1:=hds hne
   rw[hDq]at hD1
   rw[hst]at hr1 hD1
   generalize (C4 q).getLast (Dw hne)=x at *
   have hroL:=hI.rootsL
   have hcoL:=hI.costsL
   dsimp only at hroL hcoL
   rw[Ao (l:=ro) (i:=x.dev) qn]at hr1 hD1
   refine rg ?_;conv=>whnf
   refine Ai (Ak [(0,11),(1,12),(2,38)] E F235 hpop E ⟨E,E,Y⟩ E ⟨.inl E,.inl E,.inr E,Y⟩) E E ?_
   refine rg ?_;conv=>whnf
   refine Ai (Ww Γ.toTy E E E E) E E ?_
   (refine rg ?_;(conv=>whnf);refine aF ?_;refine rd qy ?_;conv=>whnf)
   have hx1:=hx.1
   have hx2:=hx.2.1
   refine⟨by omega,by omega,?_⟩
   conv=>whnf
   refine⟨E,by omega,?_⟩
   conv=>whnf
   refine⟨qy,?_⟩
   conv=>whnf
   refine⟨fun h3=>?_,fun h3=>?_⟩
   ·have h30:0≤ro[x.dev.toNat]'qn:=of_decide_eq_true h3
    rw[if_pos h30]at hr1 hD1
    refine rg ?_;conv=>whnf
    exact Sp (α:={s:List Item × List Int × List Int // ReachInv n s∧Jk n up s=D}) (L:=fun p=>[(0,.ptr 0 0),(2,.ptr 11 0)]) (O:=fun p=>[(0,.box (Q9 n up ranks (.osl 1) (.osl 2))),(1,.row 1 Aa p.1.2.1),(2,.row 1 Aa p.1.2.2),(11,.box [.osl 12]),(12,.row 3 Bs p.1.1)]) (μ:=fun p=>reachM p.1) (x:=⟨(q,ro,co),hI,hDq⟩)
     ⟨((C4 q).dropLast,ro,co),hr1.1,hD1.symm⟩ [(12,38)] hr1.2
     ⟨⟨rfl,rfl,rfl,rfl,trivial⟩,⟨.inl rfl,rfl,.inl rfl,rfl,.inl rfl,rfl,.inl rfl,rfl,.inl rfl,rfl,trivial⟩,rfl,rfl⟩
   ·have h30:¬ 0≤ro[x.dev.toNat]'qn:=of_decide_eq_false h3
    rw[if_neg h30]at hr1 hD1
    refine rg ?_;conv=>whnf
    refine⟨by omega,by omega,?_⟩
    conv=>whnf
    refine⟨by omega,by omega,?_⟩
    conv=>whnf
    refine⟨x.root,E,E,?_⟩
    conv=>whnf
    refine⟨by omega,by omega,E,by omega,x.cost,E,E,?_⟩
    conv=>whnf
    refine⟨qy,?_⟩
    conv=>whnf
    generalize ro.set x.dev.toNat x.root=ro' at *
    generalize co.set x.dev.toNat x.cost=co' at *
    refine At n.ports.length (fun j=>[(0,.ptr 0 0),(2,.ptr 11 0),(5,.ptr 5 0),(77,.sl 7 Bj n.ports),(78,Aa n.ports.length),(79,Aa j)]) (fun j=>[(0,.box (Q9 n up ranks (.osl 1) (.osl 2))),(1,.row 1 Aa ro'),(2,.row 1 Aa co'),(5,.box [Aa x.root,Aa x.cost,Aa x.dev]),(11,.box [.osl 12]),(12,.row 3 Bs ((List.range j).foldl (De n up x) (C4 q).dropLast))]) [(12,38)]
     ⟨⟨rfl,rfl,rfl,rfl,rfl,rfl,rfl,rfl,rfl,rfl,rfl,rfl,trivial⟩,⟨.inl rfl,rfl,.inl rfl,rfl,.inl rfl,rfl,.inl rfl,rfl,.inl rfl,rfl,.inl rfl,rfl,trivial⟩,rfl,rfl⟩ ?_
    intro j hj
    refine rg ?_;conv=>whnf
    refine⟨fun h4=>?_,fun h4=>?_⟩
    ·have hlt:j<n.ports.length:=by simpa using h4
     have e1:n.ports[(j:Int).toNat]'qn=n.ports[j]:=rfl
     have hfar:=farR n up ranks ro' co' j hr hu hlt
     have hql:(C4 q).dropLast.length≤q.length:=by rw[List.length_dropLast,D3];omega
     have hlenQ:=Yi n up x (C4 q).dropLast j
     have hfew:=hI.few
     dsimp only at hfew
     have hsucc:(List.range (j+1)).foldl (De n up x) (C4 q).dropLast=De n up x ((List.range j).foldl (De n up x) (C4 q).dropLast) j:=by
      rw[List.range_succ,List.foldl_append];rfl
     generalize (List.range j).foldl (De n up x) (C4 q).dropLast=Q at *
     rw[De,Bb hlt]at hsucc
     refine rg ?_;conv=>whnf
     refine⟨by omega,by omega,?_⟩
     conv=>whnf
     refine⟨by omega,?_⟩
     rw[e1]
     conv=>whnf
     refine Ai (Ak [] E F158 hfar E ⟨E,E,E,Y⟩ E ⟨.inl E,.inl E,.inl E,Y⟩) E E ?_
     refine rg ?_;conv=>whnf
     refine⟨fun h5=>?_,fun h5=>?_⟩
     ·refine rg ?_;conv=>whnf
      refine⟨fun h6=>?_,fun h6=>?_⟩
      ·have hk0:0≤Cb n up j:=of_decide_eq_true h6
       have hk1:=Tf (up:=up) hr hlt hk0
       rw[if_pos ⟨by simpa using h5,hk0⟩,Ao (l:=n.ports) (i:=Cb n up j) qn]at hsucc
       have hpc:1≤(n.ports[(Cb n up j).toNat]'qn).cost∧(n.ports[(Cb n up j).toNat]'qn).cost≤65535:=by
        simp only[Cm,Bool.not_eq_true',List.any_eq_false]at hcost
        have:=hcost _ (List.getElem_mem (show (Cb n up j).toNat<n.ports.length by omega))
        simp only[Ik,Bool.or_eq_true,decide_eq_true_eq,not_or]at this
        omega
       have hxc:=hx.2.2.2
       have hpush:=Abp Q ⟨x.root,x.cost+(n.ports[(Cb n up j).toNat]'qn).cost,(n.ports[(Cb n up j).toNat]'qn).dev⟩ qn
       refine rg ?_;conv=>whnf
       refine⟨E,hk0,by omega,?_⟩
       conv=>whnf
       refine⟨by unfold I64;omega,?_⟩
       conv=>whnf
       refine⟨E,hk0,by omega,?_⟩
       conv=>whnf
       refine Bn (Ak [(0,11),(1,12),(2,123)] E F233 hpush E ⟨E,E,Y⟩ E ⟨.inl E,.inl E,.inr E,Y⟩) qy E ?_
       refine rd qy ?_;conv=>whnf
       refine⟨qy,?_⟩
       conv=>whnf
       refine⟨by unfold I64;omega,?_⟩
       conv=>whnf
       refine Aq [(12,123)] hlt ⟨⟨E,E,E,E,E,E,E,E,E,E,E,E,Y⟩,⟨.inl E,E,.inl E,E,.inl E,E,.inl E,E,.inl E,E,.inl (congrArg (Ob.row 3 Bs) hsucc),E,Y⟩,E,E⟩
      ·rw[if_neg (fun hh=>(of_decide_eq_false h6) hh.2)]at hsucc
       refine rg ?_;conv=>whnf
       refine⟨by unfold I64;omega,?_⟩
       conv=>whnf
       refine Aq [] hlt ⟨⟨E,E,E,E,E,E,E,E,E,E,E,E,Y⟩,⟨.inl E,E,.inl E,E,.inl E,E,.inl E,E,.inl E,E,.inl (congrArg (Ob.row 3 Bs) hsucc),E,Y⟩,E,E⟩
     ·rw[if_neg (fun hh=>absurd hh.1 (by simpa using h5))]at hsucc
      (refine rg ?_;(conv=>whnf);refine aF ?_;refine rg ?_;conv=>whnf)
      refine⟨by unfold I64;omega,?_⟩
      conv=>whnf
      refine Aq [] hlt ⟨⟨E,E,E,E,E,E,E,E,E,E,E,E,Y⟩,⟨.inl E,E,.inl E,E,.inl E,E,.inl E,E,.inl E,E,.inl (congrArg (Ob.row 3 Bs) hsucc),E,Y⟩,E,E⟩
    ·have hjl:j=n.ports.length:=by
      have:¬ j<n.ports.length:=by simpa using h4
      omega
     subst hjl
     refine rg ?_;conv=>whnf
     exact Sp (α:={s:List Item × List Int × List Int // ReachInv n s∧Jk n up s=D}) (L:=fun p=>[(0,.ptr 0 0),(2,.ptr 11 0)]) (O:=fun p=>[(0,.box (Q9 n up ranks (.osl 1) (.osl 2))),(1,.row 1 Aa p.1.2.1),(2,.row 1 Aa p.1.2.2),(11,.box [.osl 12]),(12,.row 3 Bs p.1.1)]) (μ:=fun p=>reachM p.1) (x:=⟨(q,ro,co),hI,hDq⟩)
      ⟨((List.range n.ports.length).foldl (De n up x) (C4 q).dropLast,ro',co'),hr1.1,hD1.symm⟩ [] hr1.2
      ⟨⟨rfl,rfl,rfl,rfl,trivial⟩,⟨.inl rfl,rfl,.inl rfl,rfl,.inl rfl,rfl,.inl rfl,rfl,.inl rfl,rfl,trivial⟩,rfl,rfl⟩
  ·have he:q=[]:=List.eq_nil_of_length_eq_zero (by
    have:¬ 0<q.length:=by simpa using h2
    omega)
   have e:D=(q,ro,co):=by rw[← hDq,hdn he]
   rw[e]
   refine rg ?_;conv=>whnf
   exact Bw E .nil [] (Aaw n up ranks ro co) (fun _ h=>h) E E ⟨Y,⟨.inl E,E,.inl E,E,.inl E,E,Y⟩,E,E⟩
end Go.Sy.YtmelpejjondedaaGreat
namespace Go.Sy.YtmelpejjondedaaGreat
open Go.Proofs
attribute [local irreducible] Go.Sy.G Go.Sy.DR
set_option maxRecDepth 100000
set_option maxHeartbeats 4000000
def okB (n:Net) (up:List Bool):Bool:=decide (up.length=n.links.length) && (Ag n && Cm n)
theorem ok_iff {n:Net} {up:List Bool}:okB n up=true↔up.length=n.links.length∧Ag n=true∧Cm n=true:=by simp[okB]
def S1 (n:Net) (up:List Bool):List Int:=(On n up (Cr n)).2.1
def Tn (n:Net) (up:List Bool):List Int:=(On n up (Cr n)).2.2
def Acx (n:Net) (up:List Bool):SV:=Of n up (Cr n) (S1 n up) (Tn n up)
theorem Arh (n:Net) (up:List Bool) (hn:n.Fin) (h:okB n up=false):Sy.Spec Tryz.prog 84 [Ap n,.sl 1 Ad up] [] (.tup [.val (.pointer none),Aa 2]) []:=Ab Γ hm 100 F84 Tryz.ntmps84 rfl fun F hF=>by
 have h':¬ (up.length=n.links.length∧Ag n=true∧Cm n=true):=fun hh=>by rw[ok_iff.2 hh]at h;cases h
 conv=>whnf
 (repeat' (first | (refine⟨fun h=>?_,fun h=>?_⟩<;>(repeat (first | simp only[bne_iff_ne]at h | simp only[bne_eq_false_iff_eq]at h | simp only[Bool.not_eq_true']at h | simp only[Bool.not_eq_false']at h))<;>((refine rg ?_);(conv=>whnf);repeat((refine aT ?_);(refine rg ?_);(conv=>whnf)))) | (refine Ah (B5 n hn) F67 rfl rfl rfl rfl rfl ?_;((refine rg ?_);(conv=>whnf))) | (refine Ah (Aqc n hn.ports) F155 rfl rfl rfl rfl rfl ?_;((refine rg ?_);(conv=>whnf))) | refine Ac rfl (.cons .tmp (.cons .tmp .nil)) rfl rfl))
 all_goals exact absurd ⟨by omega,by assumption,by assumption⟩ h'
def M3 (m j:Nat):List Int:=List.replicate j (-1)++List.replicate (m-j) 0
theorem Ai5 (m:Nat):M3 m 0=List.replicate m 0:=by simp[M3]
theorem Amr (m:Nat):M3 m m=List.replicate m (-1):=by simp[M3]
theorem Adh (m j:Nat) (h:j≤m):(M3 m j).length=m:=by simp[M3];omega
theorem Ai6 (m j:Nat) (h:j<m):M3 m (j+1)=(M3 m j).set j (-1):=by
 have e:m-j=(m-(j+1))+1:=by omega
 rw[M3,M3,e,List.set_append_right _ _ za,List.length_replicate,Nat.sub_self,List.replicate_succ' (n:=j),List.replicate_succ (n:=m-(j+1))]
 simp
theorem openOK (n:Net) (up:List Bool) (hn:n.Fin) (hu:up.length=n.links.length) (hr:Ag n=true) (hcost:Cm n=true):Sy.Spec Tryz.prog 84 [Ap n,.sl 1 Ad up] [] (.tup [Acx n up,Aa 0]) []:=Ab Γ hm 100 F84 Tryz.ntmps84 rfl fun F hF=>by
 have hf:=Cy hr
 have hrt:=B5 n hn
 have hct:=Aqc n hn.ports
 have hrs:=ranksS n hn
 rw[hr]at hrt
 rw[hcost]at hct
 rw[hr,if_pos rfl]at hrs
 have hrk:=En n
 have hrr:∀ r∈Cr n,0≤r:=fun r h=>(Wj n r h).1
 have hsv:Acx n up=Of n up (Cr n) (On n up (Cr n)).2.1 (On n up (Cr n)).2.2:=rfl
 rw[hsv]
 generalize Cr n=ranks at *
 have hreach:=fun D hD=>reachS n up ranks (List.replicate n.devices.length (-1)) (List.replicate n.devices.length 0) hr hu hcost hrk za za hrr D hD
 have hRT:Jk n up (D8 ranks ranks.length,List.replicate n.devices.length (-1),List.replicate n.devices.length 0)=On n up ranks:=rfl
 generalize On n up ranks=D at *
 have hreach:=hreach D hRT
 clear hRT hsv
 conv=>whnf
 refine⟨fun h=>absurd h (by simp[hu]),fun h=>?_⟩
 refine rg ?_;conv=>whnf
 refine Ah hrt F67 E E E E E ?_
 (refine rg ?_;(conv=>whnf);refine aF ?_;refine rg ?_;conv=>whnf)
 refine Ah hct F155 E E E E E ?_
 (refine rg ?_;(conv=>whnf);refine aF ?_;refine rg ?_;conv=>whnf)
 refine Au hrs F156 E E E qy E ?_
 refine rd qy ?_;conv=>whnf
 refine Bn (B1 Γ.toTy (d:=31) (n:=n.devices.length) Aa 0 E E E E E E E E qn qn E E E) qy E ?_
 refine rd qy ?_;conv=>whnf
 refine Bn (B1 Γ.toTy (d:=35) (n:=n.devices.length) Aa 0 E E E E E E E E qn qn E E E) qy E ?_
 refine rd qy ?_;conv=>whnf
 refine⟨qy,?_⟩
 conv=>whnf
 refine At n.devices.length (fun j=>[(6,.ptr 37 0),(42,Aa (List.replicate n.devices.length (0:Int)).length),(43,Aa j)]) (fun j=>[(37,.box (Q9 n up ranks (.osl 31) (.osl 35))),(31,.row 1 Aa (M3 n.devices.length j)),(35,.row 1 Aa (List.replicate n.devices.length 0))]) []
  ⟨⟨rfl,rfl,rfl,rfl,rfl,rfl,trivial⟩,⟨.inl rfl,rfl,.inl (by rw[Ai5];rfl),rfl,.inl rfl,rfl,trivial⟩,rfl,rfl⟩ ?_
 intro j hj
 have hlen:=Adh n.devices.length j hj
 refine rg ?_;conv=>whnf
 refine⟨fun h=>?_,fun h=>?_⟩
 ·have hlt:j<n.devices.length:=by simpa using h
  have hsucc:=Ai6 n.devices.length j hlt
  generalize M3 n.devices.length j=u at *
  refine rg ?_;conv=>whnf
  refine⟨by omega,by omega,?_⟩
  conv=>whnf
  refine⟨E,by omega,-1,E,E,?_⟩
  conv=>whnf
  refine⟨by unfold I64;omega,?_⟩
  conv=>whnf
  exact Aq [] hlt ⟨⟨E,E,E,E,E,E,Y⟩,⟨.inl E,E,.inl (congrArg (Ob.row 1 Aa) hsucc),E,.inl E,E,Y⟩,E,E⟩
 have hjl:j=n.devices.length:=by
  have:¬ j<n.devices.length:=by simpa using h
  omega
 subst hjl
 have hall:=Amr n.devices.length
 rw[← hall]at hreach
 refine rg ?_;conv=>whnf
 refine Ai (Ak [(0,37),(1,31),(2,35)] E F157 hreach E ⟨E,E,E,Y⟩ E ⟨.inl E,.inl E,.inl E,Y⟩) E E ?_
 refine As 31 E ?_
 refine As 35 E ?_
 refine Bg 37 12 (.agg (Q9 n up ranks (.sl 1 Aa D.2.1) (.sl 1 Aa D.2.2))) E E E ?_
 refine rg ?_;conv=>whnf
 exact Ac E (.cons .tmp (.cons .tmp .nil)) E E
theorem V8 {n:Net} {up:List Bool} (h:okB n up=true):Solved n up (Cr n) (S1 n up) (Tn n up):=by
 obtain ⟨hu,hr,hcost⟩:=ok_iff.1 h
 exact Z3 n up (Cr n) hr hcost (En n) (fun r h=>(Wj n r h).1)
def Ji (n:Net) (up:List Bool):List Int:=An9 n up (Cr n) (S1 n up) (Tn n up)
def Apy (n:Net) (up:List Bool):List Bool:=fwdL n (Ji n up)
theorem La (n:Net) (up:List Bool):(Ji n up).length=n.ports.length:=He ..
theorem Ah8 (n:Net) (up:List Bool) (h:okB n up=true):Sy.Spec Tryz.prog 85 [Acx n up] [] (.sl 1 Aa (Ji n up)) []:=by
 obtain ⟨hu,hr,hcost⟩:=ok_iff.1 h
 have S:=V8 h
 exact rolesS n up (Cr n) (S1 n up) (Tn n up) hr hu hcost (En n) S.rootsL S.costsL (fun c hc=>by have:=S.bound c hc;omega)
theorem Zh (n:Net) (up:List Bool) (hn:n.Fin) (h:okB n up=false):Sy.Spec Tryz.prog 44 [Ap n,.sl 1 Ad up] [] (.tup [.sl 1 Ad [],Aa 2]) []:=Ab Γ hm 100 F44 Tryz.ntmps44 rfl fun F hF=>by
 conv=>whnf
 refine Ah (Arh n up hn h) F84 E E E E E ?_
 (refine rg ?_;(conv=>whnf);refine aT ?_;refine rg ?_;conv=>whnf)
 refine An 4 1 Ad E ?_
 exact Ac E (.cons .tmp (.cons .tmp .nil)) E E
def Xc (n:Net) (roles:List Int) (j:Nat):List Bool:=(n.links.take j).map (V3 roles)++List.replicate (n.links.length-j) false
theorem Amm (n:Net) (roles:List Int):Xc n roles 0=List.replicate n.links.length false:=by simp[Xc]
theorem Apx (n:Net) (roles:List Int):Xc n roles n.links.length=fwdL n roles:=by simp[Xc,fwdL]
theorem Af4 (n:Net) (roles:List Int) (j:Nat) (h:j≤n.links.length):(Xc n roles j).length=n.links.length:=by simp[Xc];omega
theorem Amn (n:Net) (roles:List Int) (j:Nat) (h:j<n.links.length):Xc n roles (j+1)=(Xc n roles j).set j (V3 roles n.links[j]):=by
 have e:n.links.length-j=(n.links.length-(j+1))+1:=by omega
 have el:((n.links.take j).map (V3 roles)).length=j:=by simp;omega
 rw[Xc,Xc,List.set_append_right _ _ qn,el,Nat.sub_self,List.take_succ_eq_append_getElem h,List.map_append,e,List.replicate_succ,List.set_cons_zero]
 simp
theorem Abt (n:Net) (up:List Bool) (hn:n.Fin) (h:okB n up=true):Sy.Spec Tryz.prog 44 [Ap n,.sl 1 Ad up] [] (.tup [.sl 1 Ad (Apy n up),Aa 0]) []:=Ab Γ hm 100 F44 Tryz.ntmps44 rfl fun F hF=>by
 obtain ⟨hu,hr,hcost⟩:=ok_iff.1 h
 have hf:=Cy hr
 have ho:=openOK n up hn hu hr hcost
 have hro:=Ah8 n up h
 have hrl:=La n up
 rw[Apy]
 generalize Ji n up=roles at *
 unfold Acx at ho hro
 generalize Cr n=ranks at *
 generalize S1 n up=roots at *
 generalize Tn n up=costs at *
 conv=>whnf
 refine Ah ho F84 E E E E E ?_
 (refine rg ?_;(conv=>whnf);refine aF ?_;refine rg ?_;conv=>whnf)
 refine Ah hro F85 E E E E E ?_
 refine rg ?_;conv=>whnf
 refine Ai (B1 Γ.toTy (d:=27) (n:=n.links.length) Ad false E E E E E E E E qn qn E E E) E E ?_
 rw[← Amm n roles]
 refine rg ?_;conv=>whnf
 refine At n.links.length (fun j=>[(8,.sl 1 Aa roles),(9,.osl 27),(29,.sl 3 Cu n.links),(30,Aa n.links.length),(31,Aa j)]) (fun j=>[(27,.row 1 Ad (Xc n roles j))]) []
  ⟨⟨rfl,rfl,rfl,rfl,rfl,rfl,rfl,rfl,rfl,rfl,trivial⟩,⟨.inl rfl,rfl,trivial⟩,rfl,rfl⟩ ?_
 intro j hj
 have hall:=Apx n roles
 refine rg ?_;conv=>whnf
 refine⟨fun h=>?_,fun h=>?_⟩
 ·have hlt:j<n.links.length:=by simpa using h
  have he:=Ir hr hlt
  have e1:n.links[(j:Int).toNat]'qn=n.links[j]:=rfl
  have hlen:=Af4 n roles j hj
  have hsucc:=Amn n roles j hlt
  generalize Xc n roles j=u at *
  generalize n.links[j]=l at *
  rw[V3,Ao (l:=roles) (i:=l.a) qn,Ao (l:=roles) (i:=l.b) qn]at hsucc
  refine rg ?_;conv=>whnf
  refine⟨E,by omega,by omega,?_⟩
  rw[e1]
  conv=>whnf
  refine⟨E,by omega,by omega,?_⟩
  conv=>whnf
  refine⟨E,by omega,by omega,?_⟩
  conv=>whnf
  refine⟨qy,?_⟩
  conv=>whnf
  have hA:0≤l.a∧l.a<roles.length:=by omega
  have hB:0≤l.b∧l.b<roles.length:=by omega
  obtain ⟨x,hx⟩:∃ x,roles[l.a.toNat]'qn=x:=⟨_,rfl⟩
  obtain ⟨y,hy⟩:∃ y,roles[l.b.toNat]'qn=y:=⟨_,rfl⟩
  rw[hx,hy]at hsucc
  refine Agv 46 (e:=Aa) (l:=[x,y]) E (by rw[← hx,← hy];rfl) ?_
  refine As 46 E ?_
  refine Ah (D2 [x,y] 1 (by unfold Ar;simp)) F86 E E E E E ?_
  refine rg ?_;conv=>whnf
  refine⟨fun h1=>?_,fun h1=>?_⟩
  ·rw[h1,Bool.true_and]at hsucc
   refine rg ?_;conv=>whnf
   refine Ah (D2 [x,y] 2 (by unfold Ar;simp)) F86 E E E E E ?_
   refine rg ?_;conv=>whnf
   refine⟨by omega,by omega,?_⟩
   conv=>whnf
   refine⟨E,by omega,inB [x,y] 2,E,E,?_⟩
   conv=>whnf
   refine⟨by unfold I64;omega,?_⟩
   conv=>whnf
   exact Aq [] hlt ⟨⟨E,E,E,E,E,E,E,E,E,E,Y⟩,⟨.inl (congrArg (Ob.row 1 Ad) hsucc),E,Y⟩,E,E⟩
  ·rw[h1,Bool.false_and]at hsucc
   refine rg ?_;conv=>whnf
   refine⟨by omega,by omega,?_⟩
   conv=>whnf
   refine⟨E,by omega,false,E,E,?_⟩
   conv=>whnf
   refine⟨by unfold I64;omega,?_⟩
   conv=>whnf
   exact Aq [] hlt ⟨⟨E,E,E,E,E,E,E,E,E,E,Y⟩,⟨.inl (congrArg (Ob.row 1 Ad) hsucc),E,Y⟩,E,E⟩
 have hjl:j=n.links.length:=by
  have:¬ j<n.links.length:=by simpa using h
  omega
 subst hjl
 rw[← hall]
 refine rg ?_;conv=>whnf
 refine As 27 E ?_
 exact Ac E (.cons .tmp (.cons .tmp .nil)) E E
end Go.Sy.YtmelpejjondedaaGreat
namespace Go.Sy.YtmelpejjondedaaGreat
open Go.Proofs
structure MacM where
 up:List Bool
 tables:List (List EntryM)
 queues:List (List QueuedM)
 now:Int
 injected:Int
 drops:Nat→Int
def Bf (m:MacM) (e:Int):MacM:=⟨m.up,m.tables,m.queues,m.now,m.injected,fun i=>if i=e.toNat then m.drops i+1 else m.drops i⟩
def queueL (m:MacM) (dom:Int):List QueuedM:=(m.queues[dom.toNat]?).getD []
def tableL (m:MacM) (dom:Int):List EntryM:=(m.tables[dom.toNat]?).getD []
def Acg (m:MacM) (dom:Int) (l:List QueuedM):MacM:=⟨m.up,m.tables,m.queues.set dom.toNat l,m.now,m.injected,m.drops⟩
def Bv (m:MacM) (dom:Int) (t:List EntryM):MacM:=⟨m.up,m.tables.set dom.toNat t,m.queues,m.now,m.injected,m.drops⟩
def comeM (m:MacM) (dom:Int) (q:QueuedM) (e:Int):MacM :=
 if e≠0 then Bf m e else if (pushT (queueL m dom) q).2=true then Acg m dom (pushT (queueL m dom) q).1 else Bf m 3
def takeM (m:MacM) (dom at_:Int):MacM × QueuedM × Bool :=
 if Al dom m.queues.length=false then (m,noQ,false)
 else (Acg m dom (takeT (queueL m dom) at_).2.1,(takeT (queueL m dom) at_).1,(takeT (queueL m dom) at_).2.2)
def injectT (n:Net) (m:MacM) (port:Int) (b:List UInt8):MacM :=
 if Al port n.ports.length=false∨0≤(nth n.ports port).link then m
 else comeM ⟨m.up,m.tables,m.queues,m.now,m.injected+1,m.drops⟩ (enterT n port b).1 ⟨port,0,m.injected+1,(enterT n port b).2.1⟩ (enterT n port b).2.2
def goesM (n:Net) (m:MacM) (o:OutM) (origin:Int):MacM × List SeenM :=
 if o.kind=1 then (m,[⟨o.port,origin,o.bytes⟩])
 else if o.kind=2 then (comeM m (linkT n o.port o.bytes).2.1 ⟨(linkT n o.port o.bytes).1,0,origin,(linkT n o.port o.bytes).2.2.1⟩ (linkT n o.port o.bytes).2.2.2,[])
 else if o.kind=3 then (comeM m (comeT n o.bytes).2.1 ⟨-1,(comeT n o.bytes).1,origin,(comeT n o.bytes).2.2.1⟩ (comeT n o.bytes).2.2.2,[])
 else if o.kind=4 then (comeM m o.domain ⟨-2,0,origin,o.frame⟩ 0,[])
 else (Bf m o.error,[])
def Ba (n:Net) (m:MacM) (origin:Int):List OutM→MacM × List SeenM
 | []=>(m,[])
 | o::l=>((Ba n (goesM n m o origin).1 origin l).1,(goesM n m o origin).2++(Ba n (goesM n m o origin).1 origin l).2)
def H5 (n:Net) (up:List Bool):List Bool:=if okB n up=true then Apy n up else []
def Or (n:Net) (m:MacM) (dom:Int) (q:QueuedM):List EntryM × List OutM × Int:=bridgeT n (H5 n m.up) (tableL m dom) dom q m.now
def Ib (m:MacM) (dom:Int) (r:List EntryM × List OutM × Int):MacM :=
 if r.2.2=2 then Bf m 2 else if r.2.2≠0 then Bf (Bv m dom r.1) r.2.2 else Bv m dom r.1
def pickT (n:Net) (m:MacM) (dom at_:Int):MacM × List SeenM :=
 if (takeM m dom at_).2.2=false then ((takeM m dom at_).1,[])
 else Ba n (Ib (takeM m dom at_).1 dom (Or n (takeM m dom at_).1 dom (takeM m dom at_).2.1)) (takeM m dom at_).2.1.origin (Or n (takeM m dom at_).1 dom (takeM m dom at_).2.1).2.1
def My (m:MacM):MacM :=
 let now:=min (m.now+1) 1099511627776
 ⟨m.up,m.tables.map (fun t=>ageT t now),m.queues,now,m.injected,m.drops⟩
def doT (n:Net) (m:MacM) (x:StepM):MacM × List SeenM :=
 if x.kind=1 then (injectT n m x.port x.bytes,[])
 else if x.kind=2 then pickT n m x.domain x.at_
 else if x.kind=3 then ((takeM m x.domain x.at_).1,[])
 else if x.kind=4 then (My m,[])
 else if x.kind=5 then ((if x.up.length=n.links.length then ⟨x.up,m.tables,m.queues,m.now,m.injected,m.drops⟩ else m),[])
 else (m,[])
def newT (n:Net):MacM:=⟨List.replicate n.links.length true,List.replicate n.domains.length [],List.replicate n.domains.length [],0,0,fun _=>0⟩
def B0 (n:Net):MacM→List StepM→MacM × List SeenM
 | m,[]=>(m,[])
 | m,x::l=>((B0 n (doT n m x).1 l).1,(doT n m x).2++(B0 n (doT n m x).1 l).2)
def By (e:Int):Prop:=0≤e∧e<64
def DomIn (n:Net) (d:Int):Prop:=0≤d∧d.toNat<n.domains.length
theorem Ev {n:Net} {d:Int} (h:Al d n.domains.length=true):DomIn n d:=by
 have:=Bd h
 unfold DomIn
 omega
theorem Vk (b:List UInt8):By (takeF b).2:=by
 unfold takeF By
 repeat' split
 all_goals (dsimp only;omega)
theorem Ag1 (f:FrameM):By (stripT f).2.2.2:=by
 unfold stripT By
 repeat' split
 all_goals (dsimp only;omega)
theorem Th (n:Net) (port:Int) (b:List UInt8):By (enterT n port b).2.2:=by
 have h1:=Vk b
 have h2:=Ag1 (takeF b).1
 have h3:∀ f tg v,By (Iw n port f tg v).2.2:=fun f tg v=>by
  unfold Iw By
  repeat' split
  all_goals (dsimp only;omega)
 unfold enterT
 split
 ·unfold By;dsimp only;omega
 split
 ·exact h1
 split
 ·split
  ·exact h2
  ·exact h3 _ _ _
 ·exact h3 _ _ _
theorem Abd (n:Net) (port:Int) (b:List UInt8):By (linkT n port b).2.2.2:=by
 unfold linkT
 split
 ·unfold By;dsimp only;omega
 ·exact Th _ _ _
theorem Aim (n:Net) (port dom:Int) (f:FrameM):By (leaveT n port dom f).2:=by
 unfold leaveT
 split
 ·unfold By;dsimp only;omega
 split
 ·unfold By;dsimp only;omega
 split
 ·unfold By;dsimp only;omega
 split
 ·unfold By;dsimp only;omega
 split
 ·show By (tagT f (nth n.domains dom).vlan).2
  unfold tagT By
  repeat' split
  all_goals (dsimp only;omega)
 ·unfold By;dsimp only;omega
theorem Aku (a b:Nat) (v:Int) (f:FrameM):By (wrapT a b v f).2:=by
 unfold wrapT By
 repeat' split
 all_goals (dsimp only;omega)
theorem Amb (n:Net) (dom peer:Int) (f:FrameM):By (meshT n dom peer f).2:=by
 unfold meshT
 split
 ·unfold By;dsimp only;omega
 split
 ·unfold By;dsimp only;omega
 ·exact Aku _ _ _ _
theorem Wr (b:List UInt8):By (ipTakeT b).2:=by
 unfold ipTakeT By
 repeat' split
 all_goals (dsimp only;omega)
theorem Ab8 (b:List UInt8):By (udpTakeT b).2.2.2:=by
 unfold udpTakeT By
 repeat' split
 all_goals (dsimp only;omega)
theorem Anc (b:List UInt8):By (vniT b).2.2:=by
 unfold vniT By
 repeat' split
 all_goals (dsimp only;omega)
theorem Ah3 (b:List UInt8):By (outerT b).2:=by
 unfold outerT
 split
 ·exact Vk _
 split
 ·unfold By;dsimp only;omega
 split
 ·exact Wr _
 ·unfold By;dsimp only;split<;>omega
theorem Aix (b:List UInt8):By (innerT b).2.2:=by
 unfold innerT
 split
 ·exact Ab8 _
 split
 ·unfold By;dsimp only;omega
 split
 ·exact Anc _
 split
 ·exact Vk _
 split
 ·unfold By;dsimp only;omega
 ·unfold By;dsimp only;omega
theorem Ad8 (b:List UInt8):By (unwrapT b).2.2.2.2:=by
 unfold unwrapT
 split
 ·exact Ah3 _
 split
 ·exact Aix _
 ·unfold By;dsimp only;omega
theorem Ab0 (n:Net) (b:List UInt8):By (comeT n b).2.2.2:=by
 unfold comeT
 split
 ·unfold By;dsimp only;omega
 split
 ·exact Ad8 _
 split
 ·unfold By;dsimp only;omega
 split
 ·unfold By;dsimp only;omega
 ·unfold By;dsimp only;omega
theorem Apj (n:Net) (irb:Int) (f:FrameM):By (hopT n irb f).2.2:=by
 unfold hopT
 split
 ·unfold By;dsimp only;omega
 split
 ·unfold By;dsimp only;omega
 split
 ·exact Wr _
 split
 ·unfold By;dsimp only;omega
 split
 ·unfold By;dsimp only;omega
 split
 ·unfold By;dsimp only;omega
 ·unfold By;dsimp only;omega
theorem Wz (n:Net) (fw:List Bool) (t:List EntryM) (dom:Int) (q:QueuedM) (now:Int):By (bridgeT n fw t dom q now).2.2:=by
 unfold bridgeT
 split
 ·unfold By;dsimp only;omega
 split
 ·split
  ·exact Apj _ _ _
  ·unfold By;dsimp only;omega
 ·unfold By;dsimp only;omega
theorem Akl {n:Net} {dev v:Int} (h:Ck n dev v=true):DomIn n (Zq n dev v):=by
 have h1:0≤Zq n dev v:=by simpa [Ck] using h
 have h2:Zq n dev v<n.domains.length:=I3 _ _
 exact⟨h1,by omega⟩
theorem And {n:Net} (hb:Ag n=true) {port:Int} (hp:Al port n.ports.length=true) {tg:Bool} {vid:Int} (h:(vlanT (nth n.ports port) tg vid).2=true):DomIn n (Zq n (nth n.ports port).dev (vlanT (nth n.ports port) tg vid).1):=by
 have hk:=Bd hp
 have hk2:port.toNat<n.ports.length:=by omega
 simp only[Ag,Bool.and_eq_true]at hb
 have hpb:=allB_iff.1 hb.1.1.1.1.1.2 _ hk2
 rw[Ao hk2]at h ⊢
 generalize n.ports[port.toNat]=p at *
 simp only[Eu,Bool.and_eq_true]at hpb
 obtain ⟨⟨⟨⟨⟨⟨⟨⟨g1,g2⟩,g3⟩,g4⟩,g5⟩,g6⟩,g7⟩,g8⟩,g9⟩:=hpb
 unfold vlanT at h ⊢
 split
 ·rw[if_pos (by assumption)]at h
  have h1:p.native≠0:=by simpa using h
  have h2:0≤p.native:=by simpa using g2
  refine Akl ?_
  have h3:decide (0<p.native)=true:=by simp;omega
  rw[h3,Bool.true_and]at g8
  simpa using g8
 ·rw[if_neg (by assumption)]at h
  split
  ·rename_i h4
   have h5:vid∈p.tagged:=inB_mem.1 h4
   obtain ⟨i,hi,rfl⟩:=List.mem_iff_getElem.1 h5
   exact Akl (allB_iff.1 g7 i hi)
  ·rw[if_neg (by assumption)]at h
   cases h
theorem Ti {n:Net} {port:Int} {b:List UInt8} (h:(enterT n port b).2.2=0):DomIn n (enterT n port b).1:=by
 unfold enterT at h ⊢
 split
 ·rw[if_pos (by assumption)]at h;cases h
 rename_i hc
 rw[if_neg hc]at h
 have hp:Al port n.ports.length=true:=by cases hx:Al port n.ports.length;exact absurd (.inl hx) hc;rfl
 have hb:Ag n=true:=by cases hx:Ag n;exact absurd (.inr hx) hc;rfl
 have key:∀ f tg v,(Iw n port f tg v).2.2=0→DomIn n (Iw n port f tg v).1:=fun f tg v h=>by
  unfold Iw at h ⊢
  split
  ·rw[if_pos (by assumption)]at h;cases h
  rw[if_neg (by assumption)]at h
  split
  ·rw[if_pos (by assumption)]at h;cases h
  rename_i h5
  show DomIn n (K6 n _ _)
  rw[K6,if_pos hb]
  exact And hb hp (by simpa using h5)
 split
 ·rename_i h2
  rw[if_pos h2]at h
  exact absurd h h2
 rename_i h2
 rw[if_neg h2]at h
 split
 ·rename_i h3
  rw[if_pos h3]at h
  split
  ·rename_i h4
   rw[if_pos h4]at h
   exact absurd h h4
  ·rename_i h4
   rw[if_neg h4]at h
   exact key _ _ _ h
 ·rename_i h3
  rw[if_neg h3]at h
  exact key _ _ _ h
theorem Abe {n:Net} {port:Int} {b:List UInt8} (h:(linkT n port b).2.2.2=0):DomIn n (linkT n port b).2.1:=by
 unfold linkT at h ⊢
 split
 ·rw[if_pos (by assumption)]at h;cases h
 ·rename_i h2
  rw[if_neg h2]at h
  exact Ti h
theorem Ys {n:Net} (hb:Ag n=true) {dom:Nat} (hd:dom<n.domains.length) {k:Int} (hk:k∈n.domains[dom].peers):DomIn n k:=by
 simp only[Ag,Bool.and_eq_true]at hb
 have:=allB_iff.1 hb.1.1.1.1.1.1.2 _ hd
 obtain ⟨i,hi,rfl⟩:=List.mem_iff_getElem.1 hk
 have h2:=allB_iff.1 this i hi
 simp only[Ou,Bool.and_eq_true]at h2
 exact Ev h2.1.1.1.1.1.1.1.1.1
theorem Ap3 {n:Net} (hb:Ag n=true) {src dst:Nat} {vni:Int} (h:¬ (endsT n src dst vni).1<0):DomIn n (endsT n src dst vni).1∧DomIn n (endsT n src dst vni).2:=by
 unfold endsT at h ⊢
 dsimp only at h ⊢
 split
 ·rw[if_pos (by assumption)]at h;exact absurd qz h
 rename_i h1
 rw[if_neg h1]at h
 split
 ·rw[if_pos (by assumption)]at h;exact absurd qz h
 rename_i h2
 have hd:=I3 (fun d:Domain=>decide (d.dev=Dh (fun d:Device=>decide (d.vtep=(dst:Int))) n.devices) && decide (d.vni=vni)) n.domains
 generalize Dh (fun d:Domain=>decide (d.dev=Dh (fun d:Device=>decide (d.vtep=(dst:Int))) n.devices) && decide (d.vni=vni)) n.domains=dom at *
 have hd2:dom.toNat<n.domains.length:=by omega
 have hi:=I3 (fun k:Int=>decide (Er n k=(src:Int))) (nth n.domains dom).peers
 generalize Dh (fun k:Int=>decide (Er n k=(src:Int))) (nth n.domains dom).peers=i at *
 rw[Ao hd2]at hi ⊢
 have hi2:i.toNat<(n.domains[dom.toNat]).peers.length:=by omega
 refine⟨?_,⟨by dsimp only;omega,hd2⟩⟩
 show DomIn n (nth (n.domains[dom.toNat]).peers i)
 rw[Ao hi2]
 exact Ys hb hd2 (List.getElem_mem hi2)
theorem V5 {n:Net} {b:List UInt8} (h:(comeT n b).2.2.2=0):DomIn n (comeT n b).1∧DomIn n (comeT n b).2.1:=by
 unfold comeT at h ⊢
 split
 ·rw[if_pos (by assumption)]at h;cases h
 rename_i hb
 rw[if_neg hb]at h
 split
 ·rename_i h2
  rw[if_pos h2]at h;exact absurd h h2
 rename_i h2
 rw[if_neg h2]at h
 split
 ·rw[if_pos (by assumption)]at h;cases h
 rename_i h3
 rw[if_neg h3]at h
 split
 ·rw[if_pos (by assumption)]at h;cases h
 exact Ap3 (by simpa using hb) h3
theorem Apk {n:Net} {irb:Int} {f:FrameM} (hin:∀ (d:Int),(lookT n irb d).2=true→0≤(lookT n irb d).1∧(lookT n irb d).1.toNat<n.irbs.length) (h:(hopT n irb f).2.2=0):DomIn n (hopT n irb f).1:=by
 unfold hopT at h ⊢
 split
 ·rw[if_pos (by assumption)]at h;cases h
 rename_i h1
 rw[if_neg h1]at h
 split
 ·rw[if_pos (by assumption)]at h;cases h
 rename_i h2
 rw[if_neg h2]at h
 split
 ·rename_i h3
  rw[if_pos h3]at h;exact absurd h h3
 rename_i h3
 rw[if_neg h3]at h
 split
 ·rw[if_pos (by assumption)]at h;cases h
 rename_i h4
 rw[if_neg h4]at h
 split
 ·rw[if_pos (by assumption)]at h;cases h
 rename_i h5
 rw[if_neg h5]at h
 split
 ·rw[if_pos (by assumption)]at h;cases h
 have hl:=hin ((ipTakeT f.body).1.dst:Int) (by simpa using h5)
 have hb:Ag n=true:=by cases hx:Ag n;exact absurd (.inr hx) h1;rfl
 have:=(Da hb hl.2).1
 show DomIn n (nth n.irbs _).domain
 rw[Ao hl.2]
 exact this
structure TabOK (t:List EntryM):Prop where
 short:Ar t
 mac:∀ e∈t,e.mac<18446744073709551616
 wh:∀ e∈t,I64 e.where_
structure QueuedOK (q:QueuedM):Prop where
 frame:FrameOK q.frame
 from_:-2≤q.from_∧q.from_<1099511627776
 peer:0≤q.peer∧q.peer<1099511627776
def Ei (l:List QueuedM):Prop:=l.length≤64∧∀ q∈l,QueuedOK q
structure MacOK (n:Net) (m:MacM) (J D:Int):Prop where
 up:m.up.length=n.links.length
 tabs:m.tables.length=n.domains.length
 ques:m.queues.length=n.domains.length
 tab:∀ t∈m.tables,TabOK t
 que:∀ l∈m.queues,Ei l
 now:0≤m.now∧m.now≤1099511627776
 inj:0≤m.injected∧m.injected≤J
 drp:∀ i,0≤m.drops i∧m.drops i≤D
theorem Dn {f:FrameM} (hf:FrameOK f) {a b:Int} (c:Int) (h1:-2≤a∧a<1099511627776) (h2:0≤b∧b<1099511627776):QueuedOK ⟨a,b,c,f⟩:=⟨hf,h1,h2⟩
theorem Aoz:QueuedOK noQ:=⟨Dz,by decide,by decide⟩
theorem Vs:TabOK []:=⟨by unfold Ar;decide,fun _ h=>(by cases h),fun _ h=>(by cases h)⟩
theorem Wn:Ei []:=⟨by decide,fun _ h=>(by cases h)⟩
theorem Xi {α:Type} {l:List α} {i:Nat} {x y:α} (h:y∈l.set i x):y=x∨y∈l:=by
 rcases List.mem_or_eq_of_mem_set h with h | h
 ·exact .inr h
 ·exact .inl h
theorem O7 {α:Type} {l:List α} {i:Nat} {d:α} (h:i<l.length):(l[i]?).getD d∈l:=by
 rw[List.getElem?_eq_getElem h]
 exact List.getElem_mem h
theorem Cz {n:Net} {m:MacM} {J D:Int} (h:MacOK n m J D) (dom:Int):Ei (queueL m dom):=by
 unfold queueL
 by_cases hd:dom.toNat<m.queues.length
 ·exact h.que _ (O7 hd)
 ·rw[List.getElem?_eq_none qn];exact Wn
theorem Lk {n:Net} {m:MacM} {J D:Int} (h:MacOK n m J D) (dom:Int):TabOK (tableL m dom):=by
 unfold tableL
 by_cases hd:dom.toNat<m.tables.length
 ·exact h.tab _ (O7 hd)
 ·rw[List.getElem?_eq_none qn];exact Vs
theorem MacOK.mono {n:Net} {m:MacM} {J D J' D':Int} (h:MacOK n m J D) (h1:J≤J') (h2:D≤D'):MacOK n m J' D' :=
 ⟨h.up,h.tabs,h.ques,h.tab,h.que,h.now,⟨h.inj.1,by have:=h.inj.2;omega⟩,fun i=>⟨(h.drp i).1,by have:=(h.drp i).2;omega⟩⟩
theorem Qa {n:Net} {m:MacM} {J D:Int} (h:MacOK n m J D) (hD:0≤D) (e:Int):MacOK n (Bf m e) J (D+1):=by
 refine⟨h.up,h.tabs,h.ques,h.tab,h.que,h.now,h.inj,fun i=>?_⟩
 have:=h.drp i
 show 0≤(if i=e.toNat then m.drops i+1 else m.drops i)∧(if i=e.toNat then m.drops i+1 else m.drops i)≤D+1
 split<;>omega
theorem Ajx {n:Net} {m:MacM} {J D:Int} (h:MacOK n m J D) (dom:Int) {l:List QueuedM} (hl:Ei l):MacOK n (Acg m dom l) J D:=by
 refine⟨h.up,h.tabs,by rw[Acg];simp[h.ques],h.tab,fun x hx=>?_,h.now,h.inj,h.drp⟩
 rcases Xi hx with rfl | hx
 ·exact hl
 ·exact h.que x hx
theorem Acf {n:Net} {m:MacM} {J D:Int} (h:MacOK n m J D) (dom:Int) {l:List EntryM} (hl:TabOK l):MacOK n (Bv m dom l) J D:=by
 refine⟨h.up,by rw[Bv];simp[h.tabs],h.ques,fun x hx=>?_,h.que,h.now,h.inj,h.drp⟩
 rcases Xi hx with rfl | hx
 ·exact hl
 ·exact h.tab x hx
theorem Aoh {l:List QueuedM} (hl:Ei l) {q:QueuedM} (hq:QueuedOK q):Ei (pushT l q).1:=by
 unfold pushT
 split
 ·exact hl
 ·refine⟨by simp;omega,fun x hx=>?_⟩
  rcases List.mem_append.1 hx with hx | hx
  ·exact hl.2 x hx
  ·rw[List.mem_singleton.1 hx];exact hq
theorem Anj {l:List QueuedM} (hl:Ei l) (at_:Int):QueuedOK (takeT l at_).1∧Ei (takeT l at_).2.1:=by
 unfold takeT
 split
 ·exact⟨Aoz,hl⟩
 ·rename_i h
  refine⟨hl.2 _ (O7 qn),?_,fun x hx=>hl.2 x (List.mem_of_mem_eraseIdx hx)⟩
  have:=List.length_eraseIdx_le l at_.toNat
  have:=hl.1
  show (l.eraseIdx at_.toNat).length≤64
  omega
theorem U9 {n:Net} {m:MacM} {J D:Int} (h:MacOK n m J D) (hD:0≤D) (dom:Int) {q:QueuedM} (hq:QueuedOK q) (e:Int):MacOK n (comeM m dom q e) J (D+1):=by
 unfold comeM
 split
 ·exact Qa h hD e
 split
 ·exact(Ajx h dom (Aoh (Cz h dom) hq)).mono (Int.le_refl _) qn
 ·exact Qa h hD 3
theorem Tv {n:Net} {m:MacM} {J D:Int} (h:MacOK n m J D) (dom at_:Int):MacOK n (takeM m dom at_).1 J D∧QueuedOK (takeM m dom at_).2.1:=by
 unfold takeM
 split
 ·exact⟨h,Aoz⟩
 ·have:=Anj (Cz h dom) at_
  exact⟨Ajx h dom this.2,this.1⟩
theorem Aiy {n:Net} (hn:n.Fin) {m:MacM} {J D:Int} (h:MacOK n m J D) (hJ:0≤J) (hD:0≤D) (port:Int) (b:List UInt8):MacOK n (injectT n m port b) (J+1) (D+1):=by
 unfold injectT
 split
 ·exact h.mono qn qn
 ·rename_i hc
  have hp:Al port n.ports.length=true:=by cases hx:Al port n.ports.length;exact absurd (.inl hx) hc;rfl
  have hpi:=Bd hp
  have hs:=hn.ports
  unfold Ar at hs
  have h1:=h.inj
  have hm:MacOK n ⟨m.up,m.tables,m.queues,m.now,m.injected+1,m.drops⟩ (J+1) D:=⟨h.up,h.tabs,h.ques,h.tab,h.que,h.now,(by show 0≤m.injected+1∧m.injected+1≤J+1;omega),h.drp⟩
  exact U9 hm hD _ (Dn (Q0 _ _ _) _ qn qn) _
structure OutOK (n:Net) (o:OutM):Prop where
 kind:1≤o.kind∧o.kind≤5
 bytes:o.bytes.length≤1518
 frame:o.kind=4→FrameOK o.frame∧DomIn n o.domain
 err:o.kind=5→By o.error
theorem Al1 {n:Net} (hn:n.Fin) (port:Int):-1≤Eb n port∧Eb n port<2147483648:=by
 unfold Eb
 split
 ·rename_i h
  obtain ⟨⟨h1,h2⟩,h3,hb⟩:=h
  have hk:port.toNat<n.ports.length:=by omega
  rw[Ao hk]at h3 ⊢
  have hl:=(K5 hb hk h3).1
  rw[Ao hl]
  simp only[Ag,Bool.and_eq_true]at hb
  have hlb:=allB_iff.1 hb.1.1.1.1.2 _ hl
  simp only[Ki,Bool.and_eq_true]at hlb
  have ha:=Bd hlb.1.1.1.1
  have hb2:=Bd hlb.1.1.1.2
  have hs:=hn.ports
  unfold Ar at hs
  split<;>omega
 ·omega
theorem Yw {n:Net} (hn:n.Fin) (port:Int) (b:List UInt8):0≤(linkT n port b).1∧(linkT n port b).1<1099511627776:=by
 have:=Al1 hn port
 unfold linkT
 split<;>dsimp only<;>omega
theorem Tp {n:Net} (hn:n.Fin) (b:List UInt8):0≤(comeT n b).1∧(comeT n b).1<1099511627776:=by
 by_cases h:(comeT n b).2.2.2=0
 ·have:=(V5 h).1
  have hs:=hn.domains
  unfold Ar at hs
  unfold DomIn at this
  omega
 ·unfold comeT at h ⊢
  split
  ·decide
  rename_i h1
  rw[if_neg h1]at h
  split
  ·exact⟨Int.le_refl _,by dsimp only;omega⟩
  rename_i h1
  rw[if_neg h1]at h
  split
  ·decide
  rename_i h1
  rw[if_neg h1]at h
  split
  ·decide
  rename_i h1
  rw[if_neg h1]at h
  exact absurd E h
theorem Apw {n:Net} (hn:n.Fin) {m:MacM} {J D:Int} (h:MacOK n m J D) (hD:0≤D) {o:OutM} (ho:OutOK n o) (origin:Int):MacOK n (goesM n m o origin).1 J (D+1):=by
 unfold goesM
 split
 ·exact h.mono (Int.le_refl _) qn
 split
 ·have:=Yw hn o.port o.bytes
  exact U9 h hD _ (Dn (Yx _ _ _) _ qn qn) _
 split
 ·exact U9 h hD _ (Dn (Zs _ _) _ qn (Tp hn o.bytes)) _
 split
 ·rename_i h4
  exact U9 h hD o.domain (Dn (a:=-2) (b:=0) (ho.frame h4).1 origin qz qz) 0
 ·exact Qa h hD _
theorem Jf {n:Net} (hn:n.Fin) (origin:Int):∀ (l:List OutM) {m:MacM} {J D:Int},MacOK n m J D→0≤D→(∀ o∈l,OutOK n o)→MacOK n (Ba n m origin l).1 J (D+l.length)
 | [],m,J,D,h,_,_=>by
  rw[Ba]
  exact h.mono (Int.le_refl _) za
 | o::l,m,J,D,h,hD,ho=>by
  rw[Ba]
  have:=Jf hn origin l (Apw hn h hD (ho o za) origin) qn (fun x hx=>ho x (by simp[hx]))
  exact this.mono (Int.le_refl _) (by simp only[List.length_cons];omega)
theorem Afm {n:Net} {o:OutM} {r:List UInt8 × Int} (hk:1≤o.kind∧o.kind≤3) (hr:r.1.length≤1518) (he:By r.2):OutOK n (D4 o r):=by
 unfold D4
 split
 ·exact⟨⟨by dsimp only;omega,by dsimp only;omega⟩,by simp,fun h=>absurd h (by dsimp only;omega),fun _=>he⟩
 ·exact⟨⟨hk.1,by have:=hk.2;dsimp only;omega⟩,hr,fun h=>by have:=hk.2;dsimp only at h;omega,fun h=>by have:=hk.2;dsimp only at h;omega⟩
theorem Amd {t:List EntryM} (h:TabOK t) {m:Nat} (hm:m<18446744073709551616) {wh:Int} (hw:I64 wh) (now:Int):TabOK (learnT t m wh now):=by
 have hs:=h.short
 unfold Ar at hs
 have key:∀ e:EntryM,e∈learnT t m wh now→e∈t∨e=⟨m,wh,now⟩:=fun e he=>by
  unfold learnT at he
  split at he
  ·exact .inl he
  split at he
  ·rcases Xi he with h | h
   ·exact .inr h
   ·exact .inl h
  ·rcases List.mem_append.1 he with h | h
   ·split at h
    ·exact .inl (List.mem_of_mem_eraseIdx h)
    ·exact .inl h
   ·exact .inr (List.mem_singleton.1 h)
 refine⟨?_,fun e he=>?_,fun e he=>?_⟩
 ·unfold learnT
  split
  ·exact h.short
  rename_i hb
  have h8:t.length≤8:=by
   have:tableB t=true:=by cases hx:tableB t;exact absurd (.inl hx) hb;rfl
   simp only[tableB,Bool.and_eq_true,decide_eq_true_eq]at this
   exact this.1
  split
  ·unfold Ar;simp;omega
  ·unfold Ar
   split
   ·have:=List.length_eraseIdx_le t (oldestU t t.length)
    simp only[List.length_append,List.length_cons,List.length_nil]
    omega
   ·simp only[List.length_append,List.length_cons,List.length_nil]
    omega
 ·rcases key e he with h1 | rfl
  ·exact h.mac e h1
  ·exact hm
 ·rcases key e he with h1 | rfl
  ·exact h.wh e h1
  ·exact hw
theorem Lw {t:List EntryM} (h:TabOK t) {q:QueuedM} (hq:QueuedOK q) (now:Int):TabOK (learnQ t q now):=by
 unfold learnQ
 split
 ·exact h
 ·have hs:=hq.frame.src
  refine Amd h qn ?_ now
  have h1:=hq.from_
  have h2:=hq.peer
  unfold I64
  split<;>omega
theorem Asd {t:List EntryM} (h:TabOK t) (now:Int):TabOK (ageT t now):=by
 unfold ageT
 split
 ·exact h
 ·have hs:=h.short
  unfold Ar at hs
  refine⟨?_,fun e he=>h.mac e (List.mem_filter.1 he).1,fun e he=>h.wh e (List.mem_filter.1 he).1⟩
  unfold Ar
  exact Nat.lt_of_le_of_lt (List.length_filter_le _ _) hs
theorem Afh (n:Net) (dom:Int):(A0 n dom).length≤n.ports.length:=by
 rw[A0]
 have:=Eh (Jd n (nth n.domains dom)) n.ports.length
 exact this
end Go.Sy.YtmelpejjondedaaGreat
namespace Go.Sy
theorem Akt {C:Cx} {kk:List KI} {s:SS} (q:Nat) (r:List Nat) {sz:Nat} {α:Type} {e:α→SV} {l:List α} (h:s.h q=.row sz e l) (hl:l≠[]) (hr:∀ i∈r,s.σ i=.osl q)
  (hg:∀ b cap,l.length≤cap→G C kk ⟨freezeσ s.σ (.val (.slice (some ⟨b,0,none⟩) l.length cap)) r,upd s.h q (.pin b l.length cap sz e l)⟩):G C kk s:=fun κ a w hs=>by
 have hob:=hs.obj q
 rw[h]at hob
 rcases hob with ⟨_,h1⟩ | hrow
 ·exact absurd h1 hl
 obtain ⟨b,cap,cs,T,fr,e1,e2,e3,e4,e5,e6⟩:=hrow
 refine hg b cap e5 κ a w ⟨hs.defers,hs.size,hs.inv,hs.ctx,fun i=>?_,fun j=>?_⟩
 ·refine freezeσ_ok r _ i (hs.slot i) (fun hi=>?_)
  have:=hs.slot i
  rw[hr i hi]at this
  simp only[Rd,e1]at this
  simp only[Rd]
  exact this
 ·show ObOK κ w j (upd s.h q _ j)
  by_cases hj:j=q
  ·subst hj;rw[Bq];exact⟨e1,b,cap,cs,T,fr,e1,e2,e3,e4,e5,e6⟩
  ·rw[Cd _ _ hj];exact hs.obj j
theorem Xp {C:Cx} {kk:List KI} {s:SS} (q d:Nat) (r:List Nat) (m:Nat) {b n cap sz:Nat} {α:Type} {e:α→SV} {l:List α} (h:s.h q=.pin b n cap sz e l) (hd:s.h d=.fresh) (hm:m≤l.length)
  (hr:∀ i∈r,s.σ i=.val (.slice (some ⟨b,0,none⟩) m cap)) (hg:G C kk ⟨freezeσ s.σ (.osl d) r,upd (upd s.h q .non) d (.row sz e (l.take m))⟩):G C kk s:=fun κ a w hs=>by
 have hob:=hs.obj q
 rw[h]at hob
 have hnew:κ d=.new:=by have:=hs.obj d;rwa [hd]at this
 obtain ⟨e0,b',cap',cs,T,fr,e1,e2,e3,e4,e5,e6⟩:=hob
 rw[e0]at e1
 cases e1
 have hln:l.length≤n:=by
  by_cases h0:l.length=0
  ·omega
  ·have:=(e6 (l.length-1) _ ⟨by omega,rfl⟩).1
   omega
 obtain ⟨st,inv⟩:=Ll (n':=m) (w':=w) hs.inv e0 hnew rfl rfl rfl rfl (fun _ _=>rfl)
 have hlt:(l.take m).length=m:=by rw[List.length_take];omega
 refine hg _ a w ⟨hs.defers,hs.size,inv,hs.ctx.step inv st,fun j=>?_,fun j=>?_⟩
 ·refine freezeσ_ok r _ j (Rd.step st _ _ (hs.slot j)) (fun hj=>?_)
  have:=hs.slot j
  rw[hr j hj]at this
  simp only[Rd]at this
  simp[Rd,Ax,this]
 ·show ObOK _ w j (upd (upd s.h q .non) d _ j)
  by_cases hj:j=d
  ·subst hj;rw[Bq]
   refine .inr ⟨b,cap,cs,T,fr,by rw[Ax,hlt],e2,e3,e4,by omega,fun i x hx=>?_⟩
   obtain ⟨hi,rfl⟩:=hx
   obtain ⟨_,u,q2,q3⟩:=e6 i (e l[i]) ⟨by omega,rfl⟩
   refine⟨hi,u,?_,q3⟩
   rw[List.getElem_take]
   exact RdD.keep st.keeps _ _ q2
  ·rw[Cd _ _ hj]
   by_cases hj2:j=q
   ·subst hj2;rw[Bq];trivial
   ·rw[Cd _ _ hj2];exact ObOK.step st (fun e=>e.elim hj2 hj) _ (hs.obj j)
theorem C9 {P:Program} (Γ:Ty P) {o:Oper} {s:SS} {t:TypeId} {ti:TI} {et:TypeId} {sz eb b n cap lo hi:Nat} {ez:List Value} {x:Operand} {lx hx:Option Operand}
  (h:o.op=.slice t x lx hx none) (ht:Γ.get t=some ti) (hk:ti.k=.slice et sz eb ez) (hxe:ev s x=.val (.slice (some ⟨b,0,none⟩) n cap)) (hlo:BoundIs s lx 0 lo) (hhi:BoundIs s hx n hi) (h1:lo≤hi) (h2:hi≤cap) :
  Good P o s ⟨.val (.slice (some (if cap=lo then ⟨b,0,none⟩ else ⟨b,lo * sz,none⟩)) (hi-lo) (cap-lo)),[],[]⟩ :=
 Good.pure fun κ a w _ hr _=>by
  have r1:=hr x (by simp[h,Op.operands])
  rw[hxe]at r1
  obtain ⟨hu,i,zv,q1,q2,q3,q4,q5⟩:=Ce Γ ht hk
  have b1:=hlo.val (a:=a) (fun y hy=>hr y (by simp[h,Op.operands,hy]))
  have b2:=hhi.val (a:=a) (fun y hy=>hr y (by simp[h,Op.operands,hy]))
  have hb:=Hj (P:=P) w (len:=n) (cap:=cap) b1 b2 h1 h2
  refine⟨.slice (some (if cap=lo then ⟨b,0,none⟩ else ⟨b,lo * sz,none⟩)) (hi-lo) (cap-lo),?_,by simp only[Rd]⟩
  by_cases hc:cap=lo
  ·subst hc
   simp[execOp,h,r1.val,Instr.sliceAt,Instr.slice,run_underlying hu,hb,sizeOf,typeInfo,q1]
  ·simp[execOp,h,r1.val,Instr.sliceAt,Instr.slice,run_underlying hu,hb,sizeOf,typeInfo,q1,q2,hc,Addr.add_lit]
theorem Aah {P:Program} (Γ:Ty P) {o:Oper} {s:SS} {t:TypeId} {ti:TI} {et:TypeId} {sz eb b n cap lo hi mm:Nat} {ez:List Value} {x:Operand} {lx hx mx:Operand} {k1 k2 k3:IntKind}
  (h:o.op=.slice t x (some lx) (some hx) (some mx)) (ht:Γ.get t=some ti) (hk:ti.k=.slice et sz eb ez) (hxe:ev s x=.val (.slice (some ⟨b,0,none⟩) n cap)) (hlo:ev s lx=.val (.int k1 lo)) (hhi:ev s hx=.val (.int k2 hi)) (hmx:ev s mx=.val (.int k3 mm))
  (h1:lo≤hi) (h2:hi≤mm) (h3:mm≤cap):Good P o s ⟨.top,[],[]⟩ :=
 Good.pure fun κ a w _ hr _=>by
  have r1:=hr x (by simp[h,Op.operands])
  have r2:=hr lx (by simp[h,Op.operands])
  have r3:=hr hx (by simp[h,Op.operands])
  have r4:=hr mx (by simp[h,Op.operands])
  rw[hxe]at r1
  rw[hlo]at r2
  rw[hhi]at r3
  rw[hmx]at r4
  obtain ⟨hu,i,zv,q1,q2,q3,q4,q5⟩:=Ce Γ ht hk
  have hb:(Instr.sliceBounds true n cap (some (a.eval lx)) (some (a.eval hx)) (some (a.eval mx))).run P w=.ok (lo,hi,mm) w:=by
   rw[r2.val,r3.val,r4.val]
   simp[Instr.sliceBounds,Instr.sliceBound,asIntOf,h1,h2,h3]
  refine⟨.slice (some (if mm=lo then ⟨b,0,none⟩ else ⟨b,lo * sz,none⟩)) (hi-lo) (mm-lo),?_,by simp only[Rd,RdD]⟩
  by_cases hc:mm=lo
  ·subst hc
   simp[execOp,h,r1.val,Instr.sliceAt,Instr.slice,run_underlying hu,hb,sizeOf,typeInfo,q1]
  ·simp[execOp,h,r1.val,Instr.sliceAt,Instr.slice,run_underlying hu,hb,sizeOf,typeInfo,q1,q2,hc,Addr.add_lit]
theorem Oa {κ:Ka} {w w':World} {k b n cap:Nat} (hi:Inv κ w) (hk:κ k=.row b n cap) (hos:w'.os=w.os) (ht:w'.tape=w.tape) (ho:w'.output=w.output)
  (hs:w'.heap.size=w.heap.size) (hb:∀ i,i≠b→w'.heap[i]? = w.heap[i]?):Step (fun j=>j=k) κ w κ w'∧Inv κ w':=by
 have hkb:(κ k).block? = some b:=by rw[hk];rfl
 refine⟨⟨by omega,hos,ht,ho,E,fun c hm=>hb c (fun e=>hi.apart k b hkb (e ▸ hm)),fun c _ hn=>hb c (fun e=>hn (.inl ⟨k,e ▸ hkb⟩)),fun j c hj hjc=>hb c (fun e=>hj ?_),fun _ _=>rfl,fun _ _=>.inr (.inl E),fun _ h=>.inl h⟩,
  ⟨hi.inj,fun j c h=>by rw[hs];exact hi.bnd j c h,hi.apart,fun c h=>by rw[hs];exact hi.mbnd c h⟩⟩
 subst e
 exact hi.inj j k _ hjc hkb
theorem Aem {cs:List Value} {sz n:Nat} (h:∀ i,i<n→∃ u:Value,u.cells.size=sz∧Ones u.cells.toList∧∀ j,j<sz→cs[i * sz+j]? = u.cells[j]?) {p:Nat} (hp:p<n * sz) {v:Value} (hv:cs[p]? = some v):v.oneCell'=true:=by
 have h0:0<sz:=by
  rcases Nat.eq_zero_or_pos sz with rfl | h
  ·simp at hp
  ·exact h
 obtain ⟨u,h1,h2,h3⟩:=h (p / sz) (Nat.div_lt_of_lt_mul (by rw[Nat.mul_comm];exact hp))
 have h4:=h3 (p % sz) (Nat.mod_lt _ h0)
 rw[Nat.mul_comm,Nat.div_add_mod,hv]at h4
 obtain ⟨hl,he⟩:=Array.getElem?_eq_some_iff.1 h4.symm
 refine h2 v ?_
 rw[← he]
 exact Array.getElem_mem_toList hl
theorem Xb {P:Program} (Γ:Ty P) {o:Oper} {s:SS} (q:Nat) {t:TypeId} {ti:TI} {et:TypeId} {sz eb b n cap i j:Nat} {ez:List Value} {x y:Operand} {α:Type} {e:α→SV} {l:List α} {B:Option Addr} {c:Nat}
  (h:o.op=.call ⟨.builtin .append,#[x,y],#[t,t]⟩) (ht:Γ.get t=some ti) (hk:ti.k=.slice et sz eb ez) (hx:ev s x=.val (.slice (some ⟨b,0,none⟩) i cap))
  (hy:ev s y=.val (.slice B (n-j) c)) (hB:B=some (if cap=j then ⟨b,0,none⟩ else ⟨b,j * sz,none⟩)) (hob:s.h q=.pin b n cap sz e l) (hl:l.length=n) (hij:i≤j) (hj:j≤n) :
  Good P o s ⟨.val (.slice (some ⟨b,0,none⟩) (i+(n-j)) cap),[],[(q,.pin b n cap sz e (l.take i++l.drop j))]⟩:=by
 intro κ a w hinv hr ho N Q hN
 have r1:=hr x (by simp[h,Op.operands,Call.operands])
 have r2:=hr y (by simp[h,Op.operands,Call.operands])
 rw[hx]at r1
 rw[hy]at r2
 subst hB
 have hq:=ho q (.inr (by simp[Up.ws]))
 rw[hob]at hq
 obtain ⟨e0,b',cap',cs,T,fr,e1,e2,e3,e4,e5,e6⟩:=hq
 rw[e0]at e1
 cases e1
 obtain ⟨hu,ii,zv,q1,q2,q3,q4,q5⟩:=Ce Γ ht hk
 have hall:∀ i,i<n→∃ u:Value,u.cells.size=sz∧Ones u.cells.toList∧∀ j,j<sz→cs[i * sz+j]? = u.cells[j]?:=fun i hi=>by
  obtain ⟨_,u,_,u2⟩:=e6 i (e l[i]) ⟨by omega,rfl⟩
  exact⟨u,u2⟩
 obtain ⟨news,hnews⟩:∃ news,news=(cs.drop (j * sz)).take ((n-j) * sz):=⟨_,rfl⟩
 have hmul:(n-j) * sz+j * sz=n * sz:=by rw[← Nat.add_mul];congr 1;omega
 have hnc:n * sz≤cap * sz:=Nat.mul_le_mul_right sz e5
 have hijs:i * sz≤j * sz:=Nat.mul_le_mul_right sz hij
 have hnl:news.length=(n-j) * sz:=by rw[hnews,List.length_take,List.length_drop];omega
 have hget:∀ p,p<(n-j) * sz→news[p]? = cs[j * sz+p]?:=fun p hp=>by
  rw[hnews,List.getElem?_take,if_pos hp,List.getElem?_drop]
 have hones:Ones news:=fun v hv=>by
  obtain ⟨p,hp,he⟩:=List.getElem_of_mem hv
  have h1:news[p]? = some v:=by rw[List.getElem?_eq_getElem hp,he]
  rw[hnl]at hp
  rw[hget p hp]at h1
  exact Aem hall qn h1
 obtain ⟨w',f1,f2,f3,f4,f5,f6,f7⟩:=Cq P b (i * sz) T fr news 0 cs w e2 e3 qn hones
 obtain ⟨st,inv⟩:=Oa hinv e0 f3 f4 f5 f6 f7
 have hroom:i+(n-j)≤cap:=by omega
 have hcell:∀ p v,cs[p]? = some v→w.cell? ⟨b,p,none⟩=some v:=fun p v hp=>by
  simp[World.cell?,e2,hp]
 have hc:(Builtin.firstCells sz (n-j) (.slice (some (if cap=j then ⟨b,0,none⟩ else ⟨b,j * sz,none⟩)) (n-j) c)).run P w=.ok news.toArray w:=by
  by_cases hcj:cap=j
  ·have h0:n-j=0:=by omega
   rw[if_pos hcj,h0]
   have h1:news=[]:=by rw[h0]at hnl;simpa using hnl
   rw[h1]
   exact run_firstCells_some (P:=P) w sz 0 ⟨b,0,none⟩ 0 c [] za (fun j v hj=>by simp at hj)
  ·rw[if_neg hcj]
   refine run_firstCells_some (P:=P) w sz (n-j) ⟨b,j * sz,none⟩ (n-j) c news hnl (fun p v hp=>?_)
   rw[Addr.add_lit]
   have hlt:p<(n-j) * sz:=by
    rw[← hnl];exact(List.getElem?_eq_some_iff.1 hp).1
   rw[hget p hlt]at hp
   exact hcell _ _ hp
 have hrun:(execOp a.eval o).run P w=.ok (.value (.slice (some ⟨b,0,none⟩) (i+(n-j)) cap)) w':=by
  simp[execOp,h,resolve,invoke,builtin,Builtin.append_,r1.val,r2.val,run_underlying hu,sizeOf,typeInfo,q1,q2,Builtin.lenOf,hroom,hc,Addr.add_lit,f1]
 simp only[Oper.wp,hrun,Oper.upon]
 refine hN _ κ w' (st.weaken (fun k hk=>by subst hk;simp[Up.ws])) inv (by simp only[Rd]) (fun p hp=>?_)
 simp only[List.mem_singleton]at hp
 subst hp
 refine⟨e0,b,cap,_,T,fr,e0,f2,by rw[B4];exact e3,by rw[B4];exact e4,e5,?_⟩
 rintro k z ⟨hk0,rfl⟩
 have hset:=J2 cs news (i * sz+0)
 have hlen:(l.take i++l.drop j).length=i+(n-j):=by rw[List.length_append,List.length_take,List.length_drop];omega
 rw[hlen]at hk0
 by_cases hki:k<i
 ·obtain ⟨_,u,u1,u2,u3,u4⟩:=e6 k (e l[k]) ⟨by omega,rfl⟩
  have:(k+1) * sz≤i * sz:=Nat.mul_le_mul_right sz qn
  rw[Nat.add_mul,Nat.one_mul]at this
  refine⟨by omega,u,?_,u2,u3,fun p hp=>?_⟩
  ·rw[List.getElem_append_left (by rw[List.length_take];omega),List.getElem_take]
   exact RdD.keep st.keeps _ _ u1
  ·rw[hset _ qn,if_neg qn,u4 p hp]
 ·obtain ⟨_,u,u1,u2,u3,u4⟩:=e6 (j+(k-i)) (e l[j+(k-i)]) ⟨by omega,rfl⟩
  have hks:k * sz=i * sz+(k-i) * sz:=by rw[← Nat.add_mul];congr 1;omega
  have hjs:(j+(k-i)) * sz=j * sz+(k-i) * sz:=by rw[← Nat.add_mul]
  have:(k-i+1) * sz≤(n-j) * sz:=Nat.mul_le_mul_right sz qn
  rw[Nat.add_mul,Nat.one_mul]at this
  refine⟨by omega,u,?_,u2,u3,fun p hp=>?_⟩
  ·rw[List.getElem_append_right (by rw[List.length_take];omega),List.getElem_drop]
   have hidx:j+(k-(l.take i).length)=j+(k-i):=by rw[List.length_take];omega
   simp only[hidx]
   exact RdD.keep st.keeps _ _ u1
  ·rw[hset _ qn,if_pos qn,← u4 p hp,hjs]
   rw[show k * sz+p-(i * sz+0)=(k-i) * sz+p by omega,hget _ qn]
   congr 1
   omega
theorem Kl {P:Program} (Γ:Ty P) {o:Oper} {s:SS} (q:Nat) {t:TypeId} {ti:TI} {et:TypeId} {sz eb b n cap k m c:Nat} {ez:List Value} {x:Operand} {α:Type} {e:α→SV} {l:List α} {B:Option Addr}
  (h:o.op=.call ⟨.builtin .clear,#[x],#[t]⟩) (ht:Γ.get t=some ti) (hk:ti.k=.slice et sz eb ez) (hez:ez.length=sz) (hz1:∀ v∈ez,v.oneCell'=true) (hx:ev s x=.val (.slice B m c)) (hB:B=some (if cap=k then ⟨b,0,none⟩ else ⟨b,k * sz,none⟩))
  (hob:s.h q=.pin b n cap sz e l) (hkl:k≤l.length) (hm:k+m≤cap) :
  Good P o s ⟨.tup [],[],[(q,.pin b n cap sz e (l.take k))]⟩:=by
 intro κ a w hinv hr ho N Q hN
 have r1:=hr x (by simp[h,Op.operands,Call.operands])
 rw[hx]at r1
 subst hB
 have hq:=ho q (.inr (by simp[Up.ws]))
 rw[hob]at hq
 obtain ⟨e0,b',cap',cs,T,fr,e1,e2,e3,e4,e5,e6⟩:=hq
 rw[e0]at e1
 cases e1
 obtain ⟨hu,ii,zv,q1,q2,q3,q4,q5⟩:=Ce Γ ht hk
 have hzs:zv.cells.size=sz:=by rw[← hez,← q5];simp
 have hlt:(l.take k).length=k:=by rw[List.length_take];omega
 by_cases hm0:m=0
 ·subst hm0
  have hrun:(execOp a.eval o).run P w=.ok (.value (.tuple #[])) w:=by
   simp[execOp,h,resolve,invoke,builtin,Builtin.clear_,r1.val,run_underlying hu]
  simp only[Oper.wp,hrun,Oper.upon]
  refine hN _ κ w (Step.refl _ κ w) hinv (by simp[Rd,RdL]) (fun p hp=>?_)
  simp only[List.mem_singleton]at hp
  subst hp
  refine⟨e0,b,cap,cs,T,fr,e0,e2,e3,e4,e5,?_⟩
  rintro p z ⟨hp0,rfl⟩
  rw[List.getElem_take]
  exact e6 p (e l[p]) ⟨by omega,E⟩
 obtain ⟨m,rfl⟩:∃ p,m=p+1:=⟨m-1,by omega⟩
 rw[if_neg qn]at r1
 obtain ⟨news,hnews⟩:∃ news,news=(Builtin.zeroCells zv.cells (m+1)).toList:=⟨_,rfl⟩
 have hnl:news.length=(m+1) * sz:=by rw[hnews,Array.length_toList,Si,hzs]
 have hones:Ones news:=fun v hv=>by
  rw[hnews,Array.mem_toList_iff]at hv
  refine hz1 v ?_
  rw[← q5]
  simp only[Builtin.zeroCells,Array.mem_map,Array.mem_range]at hv
  obtain ⟨p,hp,rfl⟩:=hv
  have h0:0<zv.cells.size:=by
   rcases Nat.eq_zero_or_pos zv.cells.size with h | h
   ·rw[h]at hp;simp at hp
   ·exact h
  have hlt2:p % zv.cells.size<zv.cells.size:=Nat.mod_lt _ h0
  rw[getElem!_pos zv.cells _ hlt2]
  exact Array.getElem_mem_toList hlt2
 have hmul:k * sz+(m+1) * sz≤cap * sz:=by rw[← Nat.add_mul];exact Nat.mul_le_mul_right sz hm
 obtain ⟨w',f1,f2,f3,f4,f5,f6,f7⟩:=Cq P b (k * sz) T fr news 0 cs w e2 e3 qn hones
 obtain ⟨st,inv⟩:=Oa hinv e0 f3 f4 f5 f6 f7
 have hrun:(execOp a.eval o).run P w=.ok (.value (.tuple #[])) w':=by
  simp[execOp,h,resolve,invoke,builtin,Builtin.clear_,r1.val,run_underlying hu,zeroValue,typeInfo,q1,q4,← hnews,f1]
 simp only[Oper.wp,hrun,Oper.upon]
 refine hN _ κ w' (st.weaken (fun k hk=>by subst hk;simp[Up.ws])) inv (by simp[Rd,RdL]) (fun p hp=>?_)
 simp only[List.mem_singleton]at hp
 subst hp
 refine⟨e0,b,cap,_,T,fr,e0,f2,by rw[B4];exact e3,by rw[B4];exact e4,e5,?_⟩
 rintro p z ⟨hp0,rfl⟩
 have hset:=J2 cs news (k * sz+0)
 obtain ⟨h0,u,u1,u2,u3,u4⟩:=e6 p (e l[p]) ⟨by omega,rfl⟩
 have:(p+1) * sz≤k * sz:=Nat.mul_le_mul_right sz qn
 rw[Nat.add_mul,Nat.one_mul]at this
 refine⟨h0,u,?_,u2,u3,fun j hj=>?_⟩
 ·rw[List.getElem_take]
  exact RdD.keep st.keeps _ _ u1
 ·have hcl:k * sz≤cs.length:=by omega
  rw[hset _ qn,if_neg qn,u4 j hj]
end Go.Sy
