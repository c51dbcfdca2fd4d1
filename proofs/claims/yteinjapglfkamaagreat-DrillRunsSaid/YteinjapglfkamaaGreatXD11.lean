/-
  R14 RS R15 R16 B2 B3 B4 J29: parts of a proof, joined by program.
-/
import Derived.Test.YteinjapglfkamaaGreatXD10
import Derived.Test.YteinjapglfkamaaGreatXD3
import Derived.Test.YteinjapglfkamaaGreatXD4
import Derived.Test.YteinjapglfkamaaGreatXD5
import Derived.Test.YteinjapglfkamaaGreatRows
import Derived.ProofKit
namespace Go.Sy.YteinjapglfkamaaGreat
open Go.Proofs
attribute [local irreducible] Go.Sy.G Go.Sy.DR
set_option maxRecDepth 100000
set_option maxHeartbeats 4000000
theorem Apz (n:Net) (s:Int) (hr:Ae n=true) (hn:Da n):Sy.Spec Tryz.prog 135 [.ptr 0 0,Aj n] (Ii s) (Bo (Lb n s).1) (Ii (Lb n s).2):=by
 have hf:=Uw hr
 have q1:=Ey s 10
 have qh:=Ach n hr
 have qi:=Ait n (Ah s) hr hn
 have hd:=Bu (s:=Ah s) (b:=10) qy
 rw[Yf]
 generalize Bt (Ah s) 10=k at *
 split
 ·rename_i hc
  have qi:=qi hc.2
  refine B9 Γ hm 100 F135 Tryz.ntmps135 E fun F hF=>by
   conv=>whnf
   refine A3 3 8 (Aj n) E E E ?_
   refine oO ?_
   refine Ad (Af [] E F198 q1 E ⟨E,Y⟩ E ⟨.inl E,Y⟩) E E ?_
   refine oO ?_
   refine⟨fun _=>?_,fun h=>absurd (of_decide_eq_false h) qn⟩
   refine oO ?_
   refine c0 qh F199 ?_
   refine oO ?_
   refine⟨fun _=>?_,fun h=>absurd (of_decide_eq_false h) qn⟩
   refine oO ?_
   refine Ad (Af [] E F200 qi E ⟨E,Y⟩ E ⟨.inl E,Y⟩) E E ?_
   refine oO ?_
   exact done E (.cons (.cell E E E E) .nil) [] (Ii (Ep n (Ah s)).2) (fun _ h=>h) E E ⟨Y,⟨.inl E,E,Y⟩,E,E⟩
 rename_i hc1
 split
 ·rename_i hc
  have q2:=Ey (Ah s) n.domains.length
  have q3:=Ey (Ah (Ah s)) 3
  generalize Bt (Ah (Ah s)) n.domains.length=d at *
  generalize Bt (Ah (Ah (Ah s))) 3=a at *
  refine Spec.viewR (R:=L6 (Aa 2) (Aa 0) (Aa d) (Aa a) (.val (.slice none 0 0)) (.val (.slice none 0 0))) ?_ fun _ _ _ h=>D0 (fun _=>Co) (fun _=>Co) h
  refine B9 Γ hm 100 F135 Tryz.ntmps135 E fun F hF=>by
   conv=>whnf
   refine A3 3 8 (Aj n) E E E ?_
   refine oO ?_
   refine Ad (Af [] E F198 q1 E ⟨E,Y⟩ E ⟨.inl E,Y⟩) E E ?_
   refine oO ?_
   refine⟨fun h=>absurd (of_decide_eq_true h) qn,fun _=>?_⟩
   refine oF ?_
   refine⟨fun _=>?_,fun h=>absurd (of_decide_eq_false h) qn⟩
   refine oO ?_
   refine⟨fun _=>?_,fun h=>absurd (of_decide_eq_false h) qn⟩
   refine oO ?_
   refine⟨fun _=>?_,fun h=>absurd (of_decide_eq_false h) qn⟩
   refine oO ?_
   refine Ad (Af [] E F198 q2 E ⟨E,Y⟩ E ⟨.inl E,Y⟩) E E ?_
   refine oO ?_
   refine Ad (Af [] E F198 q3 E ⟨E,Y⟩ E ⟨.inl E,Y⟩) E E ?_
   refine oO ?_
   exact done E (.cons (.cell E E E E) .nil) [] (Ii (Ah (Ah (Ah s)))) (fun _ h=>h) E E ⟨Y,⟨.inl E,E,Y⟩,E,E⟩
 rename_i hc2
 split
 ·rename_i hc
  refine Spec.viewR (R:=L6 (Aa 5) (Aa 0) (Aa 0) (Aa 0) (.val (.slice none 0 0)) (.sl 1 Ab (C6 n.links.length (Ah s)).1)) ?_ fun _ _ _ h=>D0 (fun _=>Co) (fun _ h=>h) h
  refine B9 Γ hm 100 F135 Tryz.ntmps135 E fun F hF=>by
   conv=>whnf
   refine A3 3 8 (Aj n) E E E ?_
   refine oO ?_
   refine Ad (Af [] E F198 q1 E ⟨E,Y⟩ E ⟨.inl E,Y⟩) E E ?_
   refine oO ?_
   refine⟨fun h=>absurd (of_decide_eq_true h) qn,fun _=>?_⟩
   refine oF ?_
   refine⟨fun _=>?_,fun h=>absurd (of_decide_eq_false h) qn⟩
   refine oO ?_
   refine⟨fun h=>absurd (of_decide_eq_true h) qn,fun _=>?_⟩
   refine oF ?_
   refine⟨fun _=>?_,fun h=>absurd hc.1 (by simpa using h)⟩
   refine oO ?_
   refine⟨fun _=>?_,fun h=>absurd (of_decide_eq_false h) qn⟩
   refine oO ?_
   refine K9 8 5 1000 1 Ab E E E E ?_
   refine At n.links.length (fun j=>[(0,.ptr 0 0),(3,.ref 8 (Aj n) 0),(4,.ptr 4 0),(8,.ptr 8 0),(9,Aa j)]) (fun j=>[(0,.box [As (C6 j (Ah s)).2]),(4,.box [Aa 0,Aa 0,Aa 0,Aa 0,.val (.slice none 0 0),.val (.slice none 0 0)]),(8,.box [Aa 5,Aa 0,Aa 0,Aa 0,.val (.slice none 0 0),.osl 1000]),(1000,.row 1 Ab (C6 j (Ah s)).1)]) []
    ⟨⟨rfl,rfl,rfl,rfl,rfl,rfl,rfl,rfl,rfl,rfl,trivial⟩,⟨.inl rfl,rfl,.inl rfl,rfl,.inl rfl,rfl,.inl rfl,rfl,trivial⟩,rfl,rfl⟩ ?_
   intro j hj
   have hlen:=Jh j (Ah s)
   have hsucc:C6 (j+1) (Ah s)=((C6 j (Ah s)).1++[Bt (Ah (C6 j (Ah s)).2) 2 == 1],Ah (C6 j (Ah s)).2):=rfl
   obtain ⟨r,hr⟩:∃ r,C6 j (Ah s)=r:=⟨_,rfl⟩
   rw[hr]at hlen hsucc ⊢
   obtain ⟨u,t⟩:=r
   have hds:=Ey t 2
   dsimp only at hlen hsucc ⊢
   refine oO ?_
   refine⟨fun h=>?_,fun h=>?_⟩
   ·have hlt:j<n.links.length:=by simpa using h
    refine oO ?_
    refine Bd (Af [] E F198 hds E ⟨E,Y⟩ E ⟨.inl E,Y⟩) qq E ?_
    refine oD ?_
    refine Bd (Ac Γ.toTy 67 E E E E E (.row E) (.lit (e:=Ab) (l:=[Bt (Ah t) 2 == 1]) E E) qz (by simp;omega) (by simp;omega)) qq E ?_
    refine oD ?_
    refine kW ?_
    refine iW ?_
    refine An [(1000,67)] hlt ⟨⟨E,E,E,E,E,E,E,E,E,E,Y⟩,⟨.inl ?_,E,.inl E,E,.inl E,E,.inl ?_,E,Y⟩,E,E⟩
    ·rw[hsucc];rfl
    ·rw[hsucc];rfl
   ·have hjl:j=n.links.length:=by
     have:¬ j<n.links.length:=by simpa using h
     omega
    subst hjl
    rw[hr]
    refine oO ?_
    refine Ao 1000 E ?_
    exact done E (.cons (.cell E E E E) .nil) [] (Ii t) (fun _ h=>h) E E ⟨Y,⟨.inl E,E,Y⟩,E,E⟩
 ·rename_i hc3
  refine Spec.viewR (R:=L6 (Aa 4) (Aa 0) (Aa 0) (Aa 0) (.val (.slice none 0 0)) (.val (.slice none 0 0))) ?_ fun _ _ _ h=>D0 (fun _=>Co) (fun _=>Co) h
  refine B9 Γ hm 100 F135 Tryz.ntmps135 E fun F hF=>by
   conv=>whnf
   refine A3 3 8 (Aj n) E E E ?_
   refine oO ?_
   refine Ad (Af [] E F198 q1 E ⟨E,Y⟩ E ⟨.inl E,Y⟩) E E ?_
   refine oO ?_
   (repeat' (first | (refine⟨fun h=>?_,fun h=>?_⟩<;>(repeat (first | simp only[decide_eq_true_eq]at h | simp only[decide_eq_false_iff_not]at h | simp only[beq_iff_eq]at h | simp only[beq_eq_false_iff_ne]at h))<;>((refine oO ?_);repeat((refine aF ?_);(refine oO ?_)))) | (refine c0 (qh) F199 ?_;((refine oO ?_))) | refine done rfl (.cons (.cell rfl rfl rfl rfl) .nil) [] (Ii (Ah s)) (fun _ h=>h) rfl rfl ⟨trivial,⟨.inl rfl,rfl,trivial⟩,rfl,rfl⟩))
   all_goals (exfalso;clear hF q1 qi qh;omega)
theorem Aio (n:Net) (s:Int) (size:Nat) (hsz:size<100000) (hr:Ae n=true) (hn:Da n):Sy.Spec Tryz.prog 68 [.ptr 0 0,Aj n,Aa size] (Ii s) (.sl 6 Bo (Bb n size s).1) (Ii (Bb n size s).2):=cT F68 Tryz.ntmps68 fun F hF=>by
 conv=>whnf
 refine A3 4 8 (Aj n) E E E ?_
 refine Bm 7 1000 6 Bo E E ?_
 refine At size (fun j=>[(0,.ptr 0 0),(2,Aa size),(4,.ref 8 (Aj n) 0),(7,.osl 1000),(8,Aa j)]) (fun j=>[(0,.box [As (Bb n j s).2]),(1000,.row 6 Bo (Bb n j s).1)]) []
  ⟨⟨rfl,rfl,rfl,rfl,rfl,rfl,rfl,rfl,rfl,rfl,trivial⟩,⟨.inl rfl,rfl,.inl rfl,rfl,trivial⟩,rfl,rfl⟩ ?_
 intro j hj
 have hlen:=Dm n j s
 have hsucc:Bb n (j+1) s=((Bb n j s).1++[(Lb n (Bb n j s).2).1],(Lb n (Bb n j s).2).2):=rfl
 obtain ⟨r,hr'⟩:∃ r,Bb n j s=r:=⟨_,rfl⟩
 rw[hr']at hlen hsucc ⊢
 obtain ⟨u,t⟩:=r
 have hst:=Apz n t hr hn
 dsimp only at hlen hsucc ⊢
 generalize Lb n t=x at *
 refine oO ?_
 refine⟨fun h=>?_,fun h=>?_⟩
 ·have hlt:j<size:=by simpa using h
  refine oO ?_
  refine Ad (Af [] E F135 hst E ⟨E,Y⟩ E ⟨.inl E,Y⟩) E E ?_
  refine oO ?_
  refine Ad (Ac Γ.toTy 19 E E E E E (.row E) (.lit (e:=Bo) (l:=[x.1]) E E) qz (by simp;omega) (by simp;omega)) E E ?_
  refine oO ?_
  refine iW ?_
  refine An [(1000,19)] hlt ⟨⟨E,E,E,E,E,E,E,E,E,E,Y⟩,⟨.inl ?_,E,.inl ?_,E,Y⟩,E,E⟩
  ·rw[hsucc];rfl
  ·rw[hsucc];rfl
 ·have hjl:j=size:=by
   have:¬ j<size:=by simpa using h
   omega
  subst hjl
  rw[hr']
  refine oO ?_
  refine Ao 1000 E ?_
  exact done E (.cons .tmp .nil) [] (Ii t) (fun _ h=>h) E E ⟨Y,⟨.inl E,E,Y⟩,E,E⟩
theorem bytes_beq (b:ByteArray):(b == b)=true:=by
 show (b.data == b.data)=true
 simp
def StepShort (x:StepM):Prop:=x.up.length<100000
theorem stepsS (l:List StepM) (hl:l.length<100000) (hs:∀ x∈l,StepShort x):Sy.Spec Tryz.prog 18 [.sl 6 Bo l,.sl 6 Bo l] [] (Ab true) []:=cT F18 Tryz.ntmps18 fun F hF=>by
 conv=>whnf
 refine⟨fun h=>False.elim (by simp at h),fun _=>?_⟩
 refine oO ?_
 refine At l.length (fun j=>[(0,.sl 6 Bo l),(1,.sl 6 Bo l),(5,Aa j)]) (fun _=>[]) []
  ⟨⟨rfl,rfl,rfl,rfl,rfl,rfl,trivial⟩,trivial,rfl,rfl⟩ ?_
 intro j hj
 refine oO ?_
 refine⟨fun h=>?_,fun h=>?_⟩
 ·have hlt:j<l.length:=by simpa using h
  obtain ⟨x,hx⟩:∃ x,l[(j:Int).toNat]'qn=x:=⟨_,rfl⟩
  have hxs:x.up.length<100000:=by rw[← hx];exact hs _ (List.getElem_mem _)
  refine oO ?_
  refine⟨E,by omega,by omega,?_⟩
  rw[hx]
  conv=>whnf
  refine⟨E,by omega,by omega,?_⟩
  rw[hx]
  conv=>whnf
  refine kW ?_
  refine⟨fun h=>False.elim (by simp at h),fun _=>?_⟩
  refine oO ?_
  refine⟨fun h=>False.elim (by simp at h),fun _=>?_⟩
  refine oO ?_
  refine⟨fun h=>False.elim (by simp at h),fun _=>?_⟩
  refine oO ?_
  refine⟨fun h=>False.elim (by simp at h),fun _=>?_⟩
  refine oO ?_
  refine Ad (Kg Γ.toTy (bs:=x.bytes) E E E E E E E .sl) E E ?_
  refine oO ?_
  refine Ad (Kg Γ.toTy (bs:=x.bytes) E E E E E E E .sl) E E ?_
  refine oO ?_
  refine⟨fun h=>False.elim (by simp[bytes_beq]at h),fun _=>?_⟩
  refine oO ?_
  refine⟨fun h=>False.elim (by simp at h),fun _=>?_⟩
  refine oO ?_
  refine At x.up.length (fun k=>[(0,.sl 6 Bo l),(1,.sl 6 Bo l),(5,Aa j),(6,.ptr 6 0),(7,.ptr 7 0),(8,Aa k)]) (fun _=>[(6,.box [Aa x.kind,Aa x.port,Aa x.domain,Aa x.at_,.sl 1 Ag x.bytes,.sl 1 Ab x.up]),(7,.box [Aa x.kind,Aa x.port,Aa x.domain,Aa x.at_,.sl 1 Ag x.bytes,.sl 1 Ab x.up])]) []
   ⟨⟨rfl,rfl,rfl,rfl,rfl,rfl,rfl,rfl,rfl,rfl,rfl,rfl,trivial⟩,⟨.inl rfl,rfl,.inl rfl,rfl,trivial⟩,rfl,rfl⟩ ?_
  intro k hk
  refine oO ?_
  refine⟨fun h=>?_,fun h=>?_⟩
  ·have hlt2:k<x.up.length:=by simpa using h
   obtain ⟨b,hb⟩:∃ b,x.up[(k:Int).toNat]'qn=b:=⟨_,rfl⟩
   refine oO ?_
   refine⟨E,by omega,by omega,?_⟩
   rw[hb]
   conv=>whnf
   refine⟨E,by omega,by omega,?_⟩
   rw[hb]
   conv=>whnf
   refine kW ?_
   refine⟨fun h=>False.elim (by simp at h),fun _=>?_⟩
   refine oO ?_
   refine iW ?_
   exact An [] hlt2 ⟨⟨E,E,E,E,E,E,E,E,E,E,E,E,Y⟩,⟨.inl E,E,.inl E,E,Y⟩,E,E⟩
  ·refine oO ?_
   refine iW ?_
   exact An [] hlt ⟨⟨E,E,E,E,E,E,Y⟩,Y,E,E⟩
 ·refine oO ?_
  exact dN
theorem Aph (n:Net) (s:Int) (h:n.links.length<100000):StepShort (Lb n s).1:=by
 unfold StepShort
 rw[Yf]
 split
 ·simp[Ep]
 split
 ·simp
 split
 ·simp[Jh,h]
 ·simp
theorem Y5 (n:Net) (h:n.links.length<100000):∀ (k:Nat) (s:Int),∀ x∈(Bb n k s).1,StepShort x
 | 0,s=>by simp[Bb]
 | k+1,s=>by
  intro x hx
  simp only[Bb,List.mem_append,List.mem_singleton]at hx
  rcases hx with hx | rfl
  ·exact Y5 n h k s x hx
  ·exact Aph n _ h
def At4:StepM:=⟨4,0,0,0,[],[]⟩
theorem Arg:Bb noNet 2 0=([At4,At4],Ah (Ah 0)):=by kernel_rfl
theorem Jw:Sy.Spec Tryz.prog 19 [] [] (Ab true) []:=cT F19 Tryz.ntmps19 fun F hF=>by
 have q1:=Ab1 noNet 0 2 Acq (by decide +kernel) qy (fun x hx=>by cases hx)
 rw[Arg]at q1
 dsimp only at q1
 have q2:=Aav noNet 0 61 Acq (by decide +kernel)
 have e1:Ah 0=1442695040888963407:=by kernel_rfl
 conv=>whnf
 refine Atw 8 (Aj noNet) (.agg (.cons .nil (.cons .nil (.cons .nil (.cons .nil (.cons .nil (.cons .nil (.cons .nil (.cons .nil .nil))))))))) ?_
 refine c0 q1 F60 ?_
 refine oO ?_
 refine Atw 14 (Aj noNet) (.agg (.cons .nil (.cons .nil (.cons .nil (.cons .nil (.cons .nil (.cons .nil (.cons .nil (.cons .nil .nil))))))))) ?_
 refine c0 q2 F60 ?_
 refine oO ?_
 (repeat' (first | (refine Aq rfl (.cons .tmp .nil) ?_ rfl) | (refine⟨qq,?_⟩;((conv=>whnf))) | (refine⟨by (omega),by ((first | decide | (simp[I64]))),?_⟩;((conv=>whnf);repeat((refine aT ?_);(refine oO ?_)))) | (refine c0 (T4 0) F61 ?_;((refine oO ?_);repeat((refine aT ?_);(refine oO ?_)))) | (refine c0 (T4 (Ah 0)) F61 ?_;((refine oO ?_);repeat((refine aT ?_);(refine oO ?_))))))
 all_goals rfl
end Go.Sy.YteinjapglfkamaaGreat
namespace Go.Sy.YteinjapglfkamaaGreat
open Go.Proofs
structure RepM where
 scripts:Int
 steps:Int
 seen:Int
 crossed:Int
 script:List StepM
abbrev Asp (r:RepM):List SV:=[Aa r.scripts,Aa r.steps,Aa r.seen,Aa r.crossed,.sl 6 Bo r.script]
abbrev At6 (r:RepM):SV:=.agg [Aa r.scripts,Aa r.steps,Aa r.seen,Aa r.crossed,.sl 6 Bo r.script]
def Wa (n:Net) (of:List Int) (r:RepM) (l:List StepM):RepM :=
 ⟨r.scripts,r.steps+l.length,r.seen+(runT n l).1.length,if crossB n of [] l=true then r.crossed+1 else r.crossed,if crossB n of [] l=true∧r.crossed=0 then l else r.script⟩
def Hd (n:Net) (of:List Int) (size:Nat) (k s:Int):Nat→RepM × Int
 | 0=>(⟨k,0,0,0,[]⟩,s)
 | j+1=>(Wa n of (Hd n of size k s j).1 (Bb n size (Hd n of size k s j).2).1,(Bb n size (Hd n of size k s j).2).2)
def drillT (n:Net) (of:List Int) (s k size:Int):RepM × Int :=
 if (0≤size∧size≤60)∧(0≤k∧k≤50)∧Du n of=true∧okB n (Km n)=true then ((Hd n of size.toNat k s k.toNat).1,0) else (⟨0,0,0,0,[]⟩,2)
theorem Aoa (d s t:Nat) (b:List UInt8):(frame d s t b).length=14+b.length:=by
 have:=Ie ⟨d,s,t,b⟩
 exact this
theorem Abq (n:Net) (s:Int) (hn:Da n):(Ep n s).1.bytes.length≤2000:=by
 have hf:=fun v=>(Wt n v hn).2.2.2
 simp only[Ep]
 rw[Aoa]
 split
 ·rename_i h
  have:=hf (Sq (nth n.ports (nth (Cc n n.ports.length) (Bt (Ah s) (Cc n n.ports.length).length))) (Ah s)).2
  simp only[Abc,List.length_append,List.length_cons,List.length_nil]
  omega
 ·have:=hf (Sq (nth n.ports (nth (Cc n n.ports.length) (Bt (Ah s) (Cc n n.ports.length).length))) (Ah s)).2
  omega
theorem Afq (n:Net) (s:Int) (hn:Da n):(Lb n s).1.bytes.length≤2000:=by
 rw[Yf]
 split
 ·exact Abq n _ hn
 split
 ·simp
 split
 ·simp
 ·simp
theorem Su (n:Net) (hn:Da n):∀ (k:Nat) (s:Int),∀ x∈(Bb n k s).1,x.bytes.length≤2000
 | 0,s=>by simp[Bb]
 | k+1,s=>by
  intro x hx
  simp only[Bb,List.mem_append,List.mem_singleton]at hx
  rcases hx with hx | rfl
  ·exact Su n hn k s x hx
  ·exact Afq n _ hn
theorem Y6 (n:Net) (hn:Da n) (k:Nat) (hk:k≤60) (s:Int):ScriptOK (Bb n k s).1:=⟨by rw[Dm];exact hk,Su n hn k s⟩
theorem Zb {n:Net} (hn:n.Fin) (l:List StepM):(runT n l).1.length≤l.length * 4294967296:=by
 unfold runT
 split
 ·exact Kq hn l _
 ·simp
theorem Yh {n:Net} (hn:n.Fin) (ha:Da n) (of:List Int) (size:Nat) (hs:size≤60) (hlk:n.links.length<100000) (k s:Int):∀ j:Nat,
  (Hd n of size k s j).1.scripts=k∧(0≤(Hd n of size k s j).1.steps∧(Hd n of size k s j).1.steps≤60 * j)∧(0≤(Hd n of size k s j).1.seen∧(Hd n of size k s j).1.seen≤60 * 4294967296 * j) ∧
  (0≤(Hd n of size k s j).1.crossed∧(Hd n of size k s j).1.crossed≤j)∧((Hd n of size k s j).1.script.length≤60∧∀ x∈(Hd n of size k s j).1.script,StepShort x)
 | 0=>⟨rfl,by simp[Hd],by simp[Hd],by simp[Hd],by simp[Hd]⟩
 | j+1=>by
  obtain ⟨h1,h2,h3,h4,h5⟩:=Yh hn ha of size hs hlk k s j
  have hl:=Dm n size (Hd n of size k s j).2
  have hr:=Zb hn (Bb n size (Hd n of size k s j).2).1
  rw[hl]at hr
  rw[Hd]
  simp only[Wa]
  refine⟨h1,by omega,by omega,?_,?_⟩
  ·split<;>omega
  ·split
   ·exact⟨by omega,Y5 n hlk _ _⟩
   ·exact h5
attribute [local irreducible] Go.Sy.G Go.Sy.DR
set_option maxRecDepth 100000
set_option maxHeartbeats 8000000
theorem Ajr:TabsOK []:=⟨by decide,fun t ht=>(by cases ht),fun t ht=>(by cases ht)⟩
theorem Aoe (n:Net) (hn:n.Fin) (hm1:n.Num) (ha:Da n) (of:List Int) (s k size:Int) :
  Sy.Spec Tryz.prog 20 [Aj n,.sl 1 Aa of,As s,Aa k,Aa size] [] (.tup [At6 (drillT n of s k size).1,Aa (drillT n of s k size).2]) []:=cT F20 Tryz.ntmps20 fun F hF=>by
 have hres:=drillT.eq_1 n of s k size
 generalize drillT n of s k size=res at *
 have q1:=Ux n hn of
 have hbad:¬ ((0≤size∧size≤60)∧(0≤k∧k≤50))∨Du n of=false∨okB n (Km n)=false→res=(⟨0,0,0,0,[]⟩,2):=fun h=>by
  rw[hres,if_neg]
  rintro ⟨h1,h2,h3,h4⟩
  rcases h with h | h | h
  ·exact h ⟨h1,h2⟩
  ·rw[h]at h3;cases h3
  ·rw[h]at h4;cases h4
 by_cases hsz:(0≤size∧size≤60)∧(0≤k∧k≤50)
 rotate_left
 ·have hbad:=hbad (.inl hsz)
  subst hbad
  by_cases hs0:size<0
  ·refine T ?_
   refine Ar 10 [Aa 0,Aa 0,Aa 0,Aa 0,.sl 6 Bo []] E (.cons (.refl _) (.cons (.refl _) (.cons (.refl _) (.cons (.refl _) (.cons .nil .nil))))) ?_
   exact D
  by_cases hs1:60<size
  ·refine T ?_
   refine Ar 10 [Aa 0,Aa 0,Aa 0,Aa 0,.sl 6 Bo []] E (.cons (.refl _) (.cons (.refl _) (.cons (.refl _) (.cons (.refl _) (.cons .nil .nil))))) ?_
   exact D
  by_cases hk0:k<0
  ·refine T ?_
   refine Ar 10 [Aa 0,Aa 0,Aa 0,Aa 0,.sl 6 Bo []] E (.cons (.refl _) (.cons (.refl _) (.cons (.refl _) (.cons (.refl _) (.cons .nil .nil))))) ?_
   exact D
  have hk1:50<k:=by omega
  refine T ?_
  refine Ar 10 [Aa 0,Aa 0,Aa 0,Aa 0,.sl 6 Bo []] E (.cons (.refl _) (.cons (.refl _) (.cons (.refl _) (.cons (.refl _) (.cons .nil .nil))))) ?_
  exact D
 obtain ⟨⟨hs0,hs1⟩,hk0,hk1⟩:=hsz
 refine T ?_
 refine C q1 F62 ?_
 cases ho:Du n of
 ·have hbad:=hbad (.inr (.inl ho))
  subst hbad
  refine T ?_
  refine Ar 10 [Aa 0,Aa 0,Aa 0,Aa 0,.sl 6 Bo []] E (.cons (.refl _) (.cons (.refl _) (.cons (.refl _) (.cons (.refl _) (.cons .nil .nil))))) ?_
  exact D
 refine T ?_
 refine Atw 45 (Aj n) (.refl _) ?_
 cases hok:okB n (Km n)
 ·have hbad:=hbad (.inr (.inr hok))
  subst hbad
  refine C (Te n hn hok) F50 ?_
  refine Ar 10 [Aa 0,Aa 0,Aa 0,Aa 0,.sl 6 Bo []] E (.cons (.refl _) (.cons (.refl _) (.cons (.refl _) (.cons (.refl _) (.cons .nil .nil))))) ?_
  exact D
 rw[if_pos ⟨⟨hs0,hs1⟩,⟨hk0,hk1⟩,ho,hok⟩]at hres
 clear hbad
 have hb:=(ok_iff.1 hok).2.1
 have hfe:=Uw hb
 obtain ⟨sz,rfl⟩:=Int.eq_ofNat_of_zero_le hs0
 obtain ⟨kn,rfl⟩:=Int.eq_ofNat_of_zero_le hk0
 rw[Int.toNat_natCast,Int.toNat_natCast]at hres
 have hro:=Yh hn ha of sz qn qn (kn:Int) s
 refine X (Af [(0,800),(1,801),(2,802),(3,803)] E F50 (Adt n hn hok) E Y E V) ?_
 refine X (Af [(0,810),(1,811)] E F63 (At9 n s qn) E Y E V) ?_
 refine Ar 16 (Asp ⟨(kn:Int),0,0,0,[]⟩) E (.cons (.refl _) (.cons (.refl _) (.cons (.refl _) (.cons (.refl _) (.cons .nil .nil))))) ?_
 refine At kn (fun j=>[(1,.sl 1 Aa of),(4,Aa (sz:Int)),(5,.ptr 5 0),(10,.ptr 10 0),(14,.ptr 0 0),(16,.ptr 16 0),(60,Aa (kn:Int)),(61,Aa j)])
  (fun j=>[(0,.box (Z0 n (.sl 1 Aa (Cc n n.ports.length)) 1)),(1,.box [As (Hd n of sz kn s j).2]),(5,.box (Abl n)),(10,.box [Aa 0,Aa 0,Aa 0,Aa 0,.val (.slice none 0 0)]),(16,.box (Asp (Hd n of sz kn s j).1))]) [(0,810),(1,811)] U ?_
 intro j hj
 obtain ⟨h1,h2,h3,h4,h5⟩:=hro j
 have hsu:Hd n of sz kn s (j+1)=(Wa n of (Hd n of sz kn s j).1 (Bb n sz (Hd n of sz kn s j).2).1,(Bb n sz (Hd n of sz kn s j).2).2):=rfl
 refine T ?_
 refine⟨fun h=>?_,fun h=>?_⟩
 ·have hlt:j<kn:=qA h
  generalize hst:Hd n of sz (kn:Int) s j=st at *
  obtain ⟨r,t⟩:=st
  dsimp only at *
  have hlen:=Dm n sz t
  have hsc:=Y6 n ha sz qn t
  have hfw:=Zb hn (Bb n sz t).1
  have qs:=Alj n t sz qn hb ha
  have qr:=Aso n hn hm1 (Bb n sz t).1 hsc
  have qc:=Y4 n hn hm1 of [] Ajr (Bb n sz t).1 hsc
  have hcb:=crossB.eq_1 n of [] (Bb n sz t).1
  generalize Bb n sz t=sc at *
  obtain ⟨l,t'⟩:=sc
  dsimp only at *
  unfold Wa at hsu
  generalize crossesT n of [] l=ct at *
  generalize crossB n of [] l=cb at *
  subst hcb
  generalize runT n l=rt at *
  obtain ⟨c1,c2,c3⟩:=ct
  dsimp only at *
  clear h
  refine T ?_
  refine X (Af [] E F64 qs E W E V) ?_
  refine C qr F65 ?_
  refine X (Dc [] [] E F66 qc (.cons (.refl _) (.cons (.refl _) (.cons .nil (.cons (.refl _) .nil)))) Y E Y E) ?_
  cases c3
  ·rw[if_neg qz,if_neg qz]at hsu
   refine T ?_
   refine An [] hlt ⟨⟨E,E,E,E,E,E,E,E,E,E,E,E,E,E,E,E,Y⟩,?_,E,E⟩
   dsimp only
   rw[hsu]
   exact Uo
  ·rw[if_pos rfl]at hsu
   refine T ?_
   refine⟨fun h=>?_,fun h=>?_⟩
   ·have hz:r.crossed=0:=by simpa using h
    rw[if_pos ⟨rfl,hz⟩]at hsu
    refine T ?_
    refine An [] hlt ⟨⟨E,E,E,E,E,E,E,E,E,E,E,E,E,E,E,E,Y⟩,?_,E,E⟩
    dsimp only
    rw[hsu]
    exact Uo
   ·have hz:¬ r.crossed=0:=by simpa using h
    rw[if_neg (fun y=>hz y.2)]at hsu
    refine T ?_
    refine An [] hlt ⟨⟨E,E,E,E,E,E,E,E,E,E,E,E,E,E,E,E,Y⟩,?_,E,E⟩
    dsimp only
    rw[hsu]
    exact Uo
 ·have hjj:j=kn:=qB h
  subst hjj
  subst hres
  refine T ?_
  exact D
end Go.Sy.YteinjapglfkamaaGreat
namespace Go.Sy.YteinjapglfkamaaGreat
open Go.Proofs
theorem Afz (n:Net) (l:List StepM):runTabsT n [] l=runT n l:=rfl
attribute [local irreducible] Go.Sy.G Go.Sy.DR
set_option maxRecDepth 100000
set_option maxHeartbeats 8000000
theorem Ad0 (n:Net) (hn:n.Fin) (hm1:n.Num) (ha:Da n) (of:List Int) (s k size:Int) :
  Sy.Spec Tryz.prog 21 [Aj n,.sl 1 Aa of,As s,Aa k,Aa size] [] (.tup [At6 (drillT n of s k size).1,Aa (drillT n of s k size).2]) []:=cT F21 Tryz.ntmps21 fun F hF=>by
 have hres:=drillT.eq_1 n of s k size
 generalize drillT n of s k size=res at *
 have q1:=W4 n hn of
 have hbad:¬ ((0≤size∧size≤60)∧(0≤k∧k≤50))∨Du n of=false∨okB n (Km n)=false→res=(⟨0,0,0,0,[]⟩,2):=fun h=>by
  rw[hres,if_neg]
  rintro ⟨h1,h2,h3,h4⟩
  rcases h with h | h | h
  ·exact h ⟨h1,h2⟩
  ·rw[h]at h3;cases h3
  ·rw[h]at h4;cases h4
 by_cases hsz:(0≤size∧size≤60)∧(0≤k∧k≤50)
 rotate_left
 ·have hbad:=hbad (.inl hsz)
  subst hbad
  by_cases hs0:size<0
  ·refine T ?_
   refine Ar 10 [Aa 0,Aa 0,Aa 0,Aa 0,.sl 6 Bo []] E (.cons (.refl _) (.cons (.refl _) (.cons (.refl _) (.cons (.refl _) (.cons .nil .nil))))) ?_
   exact D
  by_cases hs1:60<size
  ·refine T ?_
   refine Ar 10 [Aa 0,Aa 0,Aa 0,Aa 0,.sl 6 Bo []] E (.cons (.refl _) (.cons (.refl _) (.cons (.refl _) (.cons (.refl _) (.cons .nil .nil))))) ?_
   exact D
  by_cases hk0:k<0
  ·refine T ?_
   refine Ar 10 [Aa 0,Aa 0,Aa 0,Aa 0,.sl 6 Bo []] E (.cons (.refl _) (.cons (.refl _) (.cons (.refl _) (.cons (.refl _) (.cons .nil .nil))))) ?_
   exact D
  have hk1:50<k:=by omega
  refine T ?_
  refine Ar 10 [Aa 0,Aa 0,Aa 0,Aa 0,.sl 6 Bo []] E (.cons (.refl _) (.cons (.refl _) (.cons (.refl _) (.cons (.refl _) (.cons .nil .nil))))) ?_
  exact D
 obtain ⟨⟨hs0,hs1⟩,hk0,hk1⟩:=hsz
 refine T ?_
 refine C q1 F67 ?_
 cases ho:Du n of
 ·have hbad:=hbad (.inr (.inl ho))
  subst hbad
  refine T ?_
  refine Ar 10 [Aa 0,Aa 0,Aa 0,Aa 0,.sl 6 Bo []] E (.cons (.refl _) (.cons (.refl _) (.cons (.refl _) (.cons (.refl _) (.cons .nil .nil))))) ?_
  exact D
 refine T ?_
 refine Atw 45 (Aj n) (.refl _) ?_
 cases hok:okB n (Km n)
 ·have hbad:=hbad (.inr (.inr hok))
  subst hbad
  refine C (Aa1 n hn hok) F56 ?_
  refine Ar 10 [Aa 0,Aa 0,Aa 0,Aa 0,.sl 6 Bo []] E (.cons (.refl _) (.cons (.refl _) (.cons (.refl _) (.cons (.refl _) (.cons .nil .nil))))) ?_
  exact D
 rw[if_pos ⟨⟨hs0,hs1⟩,⟨hk0,hk1⟩,ho,hok⟩]at hres
 clear hbad
 have hb:=(ok_iff.1 hok).2.1
 have hfe:=Uw hb
 obtain ⟨sz,rfl⟩:=Int.eq_ofNat_of_zero_le hs0
 obtain ⟨kn,rfl⟩:=Int.eq_ofNat_of_zero_le hk0
 rw[Int.toNat_natCast,Int.toNat_natCast]at hres
 have hro:=Yh hn ha of sz qn qn (kn:Int) s
 refine X (Af [(0,800),(902,812),(903,813)] E F56 (Amb n hn hok) E Y E V) ?_
 refine Ar 15 (Asp ⟨(kn:Int),0,0,0,[]⟩) E (.cons (.refl _) (.cons (.refl _) (.cons (.refl _) (.cons (.refl _) (.cons .nil .nil))))) ?_
 refine At kn (fun j=>[(1,.sl 1 Aa of),(3,Aa (kn:Int)),(4,Aa (sz:Int)),(5,.ptr 5 0),(10,.ptr 10 0),(14,.ptr 0 0),(15,.ptr 15 0),(16,Aa j)])
  (fun j=>[(0,.box [As (Hd n of sz kn s j).2]),(5,.box (Abl n)),(10,.box [Aa 0,Aa 0,Aa 0,Aa 0,.val (.slice none 0 0)]),(15,.box (Asp (Hd n of sz kn s j).1))]) [(0,54)] U ?_
 intro j hj
 obtain ⟨h1,h2,h3,h4,h5⟩:=hro j
 have hsu:Hd n of sz kn s (j+1)=(Wa n of (Hd n of sz kn s j).1 (Bb n sz (Hd n of sz kn s j).2).1,(Bb n sz (Hd n of sz kn s j).2).2):=rfl
 refine T ?_
 refine⟨fun h=>?_,fun h=>?_⟩
 ·have hlt:j<kn:=qA h
  generalize hst:Hd n of sz (kn:Int) s j=st at *
  obtain ⟨r,t⟩:=st
  dsimp only at *
  have hlen:=Dm n sz t
  have hsc:=Y6 n ha sz qn t
  have hfw:=Zb hn (Bb n sz t).1
  have qs:=Aio n t sz qn hb ha
  have qr:=Aln n hn hm1 [] Ajr (Bb n sz t).1 hsc
  rw[Afz]at qr
  have qc:=Agb n hn hm1 of [] Ajr (Bb n sz t).1 hsc
  have hcb:=crossB.eq_1 n of [] (Bb n sz t).1
  generalize Bb n sz t=sc at *
  obtain ⟨l,t'⟩:=sc
  dsimp only at *
  unfold Wa at hsu
  generalize crossesT n of [] l=ct at *
  generalize crossB n of [] l=cb at *
  subst hcb
  generalize runT n l=rt at *
  obtain ⟨c1,c2,c3⟩:=ct
  dsimp only at *
  clear h
  refine T ?_
  refine X (Af [] E F68 qs E W E V) ?_
  refine X (Dc [] [] E F69 qr (.cons (.refl _) (.cons .nil (.cons (.refl _) .nil))) Y E Y E) ?_
  refine X (Dc [] [] E F70 qc (.cons (.refl _) (.cons (.refl _) (.cons .nil (.cons (.refl _) .nil)))) Y E Y E) ?_
  cases c3
  ·rw[if_neg qz,if_neg qz]at hsu
   refine T ?_
   refine An [] hlt ⟨⟨E,E,E,E,E,E,E,E,E,E,E,E,E,E,E,E,Y⟩,?_,E,E⟩
   dsimp only
   rw[hsu]
   exact Uo
  ·rw[if_pos rfl]at hsu
   refine T ?_
   refine⟨fun h=>?_,fun h=>?_⟩
   ·have hz:r.crossed=0:=by simpa using h
    rw[if_pos ⟨rfl,hz⟩]at hsu
    refine T ?_
    refine An [] hlt ⟨⟨E,E,E,E,E,E,E,E,E,E,E,E,E,E,E,E,Y⟩,?_,E,E⟩
    dsimp only
    rw[hsu]
    exact Uo
   ·have hz:¬ r.crossed=0:=by simpa using h
    rw[if_neg (fun y=>hz y.2)]at hsu
    refine T ?_
    refine An [] hlt ⟨⟨E,E,E,E,E,E,E,E,E,E,E,E,E,E,E,E,Y⟩,?_,E,E⟩
    dsimp only
    rw[hsu]
    exact Uo
 ·have hjj:j=kn:=qB h
  subst hjj
  subst hres
  refine T ?_
  exact D
end Go.Sy.YteinjapglfkamaaGreat
namespace Go.Sy.YteinjapglfkamaaGreat
open Go.Proofs
theorem Atj {n:Net} (h:n.In):Da n:=fun x hx=>by
 have:=(h.irbs.1 x hx).2.2.2.1
 simp only[wI,Lit.wf,decide_eq_true_eq,Bool.and_eq_true]at this
 exact⟨this.1,Int.lt_of_le_of_lt this.2 qy⟩
theorem drNum {n:Net} (h:n.In):n.Num:=by
 refine⟨fun x hx=>?_,fun x hx=>?_⟩
 ·have:=(h.devices.1 x hx).2.2.2.2
  simp only[wI,Lit.wf,decide_eq_true_eq,Bool.and_eq_true]at this
  exact⟨this.1,Int.lt_of_le_of_lt this.2 qy⟩
 ·have:=(h.irbs.1 x hx).2.2.2.1
  simp only[wI,Lit.wf,decide_eq_true_eq,Bool.and_eq_true]at this
  exact⟨this.1,Int.lt_of_le_of_lt this.2 qy⟩
theorem Aex {n:Net} (hn:n.Fin) (ha:Da n) (of:List Int) (s k size:Int):(drillT n of s k size).1.script.length<100000∧∀ x∈(drillT n of s k size).1.script,StepShort x:=by
 rw[drillT]
 split
 ·rename_i h
  have hfe:=Uw (ok_iff.1 h.2.2.2).2.1
  have:=(Yh hn ha of size.toNat qn qn k s k.toNat).2.2.2.2
  exact⟨Nat.lt_of_le_of_lt this.1 qy,this.2⟩
 ·exact⟨by show 0<100000;decide,fun x hx=>by cases hx⟩
attribute [local irreducible] Go.Sy.G Go.Sy.DR
set_option maxRecDepth 100000
set_option maxHeartbeats 8000000
theorem Aks (n:Net) (hin:n.In) (of:List Int) (s k size:Int):Sy.Spec Tryz.prog 6 [Aj n,.sl 1 Aa of,As s,Aa k,Aa size] [] (Ab true) []:=cT F6 Tryz.ntmps6 fun F hF=>by
 conv=>whnf
 refine A3 5 8 (Aj n) E E E ?_
 refine T ?_
 refine C (greatS n) F7 ?_
 cases hg:Ix n
 rotate_left
 ·refine T ?_
  refine C Jw F19 ?_
  exact D
 have hn:=Vi hg
 have hm1:=drNum hin
 have ha:=Atj hin
 by_cases h1:(300:Int)<of.length
 ·refine T ?_
  refine C Jw F19 ?_
  exact D
 have q1:=Aoe n hn hm1 ha of s k size
 have q2:=Ad0 n hn hm1 ha of s k size
 have hsh:=Aex hn ha of s k size
 generalize drillT n of s k size=r at *
 obtain ⟨r,e⟩:=r
 dsimp only at *
 have q3:=stepsS r.script hsh.1 hsh.2
 by_cases h2:3<k
 ·by_cases h3:k≤50
  ·refine T ?_
   refine C Jw F19 ?_
   exact D
  ·refine T ?_
   refine C q1 F20 ?_
   refine C q2 F21 ?_
   refine C q3 F18 ?_
   refine C Jw F19 ?_
   exact D
 ·refine T ?_
  refine C q1 F20 ?_
  refine C q2 F21 ?_
  refine C q3 F18 ?_
  refine C Jw F19 ?_
  exact D
end Go.Sy.YteinjapglfkamaaGreat
namespace Go.Proofs.YteinjapglfkamaaGreat
open Go.ChangeShapes Go.WideShapes Go.ChangeAt Go.RowKit
set_option maxRecDepth 100000
theorem Vn:Tryz.checked.prog.inPlace 6=Rows.drillRunsRow.inPlace:=by kernel_rfl
theorem Qt:Tryz.checked.prog.unfollowed 6=Rows.drillRunsRow.unfollowed:=by kernel_rfl
theorem T3:Tryz.checked.prog.recurses 6=Rows.drillRunsRow.recurses:=by kernel_rfl
theorem X9:Tryz.checked.prog.varsNamed 6=Rows.drillRunsRow.named:=by kernel_rfl
theorem Aaw:Tryz.checked.prog.liftsFinal=Rows.drillRunsRow.lifted:=by kernel_rfl
theorem Vm:laidOutB Tryz.checked.prog=true:=by kernel_rfl
theorem Yc:Tryz.checked.prog.mayEnter=true:=by kernel_rfl
theorem Ya:Tryz.checked.prog.stopsHeard=true:=by kernel_rfl
theorem Yb:joinedFacts Tryz.checked.prog 6 Tryz.f6 Rows.drillRunsSpec Rows.drillRunsRow=true:=by
 unfold joinedFacts
 rw[Vn,Qt,T3,X9,Aaw,Vm,Yc,Ya]
 kernel_rfl
end Go.Proofs.YteinjapglfkamaaGreat
