/-
  Y4 Y5 X2 Sy23 O1 Y6 Y8 O4 Y9 G1 G2 F1 G3 S0 G4 G5 G6 G7 G8 G9 G10 G11 G12 F2 F3 G14 B1 R4 R9 R10 R11 R12 R13: parts of a proof, joined by program.
-/
import Derived.Test.YteinjapglfkamaaGreatXD9
import Derived.Test.YteinjapglfkamaaGreatXD3
import Derived.Test.YteinjapglfkamaaGreatXD4
import Derived.Test.YteinjapglfkamaaGreatXD5
namespace Go.Sy.YteinjapglfkamaaGreat
open Go.Proofs
attribute [local irreducible] Go.Sy.G Go.Sy.DR
set_option maxRecDepth 100000
set_option maxHeartbeats 4000000
def Aud (n:Net) (m:MacM) (now:Int) (j:Nat):Obs:=[(0,.box (Jb n m.up now m.injected m.drops)),(902,.row 1 D4 (L3 m.tables now j)),(903,.row 1 Lh m.queues)]
theorem docDoS (n:Net) (hn:n.Fin) (hm1:n.Num) (hrt:Ae n=true) (m:MacM) (J D:Int) (hm0:MacOK n m J D) (hJ:J<900000000000) (hD0:0≤D) (hD:D≤900000000000) (x:StepM) (hb:x.bytes.length<100000) :
  Sy.Spec Tryz.prog 58 [.ptr 0 0,Bo x] (E6 n m) (.sl 3 Bk (doT n m x).2) (E6 n (doT n m x).1):=cT F58 Tryz.ntmps58 fun F hF=>by
 have hres:=doT.eq_1 n m x
 generalize doT n m x=res at *
 have hls:=hn.links
 unfold Ap at hls
 conv=>whnf
 refine⟨fun h=>?_,fun h=>?_⟩
 ·have h1:x.kind=1:=by simpa using h
  rw[if_pos h1]at hres
  have hij:=injectT.eq_1 n m x.port x.bytes
  generalize injectT n m x.port x.bytes=ri at *
  subst hres
  clear h
  have q0:=A8 x.port n.ports.length
  have hpl:=placeB_iff (d:=x.port) (k:=n.ports.length)
  generalize Ai x.port n.ports.length=pb at *
  refine oO ?_
  refine cD q0 F46 ?_
  cases pb
  ·rw[if_pos (.inl rfl)]at hij
   subst hij
   (refine oD ?_;refine aF ?_;refine oD ?_)
   refine⟨qq,?_⟩
   ((conv=>whnf);refine aF ?_;refine rg ?_;conv=>whnf)
   (skip)
   refine Am 4 3 Bk E ?_
   exact done E (.cons .tmp .nil) [] (E6 n ri) (fun _ h=>h) E E ⟨Y,⟨.inl E,E,.inl E,E,.inl E,E,Y⟩,E,E⟩
  have hp:=hpl.1 rfl
  have hlk:=E5 hrt hp.2
  rw[Ak hp.2]at hij
  obtain ⟨p,hpp⟩:∃ p,n.ports[x.port.toNat]'hp.2=p:=⟨_,rfl⟩
  rw[hpp]at hij hlk
  have hinj:=hm0.inj
  have hok:MacOK n ⟨m.up,m.tables,m.queues,m.now,m.injected+1,m.drops⟩ (J+1) D:=⟨hm0.up,hm0.tabs,hm0.ques,hm0.tab,hm0.que,hm0.now,⟨by dsimp only;omega,by dsimp only;omega⟩,hm0.drp⟩
  have hdr:H2 ⟨m.up,m.tables,m.queues,m.now,m.injected+1,m.drops⟩:=fun i=>⟨(hm0.drp i).1,by have:=(hm0.drp i).2;dsimp only at *;omega⟩
  have he:=T0 n x.port x.bytes
  have hdom:=T1 (n:=n) (port:=x.port) (b:=x.bytes)
  have q1:=Agc n hn x.port x.bytes hb
  have hfr:=Sj n x.port x.bytes
  generalize enterT n x.port x.bytes=r at *
  have q2:=Vp n ⟨m.up,m.tables,m.queues,m.now,m.injected+1,m.drops⟩ r.1 ⟨x.port,0,m.injected+1,r.2.1⟩ r.2.2 ⟨he.1,by have:=he.2;omega⟩ (fun h=>by
   have:=hdom h
   exact⟨this.1,by show r.1.toNat<m.queues.length;rw[hm0.ques];exact this.2⟩) hdr (C9 hok _) (Dw hfr _ ⟨by omega,by have:=hn.ports;unfold Ap at this;omega⟩ qy)
  (refine oD ?_;refine aT ?_;refine oD ?_)
  refine⟨E,hp.1,hp.2,?_⟩
  rw[hpp]
  conv=>whnf
  refine kW ?_
  refine⟨fun h=>?_,fun h=>?_⟩
  ·have h2:p.link=-1:=by simpa using h
   rw[if_neg (by simp;omega)]at hij
   subst hij
   clear h
   refine oO ?_
   refine iW ?_
   refine cD q1 F126 ?_
   refine oD ?_
   refine kW ?_
   refine Bd (Af [] E F127 q2 E ⟨E,E,E,Y⟩ E ⟨.inl E,.inl E,.inl E,Y⟩) qq E ?_
   refine oD ?_
   refine kW ?_
   refine Am 4 3 Bk E ?_
   exact done E (.cons .tmp .nil) [] (E6 n (comeM _ _ _ _)) (fun _ h=>h) E E ⟨Y,⟨.inl E,E,.inl E,E,.inl E,E,Y⟩,E,E⟩
  ·have h2:¬ p.link=-1:=by simpa using h
   rw[if_pos (.inr qn)]at hij
   subst hij
   refine oO ?_
   refine Am 4 3 Bk E ?_
   exact done E (.cons .tmp .nil) [] (E6 n ri) (fun _ h=>h) E E ⟨Y,⟨.inl E,E,.inl E,E,.inl E,E,Y⟩,E,E⟩
 have h1:¬ x.kind=1:=by simpa using h
 rw[if_neg h1]at hres
 clear h
 refine oO ?_
 refine⟨fun h=>?_,fun h=>?_⟩
 ·have h1:x.kind=2:=by simpa using h
  rw[if_pos h1]at hres
  subst hres
  have q1:=Arm n hn hm1 m J D hm0 hD0 hD x
  refine oO ?_
  refine Ad (Af [] E F128 q1 E ⟨E,E,E,Y⟩ E ⟨.inl E,.inl E,.inl E,Y⟩) E E ?_
  refine oO ?_
  exact done E (.cons .tmp .nil) [] (E6 n (pickT n m x.domain x.at_).1) (fun _ h=>h) E E ⟨Y,⟨.inl E,E,.inl E,E,.inl E,E,Y⟩,E,E⟩
 have h1:¬ x.kind=2:=by simpa using h
 rw[if_neg h1]at hres
 clear h
 refine oO ?_
 refine⟨fun h=>?_,fun h=>?_⟩
 ·have h1:x.kind=3:=by simpa using h
  rw[if_pos h1]at hres
  subst hres
  have q1:=Ahw n m x (C9 hm0 _)
  refine oO ?_
  refine Ad (Af [] E F129 q1 E ⟨E,E,E,Y⟩ E ⟨.inl E,.inl E,.inl E,Y⟩) E E ?_
  refine oO ?_
  refine Am 4 3 Bk E ?_
  exact done E (.cons .tmp .nil) [] (E6 n (takeM m x.domain x.at_).1) (fun _ h=>h) E E ⟨Y,⟨.inl E,E,.inl E,E,.inl E,E,Y⟩,E,E⟩
 have h1:¬ x.kind=3:=by simpa using h
 rw[if_neg h1]at hres
 clear h
 refine oO ?_
 refine⟨fun h=>?_,fun h=>?_⟩
 ·have h1:x.kind=4:=by simpa using h
  rw[if_pos h1]at hres
  have hnow:=hm0.now
  have htl:m.tables.length<2147483648:=by rw[hm0.tabs];exact hn.domains
  have hto:=hm0.tab
  have hti:∀ nw,min (m.now+1) 1099511627776=nw→Oj m=⟨m.up,L3 m.tables nw m.tables.length,m.queues,nw,m.injected,m.drops⟩:=fun nw this=>by
   unfold Oj L3
   rw[this,List.take_length,List.drop_length,List.append_nil]
  clear h
  refine oO ?_
  refine⟨fun h=>?_,fun h=>?_⟩
  ·have h2:m.now<1099511627776:=of_decide_eq_true h
   rw[hti (m.now+1) qn]at hres
   subst hres
   clear h
   refine oO ?_
   refine iW ?_
   refine At m.tables.length (fun j=>[(0,.ptr 0 0),(8,Aa j)]) (fun j=>Aud n m (m.now+1) j) [] ⟨⟨E,E,E,E,Y⟩,⟨.inl E,E,.inl E,E,.inl E,E,Y⟩,E,E⟩ ?_
   intro j hj
   have hal:=Q1 m.tables (m.now+1) j
   refine oO ?_
   refine⟨fun h=>?_,fun h=>?_⟩
   ·have hlt:j<m.tables.length:=qA h
    have hj0:((j:Nat):Int).toNat<(L3 m.tables (m.now+1) j).length:=by rw[hal];simpa using hlt
    obtain ⟨t,hoo⟩:∃ t,m.tables[j]=t:=⟨_,rfl⟩
    have e1:(L3 m.tables (m.now+1) j)[((j:Nat):Int).toNat]'hj0=t:=(Aa8 m.tables (m.now+1) j hlt (by rw[hal];exact hlt)).trans hoo
    have hs:=V4 m.tables (m.now+1) j hlt
    rw[hoo]at hs
    have ht:=hto t (by rw[← hoo];exact List.getElem_mem hlt)
    clear h
    refine oO ?_
    refine⟨by omega,hj0,?_⟩
    conv=>whnf
    refine⟨E,hj0,?_⟩
    rw[e1]
    conv=>whnf
    refine cD (Aci t (m.now+1) ht.short ht.mac) F130 ?_
    refine oD ?_
    refine⟨by omega,hj0,?_⟩
    conv=>whnf
    refine⟨E,hj0,ageT t (m.now+1),E,E,?_⟩
    conv=>whnf
    refine kW ?_
    refine iW ?_
    exact An [] hlt ⟨⟨E,E,E,E,Y⟩,⟨.inl E,E,.inl (congrArg (Ob.row 1 D4) hs.symm),E,.inl E,E,Y⟩,E,E⟩
   ·have hjj:j=m.tables.length:=qB h
    subst hjj
    clear h
    refine oO ?_
    refine Am 4 3 Bk E ?_
    exact done E (.cons .tmp .nil) [] (E6 n ⟨m.up,L3 m.tables (m.now+1) m.tables.length,m.queues,(m.now+1),m.injected,m.drops⟩) (fun _ h=>h) E E ⟨Y,⟨.inl E,E,.inl E,E,.inl E,E,Y⟩,E,E⟩
  ·have h2:¬ m.now<1099511627776:=of_decide_eq_false h
   rw[hti m.now qn]at hres
   subst hres
   clear h
   refine oO ?_
   refine At m.tables.length (fun j=>[(0,.ptr 0 0),(8,Aa j)]) (fun j=>Aud n m (m.now) j) [] ⟨⟨E,E,E,E,Y⟩,⟨.inl E,E,.inl E,E,.inl E,E,Y⟩,E,E⟩ ?_
   intro j hj
   have hal:=Q1 m.tables (m.now) j
   refine oO ?_
   refine⟨fun h=>?_,fun h=>?_⟩
   ·have hlt:j<m.tables.length:=qA h
    have hj0:((j:Nat):Int).toNat<(L3 m.tables (m.now) j).length:=by rw[hal];simpa using hlt
    obtain ⟨t,hoo⟩:∃ t,m.tables[j]=t:=⟨_,rfl⟩
    have e1:(L3 m.tables (m.now) j)[((j:Nat):Int).toNat]'hj0=t:=(Aa8 m.tables (m.now) j hlt (by rw[hal];exact hlt)).trans hoo
    have hs:=V4 m.tables (m.now) j hlt
    rw[hoo]at hs
    have ht:=hto t (by rw[← hoo];exact List.getElem_mem hlt)
    clear h
    refine oO ?_
    refine⟨by omega,hj0,?_⟩
    conv=>whnf
    refine⟨E,hj0,?_⟩
    rw[e1]
    conv=>whnf
    refine cD (Aci t (m.now) ht.short ht.mac) F130 ?_
    refine oD ?_
    refine⟨by omega,hj0,?_⟩
    conv=>whnf
    refine⟨E,hj0,ageT t (m.now),E,E,?_⟩
    conv=>whnf
    refine kW ?_
    refine iW ?_
    exact An [] hlt ⟨⟨E,E,E,E,Y⟩,⟨.inl E,E,.inl (congrArg (Ob.row 1 D4) hs.symm),E,.inl E,E,Y⟩,E,E⟩
   ·have hjj:j=m.tables.length:=qB h
    subst hjj
    clear h
    refine oO ?_
    refine Am 4 3 Bk E ?_
    exact done E (.cons .tmp .nil) [] (E6 n ⟨m.up,L3 m.tables (m.now) m.tables.length,m.queues,(m.now),m.injected,m.drops⟩) (fun _ h=>h) E E ⟨Y,⟨.inl E,E,.inl E,E,.inl E,E,Y⟩,E,E⟩
 have h1:¬ x.kind=4:=by simpa using h
 rw[if_neg h1]at hres
 clear h
 refine oO ?_
 refine⟨fun h=>?_,fun h=>?_⟩
 ·have h1:x.kind=5:=by simpa using h
  rw[if_pos h1]at hres
  clear h
  refine oO ?_
  refine kW ?_
  refine⟨fun h=>?_,fun h=>?_⟩
  ·have h2:x.up.length=n.links.length:=qA h
   rw[if_pos h2]at hres
   subst hres
   clear h
   refine oO ?_
   refine Ad (Ac Γ.toTy 134 E E E E E (.lit (e:=Ab) (l:=[]) E E) .sl qz (by simp;omega) (by simp;omega)) E E ?_
   refine Ao 134 E ?_
   refine oO ?_
   refine Am 4 3 Bk E ?_
   exact done E (.cons .tmp .nil) [] (E6 n (upT m x.up)) (fun _ h=>h) E E ⟨Y,⟨.inl E,E,.inl E,E,.inl E,E,Y⟩,E,E⟩
  ·have h2:¬ x.up.length=n.links.length:=qB h
   rw[if_neg h2]at hres
   subst hres
   clear h
   refine oO ?_
   refine Am 4 3 Bk E ?_
   exact done E (.cons .tmp .nil) [] (E6 n m) (fun _ h=>h) E E ⟨Y,⟨.inl E,E,.inl E,E,.inl E,E,Y⟩,E,E⟩
 have h1:¬ x.kind=5:=by simpa using h
 rw[if_neg h1]at hres
 subst hres
 clear h
 refine oO ?_
 refine Am 4 3 Bk E ?_
 exact done E (.cons .tmp .nil) [] (E6 n m) (fun _ h=>h) E E ⟨Y,⟨.inl E,E,.inl E,E,.inl E,E,Y⟩,E,E⟩
def docC (n:Net) (c8 c9 c10:SV) (now inj:Int) (d:Nat→Int):List SV :=
 [.sl 5 Bs n.devices,.sl 7 Bh n.ports,.sl 3 Cs n.links,.sl 6 Aw n.domains,.sl 4 Bp n.statics,.sl 4 B7 n.floods,.sl 5 C4 n.vrfs,.sl 5 Dp n.irbs,c8,c9,c10,.val (.int .i64 now),.val (.int .i64 inj),
 .val (.int .i64 (d 0)),.val (.int .i64 (d 1)),.val (.int .i64 (d 2)),.val (.int .i64 (d 3)),.val (.int .i64 (d 4)),.val (.int .i64 (d 5)),.val (.int .i64 (d 6)),.val (.int .i64 (d 7)),.val (.int .i64 (d 8)),.val (.int .i64 (d 9)),.val (.int .i64 (d 10)),.val (.int .i64 (d 11)),.val (.int .i64 (d 12)),.val (.int .i64 (d 13)),.val (.int .i64 (d 14)),.val (.int .i64 (d 15)),.val (.int .i64 (d 16)),.val (.int .i64 (d 17)),.val (.int .i64 (d 18)),.val (.int .i64 (d 19)),.val (.int .i64 (d 20)),.val (.int .i64 (d 21)),.val (.int .i64 (d 22)),.val (.int .i64 (d 23)),.val (.int .i64 (d 24)),.val (.int .i64 (d 25)),.val (.int .i64 (d 26)),.val (.int .i64 (d 27)),.val (.int .i64 (d 28)),.val (.int .i64 (d 29)),.val (.int .i64 (d 30)),.val (.int .i64 (d 31)),.val (.int .i64 (d 32)),.val (.int .i64 (d 33)),.val (.int .i64 (d 34)),.val (.int .i64 (d 35)),.val (.int .i64 (d 36)),.val (.int .i64 (d 37)),.val (.int .i64 (d 38)),.val (.int .i64 (d 39)),.val (.int .i64 (d 40)),.val (.int .i64 (d 41)),.val (.int .i64 (d 42)),.val (.int .i64 (d 43)),.val (.int .i64 (d 44)),.val (.int .i64 (d 45)),.val (.int .i64 (d 46)),.val (.int .i64 (d 47)),.val (.int .i64 (d 48)),.val (.int .i64 (d 49)),.val (.int .i64 (d 50)),.val (.int .i64 (d 51)),.val (.int .i64 (d 52)),.val (.int .i64 (d 53)),.val (.int .i64 (d 54)),.val (.int .i64 (d 55)),.val (.int .i64 (d 56)),.val (.int .i64 (d 57)),.val (.int .i64 (d 58)),.val (.int .i64 (d 59)),.val (.int .i64 (d 60)),.val (.int .i64 (d 61)),.val (.int .i64 (d 62)),.val (.int .i64 (d 63))]
def nilC:SV:=.val (.slice none 0 0)
def Aue (n:Net) (j:Nat):Obs:=[(1,.box (Abl n)),(10,.box (docC n (.osl 1000) nilC nilC 0 0 (fun _=>0))),(1000,.row 1 Ab (List.replicate j true))]
theorem Aa1 (n:Net) (hn:n.Fin) (hb:okB n (Km n)=false) :
  Sy.Spec Tryz.prog 56 [Aj n] [] (.tup [.val (.pointer none),Aa 2]) []:=cT F56 Tryz.ntmps56 fun F hF=>by
 have hls:=hn.links
 unfold Ap at hls
 have q2:=Sx n (Km n) hn hb
 unfold Km at q2
 conv=>whnf
 refine K9 10 8 1000 1 Ab E E E E ?_
 refine At n.links.length (fun j=>[(1,.ptr 1 0),(4,.ptr 10 0),(5,Aa j)]) (fun j=>Aue n j) [] ⟨⟨E,E,E,E,E,E,Y⟩,⟨.inl E,E,.inl E,E,.inl E,E,Y⟩,E,E⟩ ?_
 intro j hj
 refine oO ?_
 refine⟨fun h=>?_,fun h=>?_⟩
 ·have hlt:j<n.links.length:=qA h
  have hs:List.replicate (j+1) true=List.replicate j true++[true]:=by rw[List.replicate_succ']
  clear h
  refine oO ?_
  refine Ad (Ac Γ.toTy 24 E E E E E (.row E) (.lit (e:=Ab) (l:=[true]) E E) qz (by simp;omega) (by simp;omega)) E E ?_
  refine oO ?_
  refine iW ?_
  exact An [(1000,24)] hlt ⟨⟨E,E,E,E,E,E,Y⟩,⟨.inl E,E,.inl E,E,.inl (congrArg (Ob.row 1 Ab) hs),E,Y⟩,E,E⟩
 have hjj:j=n.links.length:=qB h
 subst hjj
 clear h
 refine Ao 1000 E ?_
 refine oO ?_
 refine cD q2 F123 ?_
 refine oD ?_
 refine⟨qq,?_⟩
 ((conv=>whnf);refine aT ?_;refine rg ?_;conv=>whnf)
 exact dN
theorem Amb (n:Net) (hn:n.Fin) (hb:okB n (Km n)=true) :
  Sy.Spec Tryz.prog 56 [Aj n] [] (.tup [.ptr 0 0,Aa 0]) (E6 n (newT n)):=cT F56 Tryz.ntmps56 fun F hF=>by
 have hls:=hn.links
 have hds:=hn.domains
 unfold Ap at hls hds
 have q2:=Uq n (Km n) hn hb
 unfold Km at q2
 have hnt:=newT.eq_1 n
 generalize newT n=m at *
 conv=>whnf
 refine K9 10 8 1000 1 Ab E E E E ?_
 refine At n.links.length (fun j=>[(1,.ptr 1 0),(4,.ptr 10 0),(5,Aa j)]) (fun j=>Aue n j) [] ⟨⟨E,E,E,E,E,E,Y⟩,⟨.inl E,E,.inl E,E,.inl E,E,Y⟩,E,E⟩ ?_
 intro j hj
 refine oO ?_
 refine⟨fun h=>?_,fun h=>?_⟩
 ·have hlt:j<n.links.length:=qA h
  have hs:List.replicate (j+1) true=List.replicate j true++[true]:=by rw[List.replicate_succ']
  clear h
  refine oO ?_
  refine Ad (Ac Γ.toTy 24 E E E E E (.row E) (.lit (e:=Ab) (l:=[true]) E E) qz (by simp;omega) (by simp;omega)) E E ?_
  refine oO ?_
  refine iW ?_
  exact An [(1000,24)] hlt ⟨⟨E,E,E,E,E,E,Y⟩,⟨.inl E,E,.inl E,E,.inl (congrArg (Ob.row 1 Ab) hs),E,Y⟩,E,E⟩
 have hjj:j=n.links.length:=qB h
 subst hjj
 clear h
 refine Ao 1000 E ?_
 refine oO ?_
 refine cD q2 F123 ?_
 refine oD ?_
 refine⟨qq,?_⟩
 ((conv=>whnf);refine aF ?_;refine rg ?_;conv=>whnf)
 refine Ad (B5 Γ.toTy (d:=42) (n:=n.domains.length) (fun _:Unit=>.val (.slice none 0 0)) () E E E E E E E E qn qn E E E) E E ?_
 refine oO ?_
 refine Ad (B5 Γ.toTy (d:=49) (n:=n.domains.length) (fun _:Unit=>.val (.slice none 0 0)) () E E E E E E E E qn qn E E E) E E ?_
 refine oO ?_
 refine V1 42 (e':=D4) (l':=List.replicate n.domains.length []) E qz (fun M w i h1 h2 v hv=>?_) ?_
 ·rw[List.getElem_replicate]
  simp only[RdD]at hv
  exact Oh hv
 refine V1 49 (e':=Lh) (l':=List.replicate n.domains.length []) E qz (fun M w i h1 h2 v hv=>?_) ?_
 ·rw[List.getElem_replicate]
  simp only[RdD]at hv
  exact Oh hv
 subst hnt
 exact done E (.cons .tmp (.cons .tmp .nil)) [(0,10),(902,42),(903,49)] (E6 n ⟨List.replicate n.links.length true,List.replicate n.domains.length [],List.replicate n.domains.length [],0,0,fun _=>0⟩) (fun _ h=>h) E E ⟨Y,⟨.inl E,E,.inl E,E,.inl E,E,Y⟩,E,E⟩
end Go.Sy.YteinjapglfkamaaGreat
namespace Go.Sy
open Go.ChangeShapes Go.WideShapes Go.ChangeAt Go.RowKit
section
variable {H:Type} (enc:TypeId × Value→H) (P:Program) (W:World)
def Op1 (t:TypeId) {α:Type} (e:α→SV) (p:α→Prop):Prop :=
 ∀ n c y,DataW.trod enc P W 0 (fun _=>true) true n t [c]=some y→∃ x,p x∧Rd κ0 W (e x) c∧c.oneCell'=true
def OpN (t:TypeId) {α:Type} (e:α→SV) (p:α→Prop) (sz:Nat):Prop :=
 ∀ n cs y,DataW.trod enc P W 0 (fun _=>true) true n t cs=some y→∃ x,p x∧cs.length=sz∧Ones cs∧RdL κ0 W (cellsOf (e x)) cs
variable {enc P W}
theorem Cr {t:TypeId} {k:IntKind} (ht:P.underlying t=some (.int k)):Op1 enc P W t (fun z=>.val (.int k z)) (fun z=>(Lit.int k z).wf=true):=fun n c y h=>by
 obtain ⟨z,e,_,hw⟩:=DataW.trod_int ht h
 have e:c=.int k z:=by simpa using e
 subst e
 exact⟨z,hw,by simp[Rd],E⟩
theorem Ajl {t:TypeId} (ht:P.underlying t=some .string):Op1 enc P W t Ab8 (fun s=>s.size≤maxLen):=fun n c y h=>by
 obtain ⟨z,e,_,hw⟩:=DataW.trod_string ht h
 have e:c=.string z:=by simpa using e
 subst e
 exact⟨z,hw,by simp[Ab8,Rd],E⟩
theorem Alr {t:TypeId} {k:IntKind} (ht:P.underlying t=some (.int k)):OpN enc P W t (fun z=>.val (.int k z)) (fun z=>(Lit.int k z).wf=true) 1:=fun n cs y h=>by
 obtain ⟨z,rfl,_,hw⟩:=DataW.trod_int ht h
 refine⟨z,hw,E,fun c hc=>by simp at hc;subst hc;rfl,?_⟩
 simp[cellsOf,RdL,Rd]
theorem Adj {base:Nat} {a:Addr} {n:Nat} {cs:List Value} (h:W.cells? base a n=some cs):cs.length=n∧∀ j (_:j<n),W.cell? (a.add j)=cs[j]?:=by
 unfold World.cells? at h
 split at h
 ·refine⟨by simpa using mapM_some_length h,fun j hj=>?_⟩
  exact mapM_some_get h j j (by simp[hj])
 ·cases h
theorem Ht {t et:TypeId} {α:Type} {e:α→SV} {p:α→Prop} {sz:Nat} (ht:P.underlying t=some (.slice et)) (hsz:P.cellsOf et=sz) (h0:0<sz) (hb:∀ x,(e x).boxed=true) (hd:∀ x,(e x).data=true) (hO:OpN enc P W et e p sz) :
  Op1 enc P W t (fun l:List α=>.sl sz e l) (fun l=>(∀ x∈l,p x)∧l.length≤maxLen):=fun n c y h=>by
 rcases DataW.trod_slice ht h with ⟨hcs,_⟩ | ⟨a,len,cap,elems,rest,m,rfl,hcs,_,_,hlc,hcm,hel,hget,_⟩
 ·have hc:c=.slice none 0 0:=by simpa using hcs
  subst hc
  refine⟨[],⟨by simp,Nat.zero_le _⟩,?_,E⟩
  simp only[Rd,RdD]
  exact .inl ⟨Y,none,0,E⟩
 ·have hc:c=.slice (some a) len cap:=by simpa using hcs
  subst hc
  rw[hsz]at hget
  have hall:∀ i:Fin len,∃ x,p x∧∃ cs,W.cells? 0 (a.add (i * sz)) sz=some cs∧cs.length=sz∧Ones cs∧RdL κ0 W (cellsOf (e x)) cs:=fun i=>by
   have h1:=hget i.1 i.2
   rw[List.getElem?_eq_getElem qn]at h1
   obtain ⟨cs,h2,h3⟩:=Option.bind_eq_some_iff.1 h1
   obtain ⟨x,h4,h5,h6,h7⟩:=hO _ _ _ h3
   exact⟨x,h4,cs,h2,h5,h6,h7⟩
  let xs:Fin len→α:=fun i=>Classical.choose (hall i)
  have hxs:∀ i,p (xs i)∧∃ cs,W.cells? 0 (a.add (i.1 * sz)) sz=some cs∧cs.length=sz∧Ones cs∧RdL κ0 W (cellsOf (e (xs i))) cs:=fun i=>Classical.choose_spec (hall i)
  refine⟨List.ofFn xs,⟨fun x hx=>?_,by simp;omega⟩,?_,E⟩
  ·obtain ⟨i,rfl⟩:=List.mem_ofFn.1 hx
   exact(hxs i).1
  ·simp only[Rd,RdD]
   by_cases hl:len=0
   ·subst hl
    exact .inl ⟨by simp,_,_,E⟩
   ·have hcell:∀ i:Fin len,∀ j,j<sz→∃ v,W.cell? ((a.add (i.1 * sz)).add j)=some v:=fun i j hj=>by
     obtain ⟨_,cs,h1,h2,_⟩:=hxs i
     have:=(Adj h1).2 j hj
     rw[List.getElem?_eq_getElem qn]at this
     exact⟨_,this⟩
    obtain ⟨b,off,spot⟩:=a
    have hspot:spot=none:=by
     obtain ⟨v,hv⟩:=hcell ⟨0,by omega⟩ 0 h0
     simpa [Addr.add] using World.cell?_spot hv
    subst hspot
    have hadd:∀ i j,((⟨b,off,none⟩:Addr).add i).add j=⟨b,off+i+j,none⟩:=fun i j=>by rw[Addr.add_lit,Addr.add_lit]
    refine .inr ⟨b,off,cap,by simp,by simpa using hlc,?_,?_,fun i hi=>?_⟩
    ·rintro (⟨k,hk⟩ | hk)
     ·cases hk
     ·exact hk
    ·obtain ⟨v,hv⟩:=hcell ⟨0,by omega⟩ 0 h0
     rw[hadd]at hv
     rcases Nat.lt_or_ge b W.heap.size with h | h
     ·exact h
     ·simp[World.cell?,Array.getElem?_eq_none h]at hv
    ·simp only[List.length_ofFn]at hi
     obtain ⟨_,cs,h1,h2,h3,h4⟩:=hxs ⟨i,hi⟩
     obtain ⟨u,g1,g2⟩:=Rd.of_cells (hb _) h3 h4
     refine⟨u,?_,?_,by rw[g2];exact h3,fun j hj=>?_⟩
     ·rw[List.getElem_ofFn]
      exact Rd.data _ _ (hd _) g1
     ·have:u.cells.toList.length=sz:=by rw[g2,h2]
      simpa using this
     ·have:=(Adj h1).2 j hj
      rw[hadd]at this
      rw[this,← g2]
      simp
end
end Go.Sy
namespace Go.Sy.YteinjapglfkamaaGreat
open Go.Proofs Go.ChangeShapes Go.WideShapes Go.ChangeAt Go.RowKit
set_option maxRecDepth 100000
section
variable {H:Type} {enc:TypeId × Value→H} {W:World}
def wI (k:IntKind) (z:Int):Prop:=(Lit.int k z).wf=true
theorem U0:Op1 enc Tryz.prog W 56 (fun l:List Int=>.sl 1 (fun z=>.val (.int .i64 z)) l) (fun l=>(∀ z∈l,wI .i64 z)∧l.length≤maxLen) :=
 Ht Tryz.underlying56 (by kernel_rfl:Tryz.prog.cellsOf 3=1) qy (fun _=>rfl) (fun _=>rfl) (Alr Tryz.underlying3)
theorem Asx:Op1 enc Tryz.prog W 70 (fun l:List Int=>.sl 1 (fun z=>.val (.int .u32 z)) l) (fun l=>(∀ z∈l,wI .u32 z)∧l.length≤maxLen) :=
 Ht Tryz.underlying70 (by kernel_rfl:Tryz.prog.cellsOf 75=1) qy (fun _=>rfl) (fun _=>rfl) (Alr Tryz.underlying75)
def Device.In (x:Device):Prop:=wI .i64 x.row∧wI .i64 x.prio∧x.name.size≤maxLen∧wI .u64 x.mac∧wI .u32 x.vtep
theorem Ajo:OpN enc Tryz.prog W 77 Bs Device.In 5:=fun n cs y h=>by
 obtain ⟨xs,m,_,_,hlen,hx,hg⟩:=DataW.trod_struct Tryz.underlying77 h
 have hlen:cs.length=5:=hlen.trans (by kernel_rfl:Tryz.prog.cellsOf 77=5)
 have hx:xs.length=5:=hx
 match cs,hlen with
 | [c0,c1,c2,c3,c4],_ =>
  have g0:DataW.trod enc Tryz.prog W 0 (fun _=>true) true m 3 (([c0,c1,c2,c3,c4].drop 0).take (Tryz.prog.cellsOf 3))=xs[0]?:=hg 0 _ rfl
  rw[(by kernel_rfl:Tryz.prog.cellsOf 3=1),List.getElem?_eq_getElem qn]at g0
  obtain ⟨z0,p0,r0,o0⟩:=Cr Tryz.underlying3 _ _ _ g0
  have g1:DataW.trod enc Tryz.prog W 0 (fun _=>true) true m 3 (([c0,c1,c2,c3,c4].drop 1).take (Tryz.prog.cellsOf 3))=xs[1]?:=hg 1 _ rfl
  rw[(by kernel_rfl:Tryz.prog.cellsOf 3=1),List.getElem?_eq_getElem qn]at g1
  obtain ⟨z1,p1,r1,o1⟩:=Cr Tryz.underlying3 _ _ _ g1
  have g2:DataW.trod enc Tryz.prog W 0 (fun _=>true) true m 9 (([c0,c1,c2,c3,c4].drop 2).take (Tryz.prog.cellsOf 9))=xs[2]?:=hg 2 _ rfl
  rw[(by kernel_rfl:Tryz.prog.cellsOf 9=1),List.getElem?_eq_getElem qn]at g2
  obtain ⟨z2,p2,r2,o2⟩:=Ajl Tryz.underlying9 _ _ _ g2
  have g3:DataW.trod enc Tryz.prog W 0 (fun _=>true) true m 57 (([c0,c1,c2,c3,c4].drop 3).take (Tryz.prog.cellsOf 57))=xs[3]?:=hg 3 _ rfl
  rw[(by kernel_rfl:Tryz.prog.cellsOf 57=1),List.getElem?_eq_getElem qn]at g3
  obtain ⟨z3,p3,r3,o3⟩:=Cr Tryz.underlying57 _ _ _ g3
  have g4:DataW.trod enc Tryz.prog W 0 (fun _=>true) true m 75 (([c0,c1,c2,c3,c4].drop 4).take (Tryz.prog.cellsOf 75))=xs[4]?:=hg 4 _ rfl
  rw[(by kernel_rfl:Tryz.prog.cellsOf 75=1),List.getElem?_eq_getElem qn]at g4
  obtain ⟨z4,p4,r4,o4⟩:=Cr Tryz.underlying75 _ _ _ g4
  refine⟨⟨z0,z1,z2,z3,z4⟩,⟨p0,p1,p2,p3,p4⟩,E,fun c hc=>?_,?_⟩
  ·simp only[List.mem_cons,List.not_mem_nil,or_false]at hc
   rcases hc with rfl | rfl | rfl | rfl | rfl<;>assumption
  ·simp only[Bs,cellsOf,RdL]
   exact⟨_,_,E,r0,_,_,E,r1,_,_,E,r2,_,_,E,r3,_,_,E,r4,E⟩
def Port.In (x:Port):Prop:=wI .i64 x.row∧wI .i64 x.dev∧wI .i64 x.native∧wI .i64 x.cost∧wI .i64 x.link∧x.name.size≤maxLen∧((∀ z∈x.tagged,wI .i64 z)∧x.tagged.length≤maxLen)
theorem Aqh:OpN enc Tryz.prog W 67 Bh Port.In 7:=fun n cs y h=>by
 obtain ⟨xs,m,_,_,hlen,hx,hg⟩:=DataW.trod_struct Tryz.underlying67 h
 have hlen:cs.length=7:=hlen.trans (by kernel_rfl:Tryz.prog.cellsOf 67=7)
 have hx:xs.length=7:=hx
 match cs,hlen with
 | [c0,c1,c2,c3,c4,c5,c6],_ =>
  have g0:DataW.trod enc Tryz.prog W 0 (fun _=>true) true m 3 (([c0,c1,c2,c3,c4,c5,c6].drop 0).take (Tryz.prog.cellsOf 3))=xs[0]?:=hg 0 _ rfl
  rw[(by kernel_rfl:Tryz.prog.cellsOf 3=1),List.getElem?_eq_getElem qn]at g0
  obtain ⟨z0,p0,r0,o0⟩:=Cr Tryz.underlying3 _ _ _ g0
  have g1:DataW.trod enc Tryz.prog W 0 (fun _=>true) true m 3 (([c0,c1,c2,c3,c4,c5,c6].drop 1).take (Tryz.prog.cellsOf 3))=xs[1]?:=hg 1 _ rfl
  rw[(by kernel_rfl:Tryz.prog.cellsOf 3=1),List.getElem?_eq_getElem qn]at g1
  obtain ⟨z1,p1,r1,o1⟩:=Cr Tryz.underlying3 _ _ _ g1
  have g2:DataW.trod enc Tryz.prog W 0 (fun _=>true) true m 3 (([c0,c1,c2,c3,c4,c5,c6].drop 2).take (Tryz.prog.cellsOf 3))=xs[2]?:=hg 2 _ rfl
  rw[(by kernel_rfl:Tryz.prog.cellsOf 3=1),List.getElem?_eq_getElem qn]at g2
  obtain ⟨z2,p2,r2,o2⟩:=Cr Tryz.underlying3 _ _ _ g2
  have g3:DataW.trod enc Tryz.prog W 0 (fun _=>true) true m 3 (([c0,c1,c2,c3,c4,c5,c6].drop 3).take (Tryz.prog.cellsOf 3))=xs[3]?:=hg 3 _ rfl
  rw[(by kernel_rfl:Tryz.prog.cellsOf 3=1),List.getElem?_eq_getElem qn]at g3
  obtain ⟨z3,p3,r3,o3⟩:=Cr Tryz.underlying3 _ _ _ g3
  have g4:DataW.trod enc Tryz.prog W 0 (fun _=>true) true m 3 (([c0,c1,c2,c3,c4,c5,c6].drop 4).take (Tryz.prog.cellsOf 3))=xs[4]?:=hg 4 _ rfl
  rw[(by kernel_rfl:Tryz.prog.cellsOf 3=1),List.getElem?_eq_getElem qn]at g4
  obtain ⟨z4,p4,r4,o4⟩:=Cr Tryz.underlying3 _ _ _ g4
  have g5:DataW.trod enc Tryz.prog W 0 (fun _=>true) true m 9 (([c0,c1,c2,c3,c4,c5,c6].drop 5).take (Tryz.prog.cellsOf 9))=xs[5]?:=hg 5 _ rfl
  rw[(by kernel_rfl:Tryz.prog.cellsOf 9=1),List.getElem?_eq_getElem qn]at g5
  obtain ⟨z5,p5,r5,o5⟩:=Ajl Tryz.underlying9 _ _ _ g5
  have g6:DataW.trod enc Tryz.prog W 0 (fun _=>true) true m 56 (([c0,c1,c2,c3,c4,c5,c6].drop 6).take (Tryz.prog.cellsOf 56))=xs[6]?:=hg 6 _ rfl
  rw[(by kernel_rfl:Tryz.prog.cellsOf 56=1),List.getElem?_eq_getElem qn]at g6
  obtain ⟨z6,p6,r6,o6⟩:=U0 _ _ _ g6
  refine⟨⟨z0,z1,z2,z3,z4,z5,z6⟩,⟨p0,p1,p2,p3,p4,p5,p6⟩,E,fun c hc=>?_,?_⟩
  ·simp only[List.mem_cons,List.not_mem_nil,or_false]at hc
   rcases hc with rfl | rfl | rfl | rfl | rfl | rfl | rfl<;>assumption
  ·simp only[Bh,cellsOf,RdL]
   exact⟨_,_,E,r0,_,_,E,r1,_,_,E,r2,_,_,E,r3,_,_,E,r4,_,_,E,r5,_,_,E,r6,E⟩
def Link.In (x:Link):Prop:=wI .i64 x.row∧wI .i64 x.a∧wI .i64 x.b
theorem Aqi:OpN enc Tryz.prog W 167 Cs Link.In 3:=fun n cs y h=>by
 obtain ⟨xs,m,_,_,hlen,hx,hg⟩:=DataW.trod_struct Tryz.underlying167 h
 have hlen:cs.length=3:=hlen.trans (by kernel_rfl:Tryz.prog.cellsOf 167=3)
 have hx:xs.length=3:=hx
 match cs,hlen with
 | [c0,c1,c2],_ =>
  have g0:DataW.trod enc Tryz.prog W 0 (fun _=>true) true m 3 (([c0,c1,c2].drop 0).take (Tryz.prog.cellsOf 3))=xs[0]?:=hg 0 _ rfl
  rw[(by kernel_rfl:Tryz.prog.cellsOf 3=1),List.getElem?_eq_getElem qn]at g0
  obtain ⟨z0,p0,r0,o0⟩:=Cr Tryz.underlying3 _ _ _ g0
  have g1:DataW.trod enc Tryz.prog W 0 (fun _=>true) true m 3 (([c0,c1,c2].drop 1).take (Tryz.prog.cellsOf 3))=xs[1]?:=hg 1 _ rfl
  rw[(by kernel_rfl:Tryz.prog.cellsOf 3=1),List.getElem?_eq_getElem qn]at g1
  obtain ⟨z1,p1,r1,o1⟩:=Cr Tryz.underlying3 _ _ _ g1
  have g2:DataW.trod enc Tryz.prog W 0 (fun _=>true) true m 3 (([c0,c1,c2].drop 2).take (Tryz.prog.cellsOf 3))=xs[2]?:=hg 2 _ rfl
  rw[(by kernel_rfl:Tryz.prog.cellsOf 3=1),List.getElem?_eq_getElem qn]at g2
  obtain ⟨z2,p2,r2,o2⟩:=Cr Tryz.underlying3 _ _ _ g2
  refine⟨⟨z0,z1,z2⟩,⟨p0,p1,p2⟩,E,fun c hc=>?_,?_⟩
  ·simp only[List.mem_cons,List.not_mem_nil,or_false]at hc
   rcases hc with rfl | rfl | rfl<;>assumption
  ·simp only[Cs,cellsOf,RdL]
   exact⟨_,_,E,r0,_,_,E,r1,_,_,E,r2,E⟩
def Domain.In (x:Domain):Prop:=wI .i64 x.dev∧wI .i64 x.vlan∧wI .i64 x.vni∧wI .i64 x.irb∧wI .i64 x.row∧((∀ z∈x.peers,wI .i64 z)∧x.peers.length≤maxLen)
theorem Ajn:OpN enc Tryz.prog W 69 Aw Domain.In 6:=fun n cs y h=>by
 obtain ⟨xs,m,_,_,hlen,hx,hg⟩:=DataW.trod_struct Tryz.underlying69 h
 have hlen:cs.length=6:=hlen.trans (by kernel_rfl:Tryz.prog.cellsOf 69=6)
 have hx:xs.length=6:=hx
 match cs,hlen with
 | [c0,c1,c2,c3,c4,c5],_ =>
  have g0:DataW.trod enc Tryz.prog W 0 (fun _=>true) true m 3 (([c0,c1,c2,c3,c4,c5].drop 0).take (Tryz.prog.cellsOf 3))=xs[0]?:=hg 0 _ rfl
  rw[(by kernel_rfl:Tryz.prog.cellsOf 3=1),List.getElem?_eq_getElem qn]at g0
  obtain ⟨z0,p0,r0,o0⟩:=Cr Tryz.underlying3 _ _ _ g0
  have g1:DataW.trod enc Tryz.prog W 0 (fun _=>true) true m 3 (([c0,c1,c2,c3,c4,c5].drop 1).take (Tryz.prog.cellsOf 3))=xs[1]?:=hg 1 _ rfl
  rw[(by kernel_rfl:Tryz.prog.cellsOf 3=1),List.getElem?_eq_getElem qn]at g1
  obtain ⟨z1,p1,r1,o1⟩:=Cr Tryz.underlying3 _ _ _ g1
  have g2:DataW.trod enc Tryz.prog W 0 (fun _=>true) true m 3 (([c0,c1,c2,c3,c4,c5].drop 2).take (Tryz.prog.cellsOf 3))=xs[2]?:=hg 2 _ rfl
  rw[(by kernel_rfl:Tryz.prog.cellsOf 3=1),List.getElem?_eq_getElem qn]at g2
  obtain ⟨z2,p2,r2,o2⟩:=Cr Tryz.underlying3 _ _ _ g2
  have g3:DataW.trod enc Tryz.prog W 0 (fun _=>true) true m 3 (([c0,c1,c2,c3,c4,c5].drop 3).take (Tryz.prog.cellsOf 3))=xs[3]?:=hg 3 _ rfl
  rw[(by kernel_rfl:Tryz.prog.cellsOf 3=1),List.getElem?_eq_getElem qn]at g3
  obtain ⟨z3,p3,r3,o3⟩:=Cr Tryz.underlying3 _ _ _ g3
  have g4:DataW.trod enc Tryz.prog W 0 (fun _=>true) true m 3 (([c0,c1,c2,c3,c4,c5].drop 4).take (Tryz.prog.cellsOf 3))=xs[4]?:=hg 4 _ rfl
  rw[(by kernel_rfl:Tryz.prog.cellsOf 3=1),List.getElem?_eq_getElem qn]at g4
  obtain ⟨z4,p4,r4,o4⟩:=Cr Tryz.underlying3 _ _ _ g4
  have g5:DataW.trod enc Tryz.prog W 0 (fun _=>true) true m 56 (([c0,c1,c2,c3,c4,c5].drop 5).take (Tryz.prog.cellsOf 56))=xs[5]?:=hg 5 _ rfl
  rw[(by kernel_rfl:Tryz.prog.cellsOf 56=1),List.getElem?_eq_getElem qn]at g5
  obtain ⟨z5,p5,r5,o5⟩:=U0 _ _ _ g5
  refine⟨⟨z0,z1,z2,z3,z4,z5⟩,⟨p0,p1,p2,p3,p4,p5⟩,E,fun c hc=>?_,?_⟩
  ·simp only[List.mem_cons,List.not_mem_nil,or_false]at hc
   rcases hc with rfl | rfl | rfl | rfl | rfl | rfl<;>assumption
  ·simp only[Aw,cellsOf,RdL]
   exact⟨_,_,E,r0,_,_,E,r1,_,_,E,r2,_,_,E,r3,_,_,E,r4,_,_,E,r5,E⟩
def Static.In (x:Static):Prop:=wI .i64 x.row∧wI .i64 x.domain∧wI .i64 x.port∧wI .u64 x.mac
theorem Ajm:OpN enc Tryz.prog W 171 Bp Static.In 4:=fun n cs y h=>by
 obtain ⟨xs,m,_,_,hlen,hx,hg⟩:=DataW.trod_struct Tryz.underlying171 h
 have hlen:cs.length=4:=hlen.trans (by kernel_rfl:Tryz.prog.cellsOf 171=4)
 have hx:xs.length=4:=hx
 match cs,hlen with
 | [c0,c1,c2,c3],_ =>
  have g0:DataW.trod enc Tryz.prog W 0 (fun _=>true) true m 3 (([c0,c1,c2,c3].drop 0).take (Tryz.prog.cellsOf 3))=xs[0]?:=hg 0 _ rfl
  rw[(by kernel_rfl:Tryz.prog.cellsOf 3=1),List.getElem?_eq_getElem qn]at g0
  obtain ⟨z0,p0,r0,o0⟩:=Cr Tryz.underlying3 _ _ _ g0
  have g1:DataW.trod enc Tryz.prog W 0 (fun _=>true) true m 3 (([c0,c1,c2,c3].drop 1).take (Tryz.prog.cellsOf 3))=xs[1]?:=hg 1 _ rfl
  rw[(by kernel_rfl:Tryz.prog.cellsOf 3=1),List.getElem?_eq_getElem qn]at g1
  obtain ⟨z1,p1,r1,o1⟩:=Cr Tryz.underlying3 _ _ _ g1
  have g2:DataW.trod enc Tryz.prog W 0 (fun _=>true) true m 3 (([c0,c1,c2,c3].drop 2).take (Tryz.prog.cellsOf 3))=xs[2]?:=hg 2 _ rfl
  rw[(by kernel_rfl:Tryz.prog.cellsOf 3=1),List.getElem?_eq_getElem qn]at g2
  obtain ⟨z2,p2,r2,o2⟩:=Cr Tryz.underlying3 _ _ _ g2
  have g3:DataW.trod enc Tryz.prog W 0 (fun _=>true) true m 57 (([c0,c1,c2,c3].drop 3).take (Tryz.prog.cellsOf 57))=xs[3]?:=hg 3 _ rfl
  rw[(by kernel_rfl:Tryz.prog.cellsOf 57=1),List.getElem?_eq_getElem qn]at g3
  obtain ⟨z3,p3,r3,o3⟩:=Cr Tryz.underlying57 _ _ _ g3
  refine⟨⟨z0,z1,z2,z3⟩,⟨p0,p1,p2,p3⟩,E,fun c hc=>?_,?_⟩
  ·simp only[List.mem_cons,List.not_mem_nil,or_false]at hc
   rcases hc with rfl | rfl | rfl | rfl<;>assumption
  ·simp only[Bp,cellsOf,RdL]
   exact⟨_,_,E,r0,_,_,E,r1,_,_,E,r2,_,_,E,r3,E⟩
def Flood.In (x:Flood):Prop:=wI .i64 x.row∧wI .i64 x.dev∧wI .i64 x.vni∧((∀ z∈x.addrs,wI .u32 z)∧x.addrs.length≤maxLen)
theorem Ans:OpN enc Tryz.prog W 72 B7 Flood.In 4:=fun n cs y h=>by
 obtain ⟨xs,m,_,_,hlen,hx,hg⟩:=DataW.trod_struct Tryz.underlying72 h
 have hlen:cs.length=4:=hlen.trans (by kernel_rfl:Tryz.prog.cellsOf 72=4)
 have hx:xs.length=4:=hx
 match cs,hlen with
 | [c0,c1,c2,c3],_ =>
  have g0:DataW.trod enc Tryz.prog W 0 (fun _=>true) true m 3 (([c0,c1,c2,c3].drop 0).take (Tryz.prog.cellsOf 3))=xs[0]?:=hg 0 _ rfl
  rw[(by kernel_rfl:Tryz.prog.cellsOf 3=1),List.getElem?_eq_getElem qn]at g0
  obtain ⟨z0,p0,r0,o0⟩:=Cr Tryz.underlying3 _ _ _ g0
  have g1:DataW.trod enc Tryz.prog W 0 (fun _=>true) true m 3 (([c0,c1,c2,c3].drop 1).take (Tryz.prog.cellsOf 3))=xs[1]?:=hg 1 _ rfl
  rw[(by kernel_rfl:Tryz.prog.cellsOf 3=1),List.getElem?_eq_getElem qn]at g1
  obtain ⟨z1,p1,r1,o1⟩:=Cr Tryz.underlying3 _ _ _ g1
  have g2:DataW.trod enc Tryz.prog W 0 (fun _=>true) true m 3 (([c0,c1,c2,c3].drop 2).take (Tryz.prog.cellsOf 3))=xs[2]?:=hg 2 _ rfl
  rw[(by kernel_rfl:Tryz.prog.cellsOf 3=1),List.getElem?_eq_getElem qn]at g2
  obtain ⟨z2,p2,r2,o2⟩:=Cr Tryz.underlying3 _ _ _ g2
  have g3:DataW.trod enc Tryz.prog W 0 (fun _=>true) true m 70 (([c0,c1,c2,c3].drop 3).take (Tryz.prog.cellsOf 70))=xs[3]?:=hg 3 _ rfl
  rw[(by kernel_rfl:Tryz.prog.cellsOf 70=1),List.getElem?_eq_getElem qn]at g3
  obtain ⟨z3,p3,r3,o3⟩:=Asx _ _ _ g3
  refine⟨⟨z0,z1,z2,z3⟩,⟨p0,p1,p2,p3⟩,E,fun c hc=>?_,?_⟩
  ·simp only[List.mem_cons,List.not_mem_nil,or_false]at hc
   rcases hc with rfl | rfl | rfl | rfl<;>assumption
  ·simp only[B7,cellsOf,RdL]
   exact⟨_,_,E,r0,_,_,E,r1,_,_,E,r2,_,_,E,r3,E⟩
def Vrf.In (x:Vrf):Prop:=wI .i64 x.row∧wI .i64 x.dev∧x.name.size≤maxLen∧((∀ z∈x.imports,wI .i64 z)∧x.imports.length≤maxLen)∧((∀ z∈x.exports,wI .i64 z)∧x.exports.length≤maxLen)
theorem Asz:OpN enc Tryz.prog W 74 C4 Vrf.In 5:=fun n cs y h=>by
 obtain ⟨xs,m,_,_,hlen,hx,hg⟩:=DataW.trod_struct Tryz.underlying74 h
 have hlen:cs.length=5:=hlen.trans (by kernel_rfl:Tryz.prog.cellsOf 74=5)
 have hx:xs.length=5:=hx
 match cs,hlen with
 | [c0,c1,c2,c3,c4],_ =>
  have g0:DataW.trod enc Tryz.prog W 0 (fun _=>true) true m 3 (([c0,c1,c2,c3,c4].drop 0).take (Tryz.prog.cellsOf 3))=xs[0]?:=hg 0 _ rfl
  rw[(by kernel_rfl:Tryz.prog.cellsOf 3=1),List.getElem?_eq_getElem qn]at g0
  obtain ⟨z0,p0,r0,o0⟩:=Cr Tryz.underlying3 _ _ _ g0
  have g1:DataW.trod enc Tryz.prog W 0 (fun _=>true) true m 3 (([c0,c1,c2,c3,c4].drop 1).take (Tryz.prog.cellsOf 3))=xs[1]?:=hg 1 _ rfl
  rw[(by kernel_rfl:Tryz.prog.cellsOf 3=1),List.getElem?_eq_getElem qn]at g1
  obtain ⟨z1,p1,r1,o1⟩:=Cr Tryz.underlying3 _ _ _ g1
  have g2:DataW.trod enc Tryz.prog W 0 (fun _=>true) true m 9 (([c0,c1,c2,c3,c4].drop 2).take (Tryz.prog.cellsOf 9))=xs[2]?:=hg 2 _ rfl
  rw[(by kernel_rfl:Tryz.prog.cellsOf 9=1),List.getElem?_eq_getElem qn]at g2
  obtain ⟨z2,p2,r2,o2⟩:=Ajl Tryz.underlying9 _ _ _ g2
  have g3:DataW.trod enc Tryz.prog W 0 (fun _=>true) true m 56 (([c0,c1,c2,c3,c4].drop 3).take (Tryz.prog.cellsOf 56))=xs[3]?:=hg 3 _ rfl
  rw[(by kernel_rfl:Tryz.prog.cellsOf 56=1),List.getElem?_eq_getElem qn]at g3
  obtain ⟨z3,p3,r3,o3⟩:=U0 _ _ _ g3
  have g4:DataW.trod enc Tryz.prog W 0 (fun _=>true) true m 56 (([c0,c1,c2,c3,c4].drop 4).take (Tryz.prog.cellsOf 56))=xs[4]?:=hg 4 _ rfl
  rw[(by kernel_rfl:Tryz.prog.cellsOf 56=1),List.getElem?_eq_getElem qn]at g4
  obtain ⟨z4,p4,r4,o4⟩:=U0 _ _ _ g4
  refine⟨⟨z0,z1,z2,z3,z4⟩,⟨p0,p1,p2,p3,p4⟩,E,fun c hc=>?_,?_⟩
  ·simp only[List.mem_cons,List.not_mem_nil,or_false]at hc
   rcases hc with rfl | rfl | rfl | rfl | rfl<;>assumption
  ·simp only[C4,cellsOf,RdL]
   exact⟨_,_,E,r0,_,_,E,r1,_,_,E,r2,_,_,E,r3,_,_,E,r4,E⟩
def Irb.In (x:Irb):Prop:=wI .i64 x.row∧wI .i64 x.domain∧wI .i64 x.vrf∧wI .u32 x.addr∧wI .i64 x.bits
theorem As1:OpN enc Tryz.prog W 119 Dp Irb.In 5:=fun n cs y h=>by
 obtain ⟨xs,m,_,_,hlen,hx,hg⟩:=DataW.trod_struct Tryz.underlying119 h
 have hlen:cs.length=5:=hlen.trans (by kernel_rfl:Tryz.prog.cellsOf 119=5)
 have hx:xs.length=4:=hx
 match cs,hlen with
 | [c0,c1,c2,c3,c4],_ =>
  have g0:DataW.trod enc Tryz.prog W 0 (fun _=>true) true m 3 (([c0,c1,c2,c3,c4].drop 0).take (Tryz.prog.cellsOf 3))=xs[0]?:=hg 0 _ rfl
  rw[(by kernel_rfl:Tryz.prog.cellsOf 3=1),List.getElem?_eq_getElem qn]at g0
  obtain ⟨z0,p0,r0,o0⟩:=Cr Tryz.underlying3 _ _ _ g0
  have g1:DataW.trod enc Tryz.prog W 0 (fun _=>true) true m 3 (([c0,c1,c2,c3,c4].drop 1).take (Tryz.prog.cellsOf 3))=xs[1]?:=hg 1 _ rfl
  rw[(by kernel_rfl:Tryz.prog.cellsOf 3=1),List.getElem?_eq_getElem qn]at g1
  obtain ⟨z1,p1,r1,o1⟩:=Cr Tryz.underlying3 _ _ _ g1
  have g2:DataW.trod enc Tryz.prog W 0 (fun _=>true) true m 3 (([c0,c1,c2,c3,c4].drop 2).take (Tryz.prog.cellsOf 3))=xs[2]?:=hg 2 _ rfl
  rw[(by kernel_rfl:Tryz.prog.cellsOf 3=1),List.getElem?_eq_getElem qn]at g2
  obtain ⟨z2,p2,r2,o2⟩:=Cr Tryz.underlying3 _ _ _ g2
  have g3:DataW.trod enc Tryz.prog W 0 (fun _=>true) true m 117 (([c0,c1,c2,c3,c4].drop 3).take (Tryz.prog.cellsOf 117))=xs[3]?:=hg 3 _ rfl
  rw[(by kernel_rfl:Tryz.prog.cellsOf 117=2),List.getElem?_eq_getElem qn]at g3
  obtain ⟨ys,m',_,_,_,hy,hg'⟩:=DataW.trod_struct Tryz.underlying117 g3
  have hy:ys.length=2:=hy
  have q0:DataW.trod enc Tryz.prog W 0 (fun _=>true) true m' 75 (([c3,c4].drop 0).take (Tryz.prog.cellsOf 75))=ys[0]?:=hg' 0 _ rfl
  have q1:DataW.trod enc Tryz.prog W 0 (fun _=>true) true m' 3 (([c3,c4].drop 1).take (Tryz.prog.cellsOf 3))=ys[1]?:=hg' 1 _ rfl
  rw[(by kernel_rfl:Tryz.prog.cellsOf 75=1),List.getElem?_eq_getElem qn]at q0
  rw[(by kernel_rfl:Tryz.prog.cellsOf 3=1),List.getElem?_eq_getElem qn]at q1
  obtain ⟨z3,p3,r3,o3⟩:=Cr Tryz.underlying75 _ _ _ q0
  obtain ⟨z4,p4,r4,o4⟩:=Cr Tryz.underlying3 _ _ _ q1
  refine⟨⟨z0,z1,z2,z3,z4⟩,⟨p0,p1,p2,p3,p4⟩,E,fun c hc=>?_,?_⟩
  ·simp only[List.mem_cons,List.not_mem_nil,or_false]at hc
   rcases hc with rfl | rfl | rfl | rfl | rfl<;>assumption
  ·simp only[Dp,cellsOf,RdL]
   exact⟨_,_,E,r0,_,_,E,r1,_,_,E,r2,_,_,E,r3,_,_,E,r4,E⟩
structure Net.In (n:Net):Prop where
 devices:(∀ x∈n.devices,Device.In x)∧n.devices.length≤maxLen
 ports:(∀ x∈n.ports,Port.In x)∧n.ports.length≤maxLen
 links:(∀ x∈n.links,Link.In x)∧n.links.length≤maxLen
 domains:(∀ x∈n.domains,Domain.In x)∧n.domains.length≤maxLen
 statics:(∀ x∈n.statics,Static.In x)∧n.statics.length≤maxLen
 floods:(∀ x∈n.floods,Flood.In x)∧n.floods.length≤maxLen
 vrfs:(∀ x∈n.vrfs,Vrf.In x)∧n.vrfs.length≤maxLen
 irbs:(∀ x∈n.irbs,Irb.In x)∧n.irbs.length≤maxLen
theorem As0:OpN enc Tryz.prog W 31 Aj Net.In 8:=fun n cs y h=>by
 obtain ⟨xs,m,_,_,hlen,hx,hg⟩:=DataW.trod_struct Tryz.underlying31 h
 have hlen:cs.length=8:=hlen.trans (by kernel_rfl:Tryz.prog.cellsOf 31=8)
 have hx:xs.length=8:=hx
 match cs,hlen with
 | [c0,c1,c2,c3,c4,c5,c6,c7],_ =>
  have g0:DataW.trod enc Tryz.prog W 0 (fun _=>true) true m 22 (([c0,c1,c2,c3,c4,c5,c6,c7].drop 0).take (Tryz.prog.cellsOf 22))=xs[0]?:=hg 0 _ rfl
  rw[(by kernel_rfl:Tryz.prog.cellsOf 22=1),List.getElem?_eq_getElem qn]at g0
  obtain ⟨z0,p0,r0,o0⟩:=Ht Tryz.underlying22 (by kernel_rfl:Tryz.prog.cellsOf 77=5) qy (fun _=>rfl) (fun _=>rfl) Ajo _ _ _ g0
  have g1:DataW.trod enc Tryz.prog W 0 (fun _=>true) true m 23 (([c0,c1,c2,c3,c4,c5,c6,c7].drop 1).take (Tryz.prog.cellsOf 23))=xs[1]?:=hg 1 _ rfl
  rw[(by kernel_rfl:Tryz.prog.cellsOf 23=1),List.getElem?_eq_getElem qn]at g1
  obtain ⟨z1,p1,r1,o1⟩:=Ht Tryz.underlying23 (by kernel_rfl:Tryz.prog.cellsOf 67=7) qy (fun _=>rfl) (fun _=>rfl) Aqh _ _ _ g1
  have g2:DataW.trod enc Tryz.prog W 0 (fun _=>true) true m 24 (([c0,c1,c2,c3,c4,c5,c6,c7].drop 2).take (Tryz.prog.cellsOf 24))=xs[2]?:=hg 2 _ rfl
  rw[(by kernel_rfl:Tryz.prog.cellsOf 24=1),List.getElem?_eq_getElem qn]at g2
  obtain ⟨z2,p2,r2,o2⟩:=Ht Tryz.underlying24 (by kernel_rfl:Tryz.prog.cellsOf 167=3) qy (fun _=>rfl) (fun _=>rfl) Aqi _ _ _ g2
  have g3:DataW.trod enc Tryz.prog W 0 (fun _=>true) true m 25 (([c0,c1,c2,c3,c4,c5,c6,c7].drop 3).take (Tryz.prog.cellsOf 25))=xs[3]?:=hg 3 _ rfl
  rw[(by kernel_rfl:Tryz.prog.cellsOf 25=1),List.getElem?_eq_getElem qn]at g3
  obtain ⟨z3,p3,r3,o3⟩:=Ht Tryz.underlying25 (by kernel_rfl:Tryz.prog.cellsOf 69=6) qy (fun _=>rfl) (fun _=>rfl) Ajn _ _ _ g3
  have g4:DataW.trod enc Tryz.prog W 0 (fun _=>true) true m 26 (([c0,c1,c2,c3,c4,c5,c6,c7].drop 4).take (Tryz.prog.cellsOf 26))=xs[4]?:=hg 4 _ rfl
  rw[(by kernel_rfl:Tryz.prog.cellsOf 26=1),List.getElem?_eq_getElem qn]at g4
  obtain ⟨z4,p4,r4,o4⟩:=Ht Tryz.underlying26 (by kernel_rfl:Tryz.prog.cellsOf 171=4) qy (fun _=>rfl) (fun _=>rfl) Ajm _ _ _ g4
  have g5:DataW.trod enc Tryz.prog W 0 (fun _=>true) true m 27 (([c0,c1,c2,c3,c4,c5,c6,c7].drop 5).take (Tryz.prog.cellsOf 27))=xs[5]?:=hg 5 _ rfl
  rw[(by kernel_rfl:Tryz.prog.cellsOf 27=1),List.getElem?_eq_getElem qn]at g5
  obtain ⟨z5,p5,r5,o5⟩:=Ht Tryz.underlying27 (by kernel_rfl:Tryz.prog.cellsOf 72=4) qy (fun _=>rfl) (fun _=>rfl) Ans _ _ _ g5
  have g6:DataW.trod enc Tryz.prog W 0 (fun _=>true) true m 28 (([c0,c1,c2,c3,c4,c5,c6,c7].drop 6).take (Tryz.prog.cellsOf 28))=xs[6]?:=hg 6 _ rfl
  rw[(by kernel_rfl:Tryz.prog.cellsOf 28=1),List.getElem?_eq_getElem qn]at g6
  obtain ⟨z6,p6,r6,o6⟩:=Ht Tryz.underlying28 (by kernel_rfl:Tryz.prog.cellsOf 74=5) qy (fun _=>rfl) (fun _=>rfl) Asz _ _ _ g6
  have g7:DataW.trod enc Tryz.prog W 0 (fun _=>true) true m 29 (([c0,c1,c2,c3,c4,c5,c6,c7].drop 7).take (Tryz.prog.cellsOf 29))=xs[7]?:=hg 7 _ rfl
  rw[(by kernel_rfl:Tryz.prog.cellsOf 29=1),List.getElem?_eq_getElem qn]at g7
  obtain ⟨z7,p7,r7,o7⟩:=Ht Tryz.underlying29 (by kernel_rfl:Tryz.prog.cellsOf 119=5) qy (fun _=>rfl) (fun _=>rfl) As1 _ _ _ g7
  refine⟨⟨z0,z1,z2,z3,z4,z5,z6,z7⟩,⟨p0,p1,p2,p3,p4,p5,p6,p7⟩,E,fun c hc=>?_,?_⟩
  ·simp only[List.mem_cons,List.not_mem_nil,or_false]at hc
   rcases hc with rfl | rfl | rfl | rfl | rfl | rfl | rfl | rfl<;>assumption
  ·simp only[Aj,cellsOf,RdL]
   exact⟨_,_,E,r0,_,_,E,r1,_,_,E,r2,_,_,E,r3,_,_,E,r4,_,_,E,r5,_,_,E,r6,_,_,E,r7,E⟩
theorem Anj {t:TypeId} {fs:Array Field} {α:Type} {e:α→SV} {p:α→Prop} {sz base:Nat} {v:Value} {d:DataW H} {ps:List MemPlace} (ht:Tryz.prog.underlying t=some (.struct fs)) (hO:OpN enc Tryz.prog W t e p sz) (he:∀ x,e x=.agg (cellsOf (e x)))
  (hval:Value.okWide Tryz.prog W .any base t v) (h1:DataW.Trod enc Tryz.prog W 0 (fun _=>true) true t v d ps):∃ x,p x∧Rd κ0 W (e x) v:=by
 obtain ⟨cs,rfl,_⟩:=okWide_struct ht hval
 obtain ⟨fuel,hf⟩:=h1
 obtain ⟨x,h1,_,h2,h3⟩:=hO _ _ _ hf
 refine⟨x,h1,?_⟩
 rw[he x]
 simp only[Rd]
 exact⟨cs.toList,by simp,by simpa [Value.cells] using h2,by simpa [Value.cells] using h3⟩
theorem rd_net {base:Nat} {v:Value} {d:DataW H} {ps:List MemPlace} (hval:Value.okWide Tryz.prog W .any base 31 v) (h1:DataW.Trod enc Tryz.prog W 0 (fun _=>true) true 31 v d ps):∃ n:Net,n.In∧Rd κ0 W (Aj n) v :=
 Anj Tryz.underlying31 As0 (fun _=>rfl) hval h1
theorem Ap4 {t et:TypeId} {α:Type} {e:α→SV} {p:List α→Prop} {sz base:Nat} {v:Value} {d:DataW H} {ps:List MemPlace} (ht:Tryz.prog.underlying t=some (.slice et)) (hO:Op1 enc Tryz.prog W t (fun l:List α=>.sl sz e l) p)
  (hval:Value.okWide Tryz.prog W .any base t v) (h1:DataW.Trod enc Tryz.prog W 0 (fun _=>true) true t v d ps):∃ l,p l∧Rd κ0 W (.sl sz e l) v:=by
 obtain ⟨a,len,cap,rfl⟩:=okWide_slice ht hval
 obtain ⟨fuel,hf⟩:=h1
 obtain ⟨x,h1,h2,_⟩:=hO _ _ _ hf
 exact⟨x,h1,h2⟩
end
end Go.Sy.YteinjapglfkamaaGreat
namespace Go.Sy.YteinjapglfkamaaGreat
open Go.Proofs Go.ChangeShapes Go.WideShapes Go.ChangeAt Go.RowKit
set_option maxRecDepth 100000
section
variable {H:Type} {enc:TypeId × Value→H} {W:World}
def StepM.In (x:StepM):Prop:=wI .i64 x.kind∧wI .i64 x.port∧wI .i64 x.domain∧wI .i64 x.at_∧((∀ y∈x.bytes,True)∧x.bytes.length≤maxLen)∧((∀ y∈x.up,True)∧x.up.length≤maxLen)
def SeenM.In (x:SeenM):Prop:=wI .i64 x.port∧wI .i64 x.origin∧((∀ y∈x.bytes,True)∧x.bytes.length≤maxLen)
def EntryM.In (x:EntryM):Prop:=x.mac<18446744073709551616∧wI .i64 x.where_∧wI .i64 x.seen
end
end Go.Sy.YteinjapglfkamaaGreat
namespace Go.Sy.YteinjapglfkamaaGreat
open Go.Proofs
def Qe (m:MacM) (i:Nat) (t:List EntryM):MacM:=if 60<t.length then m else (loadT m i t).1
def Do (m0:MacM) (l:List (List EntryM)):Nat→MacM
 | 0=>m0
 | j+1=>Qe (Do m0 l j) j ((l[j]?).getD [])
def Ar7 (l:List (List EntryM)):Prop:=∀ t∈l,(∀ e∈t,EntryM.In e)∧t.length≤maxLen
theorem Yz {t:List EntryM} (h:∀ e∈t,EntryM.In e) (hl:t.length≤60):TabOK t:=by
 refine⟨by unfold Ap;omega,fun e he=>(h e he).1,fun e he=>?_⟩
 have:=(h e he).2.1
 simp only[wI,Lit.wf,Bool.and_eq_true,decide_eq_true_eq,IntKind.max_i64]at this
 have e2:IntKind.min .i64=-9223372036854775808:=by decide
 rw[e2]at this
 unfold I64
 omega
theorem Ag2 {n:Net} {m:MacM} {J D:Int} (h:MacOK n m J D) (i:Nat) {t:List EntryM} (ht:∀ e∈t,EntryM.In e):MacOK n (Qe m i t) J D:=by
 unfold Qe
 split
 ·exact h
 ·rename_i hl
  unfold loadT
  split
  ·exact Adw h _ (Yz ht qn)
  ·exact h
theorem Me {n:Net} {m:MacM} {J D:Int} (h:MacOK n m J D) {l:List (List EntryM)} (hl:Ar7 l):∀ j,MacOK n (Do m l j) J D
 | 0=>h
 | j+1=>by
  rw[Do]
  refine Ag2 (Me h hl j) j ?_
  by_cases hj:j<l.length
  ·rw[List.getElem?_eq_getElem hj]
   exact(hl _ (List.getElem_mem hj)).1
  ·rw[List.getElem?_eq_none qn]
   intro e he
   cases he
attribute [local irreducible] Go.Sy.G Go.Sy.DR
set_option maxRecDepth 100000
set_option maxHeartbeats 4000000
end Go.Sy.YteinjapglfkamaaGreat
namespace Go.Sy.YteinjapglfkamaaGreat
open Go.Proofs
def Dz (n:Net) (tabs:List (List EntryM)):MacM:=Do (newT n) tabs tabs.length
def runTabsT (n:Net) (tabs:List (List EntryM)) (l:List StepM):List SeenM × Int:=if okB n (Km n)=true then ((Cp n (Dz n tabs) l).2,0) else ([],2)
def Du (n:Net) (of:List Int):Bool :=
 decide (of.length=n.ports.length) && Ae n && (List.range of.length).all fun i=>if (nth n.ports (i:Int)).link<0 then decide (0≤nth of (i:Int)) && decide (nth of (i:Int)≤9) else decide (nth of (i:Int)=-1)
def Ei (m:MacM):Prop:=0≤m.injected∧∀ l∈m.queues,∀ q∈l,1≤q.origin∧q.origin≤m.injected
theorem Tl {m:MacM} (h:Ei m) (dom:Int):∀ q∈queueL m dom,1≤q.origin∧q.origin≤m.injected:=by
 intro q hq
 unfold queueL at hq
 by_cases hd:dom.toNat<m.queues.length
 ·exact h.2 _ (Qp hd) q hq
 ·rw[List.getElem?_eq_none qn]at hq;cases hq
theorem Agq {m:MacM} (h:Ei m) (dom:Int) {l:List QueuedM} (hl:∀ q∈l,1≤q.origin∧q.origin≤m.injected):Ei (Adx m dom l):=by
 refine⟨h.1,fun x hx=>?_⟩
 rcases Yj hx with rfl | hx
 ·exact hl
 ·exact h.2 x hx
theorem Zy {m:MacM} (h:Ei m) (dom at_:Int):Ei (takeM m dom at_).1∧(takeM m dom at_).1.injected=m.injected∧((takeM m dom at_).2.2=true→1≤(takeM m dom at_).2.1.origin∧(takeM m dom at_).2.1.origin≤m.injected):=by
 have hq:=Tl h dom
 unfold takeM
 split
 ·exact⟨h,rfl,fun h=>by cases h⟩
 ·refine⟨Agq h dom fun q hm=>?_,E,fun ht=>?_⟩
  ·unfold takeT at hm
   split at hm
   ·exact hq q hm
   ·exact hq q (List.mem_of_mem_eraseIdx hm)
  ·dsimp only at ht ⊢
   unfold takeT at ht ⊢
   split at ht
   ·cases ht
   ·rename_i hc
    rw[if_neg hc]
    exact hq _ (Qp qn)
theorem Uy {m:MacM} (h:Ei m) (dom:Int) {q:QueuedM} (hq:1≤q.origin∧q.origin≤m.injected) (e:Int):Ei (comeM m dom q e)∧(comeM m dom q e).injected=m.injected:=by
 unfold comeM
 split
 ·exact⟨h,E⟩
 split
 ·refine⟨Agq h dom fun x hx=>?_,E⟩
  unfold pushT at hx
  split at hx
  ·exact Tl h dom x hx
  ·rcases List.mem_append.1 hx with hx | hx
   ·exact Tl h dom x hx
   ·rw[List.mem_singleton.1 hx];exact hq
 ·exact⟨h,E⟩
theorem Aqe {n:Net} {m:MacM} (h:Ei m) (o:OutM) {org:Int} (ho:1≤org∧org≤m.injected):Ei (goesM n m o org).1∧(goesM n m o org).1.injected=m.injected:=by
 unfold goesM
 split
 ·exact⟨h,E⟩
 split
 ·exact Uy h _ ho _
 split
 ·exact Uy h _ ho _
 split
 ·exact Uy h _ ho _
 ·exact⟨h,E⟩
theorem Acn {n:Net} {org:Int}:∀ (l:List OutM) {m:MacM},Ei m→(1≤org∧org≤m.injected)→Ei (A7 n m org l).1∧(A7 n m org l).1.injected=m.injected
 | [],m,h,_=>⟨h,rfl⟩
 | o::l,m,h,ho=>by
  rw[A7]
  have h1:=Aqe (n:=n) h o ho
  have h2:=Acn (n:=n) (org:=org) l h1.1 (by rw[h1.2];exact ho)
  exact⟨h2.1,by rw[h2.2,h1.2]⟩
theorem Anr {m:MacM} (h:Ei m) (dom:Int) (r:List EntryM × List OutM × Int):Ei (Is m dom r)∧(Is m dom r).injected=m.injected:=by
 unfold Is
 split
 ·exact⟨h,E⟩
 split
 ·exact⟨h,E⟩
 ·exact⟨h,E⟩
theorem Aqd {n:Net} {m:MacM} (h:Ei m) (dom at_:Int):Ei (pickT n m dom at_).1∧(pickT n m dom at_).1.injected=m.injected:=by
 have h1:=Zy h dom at_
 unfold pickT
 split
 ·exact⟨h1.1,h1.2.1⟩
 ·rename_i hc
  have h2:=Anr h1.1 dom (Qa n (takeM m dom at_).1 dom (takeM m dom at_).2.1)
  have ht:=h1.2.2 (by simpa using hc)
  have h3:=Acn (n:=n) (org:=(takeM m dom at_).2.1.origin) (Qa n (takeM m dom at_).1 dom (takeM m dom at_).2.1).2.1 h2.1 (by rw[h2.2,h1.2.1];exact ht)
  exact⟨h3.1,by rw[h3.2,h2.2,h1.2.1]⟩
theorem Aji {n:Net} {m:MacM} (h:Ei m) (port:Int) (b:List UInt8) (hp:Ai port n.ports.length=true) (hl:(nth n.ports port).link<0) :
  Ei (injectT n m port b)∧(injectT n m port b).injected=m.injected+1:=by
 unfold injectT
 rw[if_neg (by rw[hp];simp;exact hl)]
 have h0:Ei ⟨m.up,m.tables,m.queues,m.now,m.injected+1,m.drops⟩:=⟨by have:=h.1;dsimp only;omega,fun l hl q hq=>by have:=h.2 l hl q hq;dsimp only;omega⟩
 exact Uy h0 _ ⟨by have:=h.1;dsimp only;omega,Int.le_refl _⟩ _
theorem X3 {n:Net} {m:MacM} (port:Int) (b:List UInt8) (hp:¬ (Ai port n.ports.length=true∧(nth n.ports port).link<0)):injectT n m port b=m:=by
 unfold injectT
 rw[if_pos]
 by_cases h:Ai port n.ports.length=true
 ·exact .inr (Int.not_lt.1 fun x=>hp ⟨h,x⟩)
 ·exact .inl (by simpa using h)
def Aep (n:Net) (x:StepM):Int:=if x.kind=1∧Ai x.port n.ports.length=true∧(nth n.ports x.port).link<0 then 1 else 0
theorem Atl {n:Net} {m:MacM} (h:Ei m) (x:StepM):Ei (doT n m x).1∧(doT n m x).1.injected=m.injected+Aep n x:=by
 unfold doT
 by_cases hk:x.kind=1
 ·rw[if_pos hk]
  unfold Aep
  by_cases hc:Ai x.port n.ports.length=true∧(nth n.ports x.port).link<0
  ·rw[if_pos ⟨hk,hc⟩]
   exact Aji h _ _ hc.1 hc.2
  ·rw[if_neg (fun h=>hc h.2),X3 _ _ hc]
   exact⟨h,by simp⟩
 rw[if_neg hk]
 have h0:Aep n x=0:=by unfold Aep;rw[if_neg (fun h=>hk h.1)]
 rw[h0,Int.add_zero]
 split
 ·exact Aqd h _ _
 split
 ·have:=Zy h x.domain x.at_
  exact⟨this.1,this.2.1⟩
 split
 ·exact⟨h,E⟩
 split
 ·split
  ·exact⟨h,E⟩
  ·exact⟨h,E⟩
 ·exact⟨h,E⟩
theorem Wf {n:Net} {of:List Int} (h:Du n of=true):of.length=n.ports.length∧Ae n=true∧∀ p,Ai p of.length=true→(if (nth n.ports p).link<0 then 0≤nth of p∧nth of p≤9 else nth of p=-1):=by
 unfold Du at h
 simp only[Bool.and_eq_true,decide_eq_true_eq,List.all_eq_true,List.mem_range]at h
 refine⟨h.1.1,h.1.2,fun p hp=>?_⟩
 have hp:=Ba hp
 have:=h.2 p.toNat qn
 rw[show ((p.toNat:Nat):Int)=p by omega]at this
 split at this
 ·rename_i hc;rw[if_pos hc];simpa using this
 ·rename_i hc;rw[if_neg hc];simpa using this
theorem Aql (n:Net):Ei (newT n):=by
 refine⟨by simp[newT],fun l hl q hq=>?_⟩
 have:l=[]:=(List.mem_replicate.1 hl).2
 rw[this]at hq;cases hq
theorem Acs {m:MacM} (h:Ei m) (tabs:List (List EntryM)):∀ j,Ei (Do m tabs j)∧(Do m tabs j).injected=m.injected
 | 0=>⟨h,rfl⟩
 | j+1=>by
  have ih:=Acs h tabs j
  rw[Do]
  unfold Qe
  split
  ·exact ih
  ·unfold loadT
   split
   ·exact ih
   ·exact ih
end Go.Sy.YteinjapglfkamaaGreat
namespace Go.Sy.YteinjapglfkamaaGreat
open Go.Proofs
def SeenOK (n:Net) (k:Int) (x:SeenM):Prop:=Ai x.port n.ports.length=true∧(nth n.ports x.port).link<0∧1≤x.origin∧x.origin≤k
def OutP (n:Net) (o:OutM):Prop:=o.kind=1→Ai o.port n.ports.length=true∧(nth n.ports o.port).link<0
theorem SeenOK.mono {n:Net} {k k':Int} {x:SeenM} (h:SeenOK n k x) (hk:k≤k'):SeenOK n k' x:=⟨h.1,h.2.1,h.2.2.1,by have:=h.2.2.2;omega⟩
theorem Aqb (n:Net) (dom:Int) (f:FrameM) (p:Int):OutP n (E8 n dom f p):=by
 intro h
 unfold E8 D5 at h ⊢
 by_cases he:(leaveT n p dom f).2≠0
 ·rw[if_pos he]at h
  exact absurd h (by dsimp only;decide)
 rw[if_neg he]at h ⊢
 dsimp only at h ⊢
 have hl:(nth n.ports p).link<0:=by
  by_cases hl:(nth n.ports p).link<0
  ·exact hl
  ·rw[if_neg hl]at h;exact absurd h qy
 refine⟨?_,hl⟩
 unfold leaveT at he
 by_cases hp:Ai p n.ports.length=false∨Ai dom n.domains.length=false∨Ae n=false
 ·rw[if_pos hp]at he;exact absurd he qy
 ·cases hb:Ai p n.ports.length
  ·exact absurd (.inl hb) hp
  ·rfl
theorem Ae7 (n:Net) (fw:List Bool) (t:List EntryM) (dom:Int) (q:QueuedM) (now:Int):∀ o∈(bridgeT n fw t dom q now).2.1,OutP n o:=by
 intro o ho
 unfold bridgeT at ho
 split at ho
 ·cases ho
 split at ho
 ·split at ho
  ·cases ho
  ·rw[List.mem_singleton.1 ho]
   intro h;exact absurd h (by dsimp only;decide)
 ·rcases List.mem_append.1 ho with h | h
  ·obtain ⟨p,_,rfl⟩:=List.mem_map.1 h
   exact Aqb _ _ _ _
  ·obtain ⟨p,_,rfl⟩:=List.mem_map.1 h
   intro h
   unfold H7 D5 at h
   split at h<;>exact absurd h (by dsimp only;decide)
theorem Akg {n:Net} {m:MacM} {o:OutM} {org k:Int} (ho:OutP n o) (h1:1≤org) (h2:org≤k):∀ x∈(goesM n m o org).2,SeenOK n k x:=by
 intro x hx
 unfold goesM at hx
 split at hx
 ·rename_i hk
  rw[List.mem_singleton.1 hx]
  exact⟨(ho hk).1,(ho hk).2,h1,h2⟩
 split at hx
 ·cases hx
 split at hx
 ·cases hx
 split at hx<;>cases hx
theorem Aan {n:Net} {org k:Int} (h1:1≤org) (h2:org≤k):∀ (l:List OutM) {m:MacM},(∀ o∈l,OutP n o)→∀ x∈(A7 n m org l).2,SeenOK n k x
 | [],m,_,x,hx=>by cases hx
 | o::l,m,ho,x,hx=>by
  rw[A7]at hx
  rcases List.mem_append.1 hx with h | h
  ·exact Akg (ho o qz) h1 h2 x h
  ·exact Aan h1 h2 l (fun o h=>ho o (by simp[h])) x h
theorem Arp {n:Net} {m:MacM} (h:Ei m) (x:StepM):∀ y∈(doT n m x).2,SeenOK n m.injected y:=by
 intro y hy
 unfold doT at hy
 split at hy
 ·cases hy
 split at hy
 ·unfold pickT at hy
  have h1:=Zy h x.domain x.at_
  split at hy
  ·cases hy
  ·rename_i hc
   have ht:=h1.2.2 (by simpa using hc)
   exact Aan ht.1 ht.2 _ (Ae7 _ _ _ _ _ _) y hy
 split at hy
 ·cases hy
 split at hy
 ·cases hy
 split at hy
 ·split at hy<;>cases hy
 ·cases hy
theorem Ahc (n:Net) (x:StepM):0≤Aep n x:=by unfold Aep;split<;>decide
def Akb (n:Net):List StepM→Int
 | []=>0
 | x::l=>Aep n x+Akb n l
theorem Ahd (n:Net):∀ l,0≤Akb n l
 | []=>Int.le_refl _
 | x::l=>by rw[Akb];have:=Ahc n x;have:=Ahd n l;omega
theorem Acc {n:Net}:∀ (l:List StepM) {m:MacM},Ei m→∀ y∈(Cp n m l).2,SeenOK n (m.injected+Akb n l) y
 | [],m,h,y,hy=>by cases hy
 | x::l,m,h,y,hy=>by
  have h1:=Atl (n:=n) h x
  rw[Cp]at hy
  rw[Akb]
  have p1:=Ahc n x
  have p2:=Ahd n l
  rcases List.mem_append.1 hy with h2 | h2
  ·exact(Arp h x y h2).mono qn
  ·exact(Acc l h1.1 y h2).mono (by rw[h1.2];omega)
def injB (of:List Int) (x:StepM):Bool:=decide (x.kind=1) && (Ai x.port of.length && decide (0≤nth of x.port))
def H6 (of:List Int) (l:List StepM):List Int:=(l.filter (injB of)).map (·.port)
theorem Zs {n:Net} {of:List Int} (ho:Du n of=true):∀ l,((H6 of l).length:Int)=Akb n l
 | []=>rfl
 | x::l=>by
  have ha:=Wf ho
  have ih:=Zs ho l
  have key:(if injB of x=true then 1 else 0)=Aep n x:=by
   unfold injB Aep
   by_cases hk:x.kind=1
   ·cases hp:Ai x.port of.length
    ·rw[ha.1]at hp
     simp[hp]
    ·have hw:=ha.2.2 x.port hp
     rw[ha.1]at hp
     by_cases hl:(nth n.ports x.port).link<0
     ·rw[if_pos hl]at hw
      simp[hk,hp,hl,hw.1]
     ·rw[if_neg hl]at hw
      simp[hk,hp,hl,hw]
   ·simp[hk]
  rw[Akb,← ih,← key]
  unfold H6
  by_cases h:injB of x=true
  ·rw[List.filter_cons_of_pos h,if_pos h,List.map_cons,List.length_cons];omega
  ·rw[List.filter_cons_of_neg h,if_neg h];omega
theorem portsL_at {of:List Int} {l:List StepM}:∀ p∈H6 of l,Ai p of.length=true∧0≤nth of p:=by
 intro p hp
 obtain ⟨x,hx,rfl⟩:=List.mem_map.1 hp
 have:=(List.mem_filter.1 hx).2
 unfold injB at this
 simp only[Bool.and_eq_true,decide_eq_true_eq]at this
 exact this.2
def L2 (of by_:List Int):List SeenM→Int × Int × Bool
 | []=>(0,0,false)
 | s::l=>if nth of (nth by_ (s.origin-1))≠nth of s.port then (nth by_ (s.origin-1),s.port,true) else L2 of by_ l
def crossesT (n:Net) (of:List Int) (tabs:List (List EntryM)) (l:List StepM):Int × Int × Bool :=
 if Du n of=true∧okB n (Km n)=true then L2 of (H6 of l) (Cp n (Dz n tabs) l).2 else (0,0,false)
def crossB (n:Net) (of:List Int) (tabs:List (List EntryM)) (l:List StepM):Bool:=(crossesT n of tabs l).2.2
theorem Ajv (n:Net) (tabs:List (List EntryM)):Ei (Dz n tabs)∧(Dz n tabs).injected=0:=by
 have h:=Acs (Aql n) tabs tabs.length
 exact⟨h.1,h.2⟩
theorem Afx {n:Net} {of:List Int} (ho:Du n of=true) (tabs:List (List EntryM)) (l:List StepM):∀ s∈(Cp n (Dz n tabs) l).2,
  Ai s.port of.length=true∧1≤s.origin∧s.origin≤(H6 of l).length:=by
 intro s hs
 have hl:=Ajv n tabs
 have h:=Acc (n:=n) l hl.1 s hs
 rw[hl.2,Int.zero_add,← Zs ho]at h
 exact⟨by rw[(Wf ho).1];exact h.1,h.2.2.1,h.2.2.2⟩
end Go.Sy.YteinjapglfkamaaGreat
namespace Go.Sy.YteinjapglfkamaaGreat
open Go.Proofs
def Apr (x y:StepM):Prop:=y.kind=x.kind∧y.port=x.port∧y.domain=x.domain∧y.bytes=x.bytes∧y.up.length=x.up.length
instance (x y:StepM):Decidable (Apr x y):=by unfold Apr;infer_instance
def At5 (l:List StepM) (x:StepM) (k:Nat):Prop:=∃ h:k<l.length,Apr x l[k]∧0≤l[k].at_∧l[k].at_≤x.at_
instance (l:List StepM) (x:StepM) (k:Nat):Decidable (At5 l x k):=by unfold At5;infer_instance
end Go.Sy.YteinjapglfkamaaGreat
namespace Go.Sy.YteinjapglfkamaaGreat
open Go.Proofs
attribute [local irreducible] Go.Sy.G Go.Sy.DR
structure Bx (Q:Prop):Prop where out:Q
theorem sE {α:Sort _} {a b:α} {K:Prop} (e:a=b) (h:K):a=b∧K:=⟨e,h⟩
theorem xE {α:Sort _} {a b:α} {K:a=b→Prop} (e:a=b) (h:K e):∃ e:a=b,K e:=⟨e,h⟩
theorem sL {a b:Int} {K:Prop} (e:a≤b) (h:K):a≤b∧K:=⟨e,h⟩
theorem xL {a b:Int} {K:a≤b→Prop} (e:a≤b) (h:K e):∃ e:a≤b,K e:=⟨e,h⟩
theorem sM {a b:Nat} {K:Prop} (e:a≤b) (h:K):a≤b∧K:=⟨e,h⟩
theorem sT {a b:Nat} {K:Prop} (e:a<b) (h:K):a<b∧K:=⟨e,h⟩
theorem xT {a b:Nat} {K:a<b→Prop} (e:a<b) (h:K e):∃ e:a<b,K e:=⟨e,h⟩
theorem sN {a b:Int} {K:Prop} (e:a≠b) (h:K):a≠b∧K:=⟨e,h⟩
theorem sI {a:Int} {K:Prop} (e:I64 a) (h:K):I64 a∧K:=⟨e,h⟩
theorem ct {p q:Prop} {b:Bool} (h:q) (e:b=true→False:=by
 intro _h
 first | exact absurd _h qy | exact Bool.false_ne_true (Eq.trans (Eq.symm (by with_reducible assumption)) _h) | (simp at _h;done) | (simp at _h;omega)):(b=true→p)∧(b=false→q):=⟨fun x=>(e x).elim,fun _=>h⟩
theorem cf {p q:Prop} {b:Bool} (h:p) (e:b=false→False:=by
 intro _h
 first | exact absurd _h qy | exact Bool.false_ne_true (Eq.trans (Eq.symm _h) (by with_reducible assumption)) | (simp at _h;done) | (simp at _h;omega)):(b=true→p)∧(b=false→q):=⟨fun _=>h,fun x=>(e x).elim⟩
theorem S {P Q:Prop} (h:Q) (e:Bx Q→P:=by
 intro hb
 first | refine rg ?_ | refine rd qq ?_ | skip
 conv=>whnf
 repeat (first
  | ((first | refine aF ?_ | refine aT ?_ | refine ct ?_ | refine cf ?_);(first | refine rg ?_ | refine rd qq ?_);(conv=>whnf))
  | ((first | refine⟨(by kernel_rfl:Aey _ _=true),?_⟩ | refine sI (by unfold I64;omega) ?_);(conv=>whnf)))
 exact hb.out):P:=e ⟨h⟩
theorem T {P Q:Prop} (h:Q) (e:Bx Q→P:=by
 intro hb
 refine S ?_
 repeat ((first | refine sE (by exact rfl) ?_ | refine sL (by first | omega | decide) ?_ | refine xL (by first | omega | decide) ?_ | refine sT (by first | omega | decide) ?_ | refine xT (by first | omega | decide) ?_ | refine sM (by first | omega | decide) ?_ | refine sN (by first | omega | decide) ?_ | refine xE (by exact rfl) ?_);refine S ?_)
 exact hb.out):P:=e ⟨h⟩
theorem D {P:Prop} (h:P:=by
 apply Aq
 ·exact E
 ·(repeat (first | exact ResVs.nil | (apply ResVs.cons;(first | exact .tmp | exact .cell rfl rfl rfl rfl))))
 ·exact E
 ·exact E):P:=h
theorem U {P:Prop} (h:P:=by
 refine⟨?_,?_,E,E⟩
 ·repeat (first | exact trivial | exact rfl | refine⟨rfl,rfl,?_⟩)
 ·repeat (first | exact trivial | refine⟨.inl rfl,rfl,?_⟩ | refine⟨.inr rfl,rfl,?_⟩)):P:=h
theorem Uo {P:Prop} (h:P:=by
 repeat (first | exact trivial | refine⟨.inl rfl,rfl,?_⟩ | refine⟨.inr rfl,rfl,?_⟩)):P:=h
theorem doneE {P:Program} {fn:Func} {F:Fr} {R:SV} {H':Obs} {Γ:Go.Sy.Ty P} {n:Nat} {bn:List Nat} {hbn:∀ k,F.k0 k≠.new→k∈bn} {k:List KI} {s:SS} {rs:List ResultVar} (hf:fn.results=rs.toArray) {xs:List SV} (hx:ResVs Γ.get s rs xs)
  (hR:R.ren (A4 [])=Ab4 xs) (hRn:R.inn (Obs.keys H')=true) (hsub:Sub ⟨P,Γ,F,n,Ud P fn F R H',bn,hbn⟩ s [] [] H'):G ⟨P,Γ,F,n,Ud P fn F R H',bn,hbn⟩ (.code .ret::k) s:=done hf hx [] H' (fun _ h=>h) hR hRn hsub
theorem doneF {P:Program} {fn:Func} {F:Fr} {R:SV} {H':Obs} {Γ:Go.Sy.Ty P} {n:Nat} {bn:List Nat} {hbn:∀ k,F.k0 k≠.new→k∈bn} {s:SS} {rs:List ResultVar} (hf:fn.results=rs.toArray) {xs:List SV} (hx:ResVs Γ.get s rs xs)
  (hR:R.ren (A4 [])=Ab4 xs) (hRn:R.inn (Obs.keys H')=true) (hsub:Sub ⟨P,Γ,F,n,Ud P fn F R H',bn,hbn⟩ s [] [] H'):G ⟨P,Γ,F,n,Ud P fn F R H',bn,hbn⟩ [] s:=B3 hf hx [] H' (fun _ h=>h) hR hRn hsub
theorem E0 {P:Prop} (h:P:=by
 first | apply doneE | apply doneF
 ·exact E
 ·(repeat (first | exact ResVs.nil | (apply ResVs.cons;(first | exact .tmp | exact .cell rfl rfl rfl rfl))))
 ·exact E
 ·exact E
 ·exact U):P:=h
theorem W {P:Prop} (h:P:=by
 repeat (first | exact trivial | exact rfl | refine⟨rfl,?_⟩)):P:=h
theorem V {P:Prop} (h:P:=by
 repeat (first | exact trivial | refine⟨.inl rfl,?_⟩ | refine⟨.inr rfl,?_⟩)):P:=h
theorem C {P:Program} {f:FuncId} {fn:Func} {c:Code} {A:List SV} {R:SV} {Z Q:Prop} (hs:Sy.Spec P f A [] R []) (hf:Fun P f fn c) (h:Q) (e:Sy.Spec P f A [] R []→Fun P f fn c→Bx Q→Z:=by
 intro hs hf hb
 first | refine Vx hs hf rfl rfl rfl rfl rfl ?_ | refine Arw hs hf rfl rfl rfl qq rfl ?_
 refine T ?_
 exact hb.out):Z:=e hs hf ⟨h⟩
theorem X {C:Cx} {k:List KI} {s:SS} {all:Array Oper} {o:Oper} {rest:List Oper} {V:Up} {Q:Prop} (hg:Good C.P o s V) (h:Q) (hd:Qr C.n o=true:=by exact rfl) (hw:Es C.n all o s=some true:=by exact rfl) (e:Bx Q→G C (.ops all rest::k) (s.upd o.dst V):=by
 intro hb
 refine T ?_
 exact hb.out):G C (.ops all (o::rest)::k) s:=Ad hg hd hw (e ⟨h⟩)
theorem Xd {C:Cx} {k:List KI} {s:SS} {all:Array Oper} {done:List Stp} {o:Oper} {rest:List Oper} {V:Up} {Q:Prop} (hg:Good C.P o s V) (h:Q) (hi:all[done.length]? = some o:=by kernel_rfl) (hw:Es C.n all o s=some true:=by exact rfl) (hn:(Jr o || Ot o)=false:=by exact rfl) (e:Bx Q→DR C k all (done++[⟨done.length,o,V,true⟩]) rest (s.upd o.dst V):=by
 intro hb
 refine T ?_
 exact hb.out):DR C k all done (o::rest) s:=Bd hg hi hw (e ⟨h⟩) hn
end Go.Sy.YteinjapglfkamaaGreat
namespace Go.Sy.YteinjapglfkamaaGreat
open Go.Proofs
attribute [local irreducible] Go.Sy.G Go.Sy.DR
set_option maxRecDepth 100000
set_option maxHeartbeats 4000000
structure TabsOK (tabs:List (List EntryM)):Prop where
 few:tabs.length≤60
 tab:∀ t∈tabs,t.length≤60
 ok:Ar7 tabs
theorem Tn {tabs:List (List EntryM)} (h:TabsOK tabs) (m:MacM) (j:Nat) (hj:j<tabs.length):Do m tabs (j+1)=(loadT (Do m tabs j) j tabs[j]).1:=by
 rw[Do,Oc hj,Qe,if_neg (by have:=h.tab _ (List.getElem_mem hj);omega)]
theorem Acr {m:MacM} {j:Nat} {t:List EntryM} (h:¬ j<m.queues.length):(loadT m j t).1=m:=by
 unfold loadT
 rw[if_neg]
 intro hc
 have:=(placeB_iff.1 hc.1).2
 omega
theorem Xz (n:Net) (hn:n.Fin) (tabs:List (List EntryM)) (hok:okB n (Km n)=false) :
  Sy.Spec Tryz.prog 265 [Aj n,.sl 1 D4 tabs] [] (.tup [.val (.pointer none),Aa 2]) []:=cT F265 Tryz.ntmps265 fun F hF=>by
 refine T ?_
 refine C (Te n hn hok) F50 ?_
 exact D
theorem Adr (n:Net) (hn:n.Fin) (tabs:List (List EntryM)) (ht:TabsOK tabs) (hok:okB n (Km n)=true) :
  Sy.Spec Tryz.prog 265 [Aj n,.sl 1 D4 tabs] [] (.tup [.ptr 0 0,Aa 0]) (De n (Dz n tabs) false):=cT F265 Tryz.ntmps265 fun F hF=>by
 have q1:=Adt n hn hok
 have hn0:=U2 n
 unfold Dz
 generalize newT n=m0 at *
 have htl:=ht.few
 have hds:=hn.domains
 unfold Ap at hds
 refine T ?_
 refine X (Af [(0,800),(1,801),(2,802),(3,803)] E F50 q1 E W E V) ?_
 refine Jd 2 902 E E qy ?_
 refine At tabs.length (fun j=>[(2,.ptr 902 0),(6,.ptr 0 0),(18,.sl 1 D4 tabs),(19,Aa tabs.length),(20,Aa j)]) (fun j=>[(0,.box (X0 n 1 (Do m0 tabs j).now (Do m0 tabs j).injected (Do m0 tabs j).drops)),(1,.box (Ol n (Do m0 tabs j).up false)),(2,.row 1 D4 (Do m0 tabs j).tables),(3,.row 1 Lh (Do m0 tabs j).queues),(902,.box (Abl n))]) [(0,800),(1,801),(2,802),(3,803)] U ?_
 intro j hj
 have hok0:=Me hn0 ht.ok j
 refine T ?_
 refine⟨fun h=>?_,fun h=>?_⟩
 ·have hlt:j<tabs.length:=qA h
  have hj0:((j:Nat):Int).toNat<tabs.length:=by simpa using hlt
  obtain ⟨t,hoo⟩:∃ t,tabs[j]=t:=⟨_,rfl⟩
  have e1:tabs[((j:Nat):Int).toNat]'hj0=t:=hoo
  have hs:=Tn ht m0 j hlt
  rw[hoo]at hs
  have hti:=ht.ok t (by rw[← hoo];exact List.getElem_mem hlt)
  have htt:=ht.tab t (by rw[← hoo];exact List.getElem_mem hlt)
  have hto:=Yz hti.1 htt
  have hqd:=hok0.ques
  have q2:=Apl n (Do m0 tabs j) false j t (by rw[hok0.tabs,hok0.ques]) hto.short hto.mac
  have hout:=Acr (m:=Do m0 tabs j) (j:=j) (t:=t)
  rw[← hs]at q2 hout
  clear h
  refine S ?_
  refine⟨E,by omega,hj0,?_⟩
  rw[e1]
  refine T ?_
  refine⟨fun h=>?_,fun h=>?_⟩
  ·refine T ?_
   refine X (Af [] E F325 q2 E W E V) ?_
   exact An [] hlt U
  ·have hm:=hout (qB h)
   refine T ?_
   refine An [] hlt ⟨⟨E,E,E,E,E,E,E,E,E,E,Y⟩,?_,E,E⟩
   dsimp only
   rw[hm]
   exact Uo
 ·have hjj:j=tabs.length:=qB h
  subst hjj
  refine T ?_
  exact E0
theorem Amt (n:Net) (hn:n.Fin) (hm1:n.Num) (tabs:List (List EntryM)) (ht:TabsOK tabs) (l:List StepM) (hl:ScriptOK l) :
  Sy.Spec Tryz.prog 196 [Aj n,.sl 1 D4 tabs,.sl 6 Bo l] [] (.tup [.sl 3 Bk (runTabsT n tabs l).1,Aa (runTabsT n tabs l).2]) []:=cT F196 Tryz.ntmps196 fun F hF=>by
 have hres:=runTabsT.eq_1 n tabs l
 generalize runTabsT n tabs l=res at *
 have hlen:=hl.few
 cases hok:okB n (Km n)
 ·rw[if_neg (by rw[hok];simp)]at hres
  subst hres
  refine T ?_
  refine C (Xz n hn tabs hok) F265 ?_
  refine Am 6 3 Bk E ?_
  exact D
 ·rw[if_pos hok]at hres
  subst hres
  have q1:=Adr n hn tabs ht hok
  have hn0:MacOK n (Dz n tabs) 0 0:=Me (U2 n) ht.ok _
  generalize Dz n tabs=m0 at *
  refine T ?_
  refine X (Af [(0,800),(1,801),(2,802),(3,803)] E F265 q1 E W E V) ?_
  refine Bm 10 1000 3 Bk E E ?_
  refine At l.length (fun j=>[(8,.ptr 0 0),(10,.osl 1000),(24,.sl 6 Bo l),(25,Aa l.length),(26,Aa j)]) (fun j=>runO n (Cp n m0 (l.take j)).1 (runD n m0 false (l.take j)) (Cp n m0 (l.take j)).2) [(0,800),(1,801),(2,802),(3,803)] U ?_
  intro j hj
  refine T ?_
  refine⟨fun h=>?_,fun h=>?_⟩
  ·have hlt:j<l.length:=qA h
   have hj0:((j:Nat):Int).toNat<l.length:=by simpa using hlt
   obtain ⟨x,hoo⟩:∃ x,l[j]=x:=⟨_,rfl⟩
   have e1:l[((j:Nat):Int).toNat]'hj0=x:=hoo
   have hs:=V9 n m0 l j hlt
   have hds:=Acd n m0 false l j hlt
   rw[hoo]at hs hds
   have hxb:=hl.bytes x (by rw[← hoo];exact List.getElem_mem hlt)
   have hjo:=Yg hn hm1 (l.take j) hn0 (Int.le_refl _) (Int.le_refl _)
   have hjl:(l.take j).length=j:=by rw[List.length_take];omega
   have hjf:=Kq hn (l.take j) m0
   rw[hjl]at hjo hjf
   have q5:=Apo n hn hm1 (Cp n m0 (l.take j)).1 (runD n m0 false (l.take j)) _ _ hjo qn qn qn x qn
   have hfw:=Yn hn (Cp n m0 (l.take j)).1 x
   have g1:(Cp n m0 (l.take (j+1))).1=(doT n (Cp n m0 (l.take j)).1 x).1:=by rw[hs]
   have g2:(Cp n m0 (l.take (j+1))).2=(Cp n m0 (l.take j)).2++(doT n (Cp n m0 (l.take j)).1 x).2:=by rw[hs]
   clear h
   refine S ?_
   refine⟨E,by omega,hj0,?_⟩
   rw[e1]
   refine T ?_
   refine X (Af [(4,33)] E F52 q5 E W E V) ?_
   refine X (Ac Γ.toTy 38 E E E E E (.row E) .sl qz qn qn) ?_
   refine An [(1,33),(1000,38)] hlt ⟨⟨E,E,E,E,E,E,E,E,E,E,Y⟩,?_,E,E⟩
   dsimp only
   rw[g1,g2,hds]
   exact Uo
  ·have hjj:j=l.length:=qB h
   subst hjj
   rw[List.take_length]
   clear h
   refine T ?_
   refine Ao 1000 E ?_
   exact D
def ownAt (n:Net) (of:List Int) (i:Nat):Bool:=if (nth n.ports (i:Int)).link<0 then decide (0≤nth of (i:Int)) && decide (nth of (i:Int)≤9) else decide (nth of (i:Int)=-1)
theorem Zx (n:Net) (of:List Int):Du n of=(decide (of.length=n.ports.length) && Ae n && (List.range of.length).all (ownAt n of)):=rfl
theorem Acl {k:Nat} {p:Nat→Bool} (h:∀ i,i<k→p i=true):(List.range k).all p=true:=by
 rw[List.all_eq_true]
 intro i hi
 exact h i (List.mem_range.1 hi)
theorem Ack {k j:Nat} {p:Nat→Bool} (hj:j<k) (h:p j=false):(List.range k).all p=false:=by
 rw[Bool.eq_false_iff]
 intro ha
 have:=List.all_eq_true.1 ha j (List.mem_range.2 hj)
 rw[h]at this;cases this
theorem Ux (n:Net) (hn:n.Fin) (of:List Int):Sy.Spec Tryz.prog 62 [Aj n,.sl 1 Aa of] [] (Ab (Du n of)) []:=cT F62 Tryz.ntmps62 fun F hF=>by
 have hres:=Zx n of
 generalize Du n of=res at *
 have qr:=B0 n hn
 have hps:=hn.ports
 unfold Ap at hps
 generalize Ae n=nr at *
 refine T ?_
 refine⟨fun h=>?_,fun h=>?_⟩
 ·rw[decide_eq_false (show ¬ of.length=n.ports.length by simp at h;omega),Bool.false_and,Bool.false_and]at hres
  subst hres
  refine T ?_
  exact D
 have hlen:of.length=n.ports.length:=by simp at h;omega
 rw[decide_eq_true hlen,Bool.true_and]at hres
 refine T ?_
 refine C qr F23 ?_
 cases nr
 ·rw[Bool.false_and]at hres
  subst hres
  refine T ?_
  exact D
 rw[Bool.true_and]at hres
 refine T ?_
 refine Ay of.length (fun j=>∀ i,i<j→ownAt n of i=true) (fun j=>[(2,.ptr 2 0),(19,.sl 1 Aa of),(20,Aa of.length),(21,Aa j)]) (fun _=>[(2,.box (Abl n))]) [] (fun i hi=>absurd hi (Nat.not_lt_zero i)) U ?_
 intro j hj hI
 refine T ?_
 refine⟨fun h=>?_,fun h=>?_⟩
 ·have hlt:j<of.length:=qA h
  have hj0:((j:Nat):Int).toNat<of.length:=by simpa using hlt
  have hj1:((j:Nat):Int).toNat<n.ports.length:=by rw[← hlen];exact hj0
  have hat:=ownAt.eq_1 n of j
  rw[Ak hj1,Ak hj0]at hat
  obtain ⟨w,hw⟩:∃ w,of[((j:Nat):Int).toNat]'hj0=w:=⟨_,rfl⟩
  obtain ⟨p,hp⟩:∃ p,n.ports[((j:Nat):Int).toNat]'hj1=p:=⟨_,rfl⟩
  rw[hw,hp]at hat
  have bad:ownAt n of j=false→res=false:=fun hb=>by rw[hres];exact Ack hlt hb
  have good:ownAt n of j=true→∀ i,i<j+1→ownAt n of i=true:=fun hb i hi=>by
   by_cases he:i=j
   ·subst he;exact hb
   ·exact hI i qn
  generalize ownAt n of j=g at *
  clear h
  refine S ?_
  refine⟨E,by omega,hj0,?_⟩
  rw[hw]
  refine S ?_
  refine⟨E,by omega,hj1,?_⟩
  rw[hp]
  refine T ?_
  refine⟨fun h1=>?_,fun h1=>?_⟩
  ·have hl:=of_decide_eq_true h1
   rw[if_neg qn]at hat
   refine T ?_
   refine⟨fun h2=>?_,fun h2=>?_⟩
   ·have hr:=bad (by rw[hat];simp at h2;simp;omega)
    subst hr
    refine T ?_
    exact D
   ·have hx:=good (by rw[hat];simp at h2;simp;omega)
    refine T ?_
    refine Av [] hI hlt hx ?_
    exact U
  ·have hl:=of_decide_eq_false h1
   rw[if_pos qn,← Bool.decide_and]at hat
   refine T ?_
   refine⟨fun h2=>?_,fun h2=>?_⟩
   ·have hr:=bad (by rw[hat];exact decide_eq_false (by have:=of_decide_eq_true h2;omega))
    subst hr
    refine T ?_
    exact D
   refine T ?_
   refine⟨fun h3=>?_,fun h3=>?_⟩
   ·have hr:=bad (by rw[hat];exact decide_eq_false (by have:=of_decide_eq_true h3;omega))
    subst hr
    refine T ?_
    exact D
   have hx:=good (by rw[hat];exact decide_eq_true (by have:=of_decide_eq_false h2;have:=of_decide_eq_false h3;omega))
   refine T ?_
   refine Av [] hI hlt hx ?_
   exact U
 ·have hjj:j=of.length:=qB h
  subst hjj
  have hr:res=true:=by rw[hres];exact Acl hI
  subst hr
  refine T ?_
  exact D
def Art (n:Net) (of:List Int) (tabs:List (List EntryM)):List SV:=[.sl 5 Bs n.devices,.sl 7 Bh n.ports,.sl 3 Cs n.links,.sl 6 Aw n.domains,.sl 4 Bp n.statics,.sl 4 B7 n.floods,.sl 5 C4 n.vrfs,.sl 5 Dp n.irbs,.sl 1 Aa of,.sl 1 D4 tabs]
def Ame (n:Net) (of:List Int) (tabs:List (List EntryM)):SV:=.agg [.sl 5 Bs n.devices,.sl 7 Bh n.ports,.sl 3 Cs n.links,.sl 6 Aw n.domains,.sl 4 Bp n.statics,.sl 4 B7 n.floods,.sl 5 C4 n.vrfs,.sl 5 Dp n.irbs,.sl 1 Aa of,.sl 1 D4 tabs]
def portX (of:List Int) (x:StepM):List Int:=if injB of x=true then [x.port] else []
theorem W9 (of:List Int) (l:List StepM) (j:Nat) (hj:j<l.length):H6 of (l.take (j+1))=H6 of (l.take j)++portX of l[j]:=by
 unfold H6 portX
 rw[List.take_succ_eq_append_getElem hj,List.filter_append,List.map_append]
 congr 1
 by_cases h:injB of l[j]=true
 ·rw[if_pos h,List.filter_cons_of_pos h];rfl
 ·rw[if_neg h,List.filter_cons_of_neg h];rfl
theorem M2 (of:List Int) (l:List StepM):(H6 of l).length≤l.length:=by
 unfold H6
 rw[List.length_map]
 exact List.length_filter_le _ _
theorem Ahy (n:Net) (of:List Int) (tabs:List (List EntryM)) (l:List StepM) (hl:l.length≤60) :
  Sy.Spec Tryz.prog 197 [Ame n of tabs,.sl 6 Bo l] [] (.sl 1 Aa (H6 of l)) []:=cT F197 Tryz.ntmps197 fun F hF=>by
 refine T ?_
 refine Bm 5 1000 1 Aa E E ?_
 refine At l.length (fun j=>[(2,.ptr 2 0),(5,.osl 1000),(8,.sl 6 Bo l),(9,Aa l.length),(10,Aa j)]) (fun j=>[(2,.box (Art n of tabs)),(1000,.row 1 Aa (H6 of (l.take j)))]) [] U ?_
 intro j hj
 refine T ?_
 refine⟨fun h=>?_,fun h=>?_⟩
 ·have hlt:j<l.length:=qA h
  have hj0:((j:Nat):Int).toNat<l.length:=by simpa using hlt
  obtain ⟨x,hoo⟩:∃ x,l[j]=x:=⟨_,rfl⟩
  have e1:l[((j:Nat):Int).toNat]'hj0=x:=hoo
  have hs:=W9 of l j hlt
  have hpl:=M2 of (l.take j)
  rw[List.length_take]at hpl
  rw[hoo]at hs
  have hv:=portX.eq_1 of x
  have hb:=injB.eq_1 of x
  generalize injB of x=b at *
  generalize portX of x=v at *
  clear h
  refine S ?_
  refine⟨E,by omega,hj0,?_⟩
  rw[e1]
  refine T ?_
  by_cases hk:x.kind=1
  rotate_left
  ·rw[decide_eq_false hk,Bool.false_and]at hb
   rw[hb,if_neg qz]at hv
   rw[hv,List.append_nil]at hs
   refine T ?_
   refine An [] hlt ⟨⟨E,E,E,E,E,E,E,E,E,E,Y⟩,⟨.inl E,E,.inl (congrArg (Ob.row 1 Aa) hs),E,Y⟩,E,E⟩
  rw[decide_eq_true hk,Bool.true_and]at hb
  refine S ?_
  refine⟨fun h1=>?_,fun h1=>?_⟩
  rotate_left
  ·rw[M4 (by have:=of_decide_eq_false h1;omega),Bool.false_and]at hb
   rw[hb,if_neg qz]at hv
   rw[hv,List.append_nil]at hs
   refine T ?_
   refine An [] hlt ⟨⟨E,E,E,E,E,E,E,E,E,E,Y⟩,⟨.inl E,E,.inl (congrArg (Ob.row 1 Aa) hs),E,Y⟩,E,E⟩
  have h1:=of_decide_eq_true h1
  refine T ?_
  refine⟨fun h2=>?_,fun h2=>?_⟩
  rotate_left
  ·rw[M4 (by have:=of_decide_eq_false h2;omega),Bool.false_and]at hb
   rw[hb,if_neg qz]at hv
   rw[hv,List.append_nil]at hs
   refine T ?_
   refine An [] hlt ⟨⟨E,E,E,E,E,E,E,E,E,E,Y⟩,⟨.inl E,E,.inl (congrArg (Ob.row 1 Aa) hs),E,Y⟩,E,E⟩
  have h2:=of_decide_eq_true h2
  have hkk:x.port.toNat<of.length:=by omega
  rw[Di qn,Bool.true_and,Ak hkk]at hb
  refine T ?_
  refine⟨fun h3=>?_,fun h3=>?_⟩
  rotate_left
  ·rw[decide_eq_false (by have:=of_decide_eq_false h3;omega)]at hb
   rw[hb,if_neg qz]at hv
   rw[hv,List.append_nil]at hs
   refine T ?_
   refine An [] hlt ⟨⟨E,E,E,E,E,E,E,E,E,E,Y⟩,⟨.inl E,E,.inl (congrArg (Ob.row 1 Aa) hs),E,Y⟩,E,E⟩
  rw[decide_eq_true (by have:=of_decide_eq_true h3;omega)]at hb
  rw[hb,if_pos rfl]at hv
  rw[hv]at hs
  refine T ?_
  refine X (Ac Γ.toTy 43 rfl rfl rfl rfl rfl (.row rfl) (.lit (e:=Aa) (l:=[x.port]) rfl rfl) (fun j hj=>by cases hj;decide) (by simp;omega) (by simp;omega)) ?_
  refine An [(1000,43)] hlt ⟨⟨E,E,E,E,E,E,E,E,E,E,Y⟩,⟨.inl E,E,.inl (congrArg (Ob.row 1 Aa) hs),E,Y⟩,E,E⟩
 ·have hjj:j=l.length:=qB h
  subst hjj
  rw[List.take_length]
  refine T ?_
  refine Ao 1000 E ?_
  exact D
theorem Qu (of by_:List Int):∀ (a b:List SeenM),(∀ s∈a,nth of (nth by_ (s.origin-1))=nth of s.port)→L2 of by_ (a++b)=L2 of by_ b
 | [],b,_=>rfl
 | s::a,b,h=>by
  rw[List.cons_append,L2,if_neg (fun hn=>hn (h s qz))]
  exact Qu of by_ a b (fun s hs=>h s (by simp[hs]))
theorem Amm {α:Type} {p:Nat→α→Bool} {l:List α} {j:Nat} (h:Dd p l j):∀ x∈l.take j,∃ i,p i x=true:=by
 intro x hx
 obtain ⟨i,hi,rfl⟩:=List.getElem_of_mem hx
 rw[List.length_take]at hi
 refine⟨i,?_⟩
 rw[List.getElem_take]
 exact h i qn qn
def Sv (of by_:List Int) (s:SeenM):Bool:=decide (nth of (nth by_ (s.origin-1))=nth of s.port)
theorem Xs {of by_:List Int} {l:List SeenM} {j:Nat} (hI:Dd (fun _ s=>Sv of by_ s) l j) (hj:j<l.length) (h:nth of (nth by_ (l[j].origin-1))≠nth of l[j].port):L2 of by_ l=(nth by_ (l[j].origin-1),l[j].port,true):=by
 have e:l=l.take j++(l[j]::l.drop (j+1)):=by rw[← List.drop_eq_getElem_cons hj,List.take_append_drop]
 have hs:=Qu of by_ (l.take j) (l[j]::l.drop (j+1)) (fun s hs=>by obtain ⟨i,hp⟩:=Amm hI s hs;exact of_decide_eq_true hp)
 rw[← e]at hs
 rw[hs,L2,if_pos h]
theorem Xr {of by_:List Int} {l:List SeenM} {j:Nat} (hI:Dd (fun _ s=>Sv of by_ s) l j) (hj:l.length≤j):L2 of by_ l=(0,0,false):=by
 have hs:=Qu of by_ l [] (fun s hs=>by
  obtain ⟨i,hi,rfl⟩:=List.getElem_of_mem hs
  exact of_decide_eq_true (hI i hi qn))
 rw[List.append_nil]at hs
 rw[hs,L2]
theorem Ab3 (n:Net) (hn:n.Fin) (hm1:n.Num) (of:List Int) (tabs:List (List EntryM)) (ht:TabsOK tabs) (l:List StepM) (hl:ScriptOK l) :
  Sy.Spec Tryz.prog 134 [Ame n of tabs,.sl 6 Bo l] [] (.tup [Aa (crossesT n of tabs l).1,Aa (crossesT n of tabs l).2.1,Ab (crossesT n of tabs l).2.2]) []:=cT F134 Tryz.ntmps134 fun F hF=>by
 have hres:=crossesT.eq_1 n of tabs l
 generalize crossesT n of tabs l=res at *
 have q1:=Ux n hn of
 have q2:=Amt n hn hm1 tabs ht l hl
 have q3:=Ahy n of tabs l hl.few
 have hrs:=fun ho=>Afx (n:=n) (of:=of) ho tabs l
 have hpa:=@portsL_at of l
 have hpl:=M2 of l
 have hfw:=Kq hn l (Dz n tabs)
 have hlf:=hl.few
 have r2:=runTabsT.eq_1 n tabs l
 refine T ?_
 refine C q1 F62 ?_
 cases ho:Du n of
 ·rw[if_neg (by rw[ho];simp)]at hres
  subst hres
  refine T ?_
  exact D
 have hrs:=hrs ho
 refine T ?_
 cases hok:okB n (Km n)
 ·rw[if_neg (by rw[hok];simp)]at hres r2
  subst hres
  rw[r2]at q2
  refine C q2 F196 ?_
  exact D
 rw[if_pos ⟨ho,hok⟩]at hres
 rw[if_pos hok]at r2
 rw[r2]at q2
 subst hres
 clear r2
 generalize (Cp n (Dz n tabs) l).2=sn at *
 generalize H6 of l=bl at *
 refine C q2 F196 ?_
 refine C q3 F197 ?_
 refine Ay sn.length (fun j=>Dd (fun _ s=>Sv of bl s) sn j) (fun j=>[(2,.ptr 2 0),(9,.sl 1 Aa bl),(33,.sl 3 Bk sn),(34,Aa sn.length),(35,Aa j)]) (fun _=>[(2,.box (Art n of tabs))]) [] (A2 _ _) U ?_
 intro j hj hI
 refine T ?_
 refine⟨fun h=>?_,fun h=>?_⟩
 ·have hlt:j<sn.length:=qA h
  have hj0:((j:Nat):Int).toNat<sn.length:=by simpa using hlt
  have hh:=fun h=>Xs hI hlt h
  have hnx:=fun h=>A1 (p:=fun _ s=>Sv of bl s) hI hlt h
  have hsn:=hrs _ (List.getElem_mem hlt)
  obtain ⟨x,hoo⟩:∃ x,sn[j]=x:=⟨_,rfl⟩
  have e1:sn[((j:Nat):Int).toNat]'hj0=x:=hoo
  rw[hoo]at hh hnx hsn
  unfold Sv at hnx
  obtain ⟨hx1,hx2,hx3⟩:=hsn
  have hx1:=Ba hx1
  have hk0:(x.origin-1).toNat<bl.length:=by omega
  have hw1:=(hpa _ (List.getElem_mem hk0)).1
  have hw1:=Ba hw1
  have hk1:(bl[(x.origin-1).toNat]'hk0).toNat<of.length:=by omega
  have hk2:x.port.toNat<of.length:=by omega
  rw[Ak hk0,Ak hk1,Ak hk2]at hh hnx
  clear h hrs hpa
  refine S ?_
  refine⟨E,by omega,hj0,?_⟩
  rw[e1]
  refine T ?_
  refine⟨fun h1=>?_,fun h1=>?_⟩
  ·rw[hh (by simpa using h1)]
   refine T ?_
   exact D
  ·have hI2:=hnx (decide_eq_true (by simpa using h1))
   refine T ?_
   refine Av [] hI hlt hI2 ?_
   exact U
 ·rw[Xr hI (qB h)]
  refine T ?_
  exact D
theorem Y4 (n:Net) (hn:n.Fin) (hm1:n.Num) (of:List Int) (tabs:List (List EntryM)) (ht:TabsOK tabs) (l:List StepM) (hl:ScriptOK l) :
  Sy.Spec Tryz.prog 66 [Aj n,.sl 1 Aa of,.sl 1 D4 tabs,.sl 6 Bo l] [] (.tup [Aa (crossesT n of tabs l).1,Aa (crossesT n of tabs l).2.1,Ab (crossesT n of tabs l).2.2]) []:=cT F66 Tryz.ntmps66 fun F hF=>by
 refine T ?_
 refine C (Ab3 n hn hm1 of tabs ht l hl) F134 ?_
 exact D
theorem W4 (n:Net) (hn:n.Fin) (of:List Int):Sy.Spec Tryz.prog 67 [Aj n,.sl 1 Aa of] [] (Ab (Du n of)) []:=cT F67 Tryz.ntmps67 fun F hF=>by
 have hres:=Zx n of
 generalize Du n of=res at *
 have qr:=Dy n hn
 have hps:=hn.ports
 unfold Ap at hps
 have hpl:=fun (h:Ae n=true) i hi=>E5 (n:=n) h (i:=i) hi
 generalize Ae n=nr at *
 refine T ?_
 refine⟨fun h=>?_,fun h=>?_⟩
 ·rw[decide_eq_false (show ¬ of.length=n.ports.length by simp at h;omega),Bool.false_and,Bool.false_and]at hres
  subst hres
  refine T ?_
  exact D
 have hlen:of.length=n.ports.length:=by simp at h;omega
 rw[decide_eq_true hlen,Bool.true_and]at hres
 refine T ?_
 refine C qr F10 ?_
 cases nr
 ·rw[Bool.false_and]at hres
  subst hres
  refine T ?_
  exact D
 rw[Bool.true_and]at hres
 have hpl:=hpl rfl
 refine T ?_
 refine Ay of.length (fun j=>∀ i,i<j→ownAt n of i=true) (fun j=>[(1,.sl 1 Aa of),(2,.ptr 2 0),(5,Aa j)]) (fun _=>[(2,.box (Abl n))]) [] (fun i hi=>absurd hi (Nat.not_lt_zero i)) U ?_
 intro j hj hI
 refine T ?_
 refine⟨fun h=>?_,fun h=>?_⟩
 ·have hlt:j<of.length:=qA h
  have hj0:((j:Nat):Int).toNat<of.length:=by simpa using hlt
  have hj1:((j:Nat):Int).toNat<n.ports.length:=by rw[← hlen];exact hj0
  have hat:=ownAt.eq_1 n of j
  rw[Ak hj1,Ak hj0]at hat
  have hlk:=hpl _ hj1
  obtain ⟨w,hw⟩:∃ w,of[((j:Nat):Int).toNat]'hj0=w:=⟨_,rfl⟩
  obtain ⟨p,hp⟩:∃ p,n.ports[((j:Nat):Int).toNat]'hj1=p:=⟨_,rfl⟩
  rw[hw,hp]at hat
  rw[hp]at hlk
  have bad:ownAt n of j=false→res=false:=fun hb=>by rw[hres];exact Ack hlt hb
  have good:ownAt n of j=true→∀ i,i<j+1→ownAt n of i=true:=fun hb i hi=>by
   by_cases he:i=j
   ·subst he;exact hb
   ·exact hI i qn
  generalize ownAt n of j=g at *
  clear h
  refine S ?_
  refine⟨E,by omega,hj1,?_⟩
  rw[hp]
  by_cases hl:p.link<0
  ·rw[if_pos hl,← Bool.decide_and]at hat
   refine S ?_
   refine⟨E,by omega,hj1,?_⟩
   rw[hp]
   refine S ?_
   refine⟨E,by omega,hj0,?_⟩
   rw[hw]
   refine S ?_
   refine⟨fun h2=>?_,fun h2=>?_⟩
   ·have hr:=bad (by rw[hat];exact decide_eq_false (by have:=of_decide_eq_true h2;omega))
    subst hr
    refine T ?_
    exact D
   refine S ?_
   refine⟨E,by omega,hj0,?_⟩
   rw[hw]
   refine S ?_
   refine⟨fun h3=>?_,fun h3=>?_⟩
   ·have hr:=bad (by rw[hat];exact decide_eq_false (by have:=of_decide_eq_true h3;omega))
    subst hr
    refine T ?_
    exact D
   have hx:=good (by rw[hat];exact decide_eq_true (by have:=of_decide_eq_false h2;have:=of_decide_eq_false h3;omega))
   refine T ?_
   refine Av [] hI hlt hx ?_
   exact U
  ·rw[if_neg hl]at hat
   refine S ?_
   refine⟨E,by omega,hj0,?_⟩
   rw[hw]
   refine S ?_
   refine⟨fun h2=>?_,fun h2=>?_⟩
   ·have hr:=bad (by rw[hat];simp at h2;simp;omega)
    subst hr
    refine T ?_
    exact D
   ·have hx:=good (by rw[hat];simp at h2;simp;omega)
    refine S ?_
    refine⟨E,by omega,hj1,?_⟩
    rw[hp]
    refine T ?_
    refine Av [] hI hlt hx ?_
    exact U
 ·have hjj:j=of.length:=qB h
  subst hjj
  have hr:res=true:=by rw[hres];exact Acl hI
  subst hr
  refine T ?_
  exact D
theorem Z1 {n:Net} {tabs:List (List EntryM)} (h:TabsOK tabs) (m:MacM) (hm:MacOK n m 0 0):∀ j,n.domains.length≤j→j≤tabs.length→∀ k,j+k≤tabs.length→Do m tabs (j+k)=Do m tabs j
 | j,h1,h2,0,_=>rfl
 | j,h1,h2,k+1,hk=>by
  rw[show j+(k+1)=(j+k)+1 by omega,Tn h m (j+k) qn,Acr,Z1 h m hm j h1 h2 k qn]
  rw[(Me hm h.ok (j+k)).ques]
  omega
theorem Abd (n:Net) (hn:n.Fin) (tabs:List (List EntryM)) (hok:okB n (Km n)=false) :
  Sy.Spec Tryz.prog 136 [Aj n,.sl 1 D4 tabs] [] (.tup [.val (.pointer none),Aa 2]) []:=cT F136 Tryz.ntmps136 fun F hF=>by
 refine T ?_
 refine C (Aa1 n hn hok) F56 ?_
 exact D
theorem Ais (n:Net) (hn:n.Fin) (tabs:List (List EntryM)) (ht:TabsOK tabs) (hok:okB n (Km n)=true) :
  Sy.Spec Tryz.prog 136 [Aj n,.sl 1 D4 tabs] [] (.tup [.ptr 0 0,Aa 0]) (E6 n (Dz n tabs)):=cT F136 Tryz.ntmps136 fun F hF=>by
 have q1:=Amb n hn hok
 have hn0:=U2 n
 unfold Dz
 generalize newT n=m0 at *
 have htl:=ht.few
 refine T ?_
 refine X (Af [(0,800),(902,812),(903,813)] E F56 q1 E W E V) ?_
 refine At tabs.length (fun j=>[(1,.sl 1 D4 tabs),(6,.ptr 0 0),(8,Aa j)]) (fun j=>[(0,.box (Jb n (Do m0 tabs j).up (Do m0 tabs j).now (Do m0 tabs j).injected (Do m0 tabs j).drops)),(902,.row 1 D4 (Do m0 tabs j).tables),(903,.row 1 Lh (Do m0 tabs j).queues)]) [(0,800),(902,812),(903,813)] U ?_
 intro j hj
 have hok0:=Me hn0 ht.ok j
 have hstop:=Z1 ht m0 hn0 j
 refine T ?_
 refine⟨fun h=>?_,fun h=>?_⟩
 ·have hlt:j<tabs.length:=qA h
  have hj0:((j:Nat):Int).toNat<tabs.length:=by simpa using hlt
  obtain ⟨t,hoo⟩:∃ t,tabs[j]=t:=⟨_,rfl⟩
  have e1:tabs[((j:Nat):Int).toNat]'hj0=t:=hoo
  have hs:=Tn ht m0 j hlt
  rw[hoo]at hs
  have hti:=ht.ok t (by rw[← hoo];exact List.getElem_mem hlt)
  have htt:=ht.tab t (by rw[← hoo];exact List.getElem_mem hlt)
  have hto:=Yz hti.1 htt
  have q2:=Lg t hto.short hto.mac
  have htq:(Do m0 tabs j).tables.length=(Do m0 tabs j).queues.length:=by rw[hok0.tabs,hok0.ques]
  have hdt:=hok0.tabs
  rw[loadT]at hs
  refine T ?_
  refine⟨fun h2=>?_,fun h2=>?_⟩
  ·have hjt:j<(Do m0 tabs j).tables.length:=by have:=of_decide_eq_true h2;omega
   have hj2:((j:Nat):Int).toNat<(Do m0 tabs j).tables.length:=by simpa using hjt
   rw[show Ai (j:Int) (Do m0 tabs j).queues.length=true from Di ⟨by omega,by rw[← htq];omega⟩]at hs
   generalize tableB t=tb at *
   clear h h2
   refine S ?_
   refine⟨E,by omega,hj0,?_⟩
   rw[e1]
   refine T ?_
   refine C q2 F192 ?_
   cases tb
   ·rw[if_neg qz]at hs
    refine T ?_
    refine An [] hlt ⟨⟨E,E,E,E,E,E,Y⟩,?_,E,E⟩
    dsimp only
    rw[hs]
    exact Uo
   rw[if_pos ⟨rfl,rfl⟩]at hs
   refine S ?_
   refine⟨E,by omega,hj0,?_⟩
   rw[e1]
   refine T ?_
   refine Xd (Good.dataT (Ac Γ.toTy 47 E E E E E (.lit (e:=Al) (l:=[]) E E) .sl qz (by simp;omega) (by simp;omega))) ?_
   refine⟨t,E,E,?_⟩
   refine T ?_
   refine An [] hlt ⟨⟨E,E,E,E,E,E,Y⟩,?_,E,E⟩
   dsimp only
   rw[hs]
   exact Uo
  ·have hfin:=hstop (by have:=of_decide_eq_false h2;omega) hj (tabs.length-j) qn
   rw[show j+(tabs.length-j)=tabs.length by omega]at hfin
   rw[hfin]
   refine T ?_
   exact E0
 ·have hjj:j=tabs.length:=qB h
  subst hjj
  refine T ?_
  exact E0
theorem Aln (n:Net) (hn:n.Fin) (hm1:n.Num) (tabs:List (List EntryM)) (ht:TabsOK tabs) (l:List StepM) (hl:ScriptOK l) :
  Sy.Spec Tryz.prog 69 [Aj n,.sl 1 D4 tabs,.sl 6 Bo l] [] (.tup [.sl 3 Bk (runTabsT n tabs l).1,Aa (runTabsT n tabs l).2]) []:=cT F69 Tryz.ntmps69 fun F hF=>by
 have hres:=runTabsT.eq_1 n tabs l
 generalize runTabsT n tabs l=res at *
 have hlen:=hl.few
 cases hok:okB n (Km n)
 ·rw[if_neg (by rw[hok];simp)]at hres
  subst hres
  refine T ?_
  refine C (Abd n hn tabs hok) F136 ?_
  refine Am 6 3 Bk E ?_
  exact D
 ·rw[if_pos hok]at hres
  subst hres
  have hrt:=(ok_iff.1 hok).2.1
  have q1:=Ais n hn tabs ht hok
  have hn0:MacOK n (Dz n tabs) 0 0:=Me (U2 n) ht.ok _
  generalize Dz n tabs=m0 at *
  refine T ?_
  refine X (Af [(0,800),(902,812),(903,813)] E F136 q1 E W E V) ?_
  refine Bm 10 1000 3 Bk E E ?_
  refine At l.length (fun j=>[(2,.sl 6 Bo l),(8,.ptr 0 0),(10,.osl 1000),(11,Aa j)]) (fun j=>[(0,.box (Jb n (Cp n m0 (l.take j)).1.up (Cp n m0 (l.take j)).1.now (Cp n m0 (l.take j)).1.injected (Cp n m0 (l.take j)).1.drops)),(902,.row 1 D4 (Cp n m0 (l.take j)).1.tables),(903,.row 1 Lh (Cp n m0 (l.take j)).1.queues),(1000,.row 3 Bk (Cp n m0 (l.take j)).2)]) [(0,800),(902,812),(903,813)] U ?_
  intro j hj
  refine T ?_
  refine⟨fun h=>?_,fun h=>?_⟩
  ·have hlt:j<l.length:=qA h
   have hj0:((j:Nat):Int).toNat<l.length:=by simpa using hlt
   obtain ⟨x,hoo⟩:∃ x,l[j]=x:=⟨_,rfl⟩
   have e1:l[((j:Nat):Int).toNat]'hj0=x:=hoo
   have hs:=V9 n m0 l j hlt
   rw[hoo]at hs
   have hxb:=hl.bytes x (by rw[← hoo];exact List.getElem_mem hlt)
   have hjo:=Yg hn hm1 (l.take j) hn0 (Int.le_refl _) (Int.le_refl _)
   have hjl:(l.take j).length=j:=by rw[List.length_take];omega
   have hjf:=Kq hn (l.take j) m0
   rw[hjl]at hjo hjf
   have q5:=docDoS n hn hm1 hrt (Cp n m0 (l.take j)).1 _ _ hjo qn qn qn x qn
   have hfw:=Yn hn (Cp n m0 (l.take j)).1 x
   have g1:(Cp n m0 (l.take (j+1))).1=(doT n (Cp n m0 (l.take j)).1 x).1:=by rw[hs]
   have g2:(Cp n m0 (l.take (j+1))).2=(Cp n m0 (l.take j)).2++(doT n (Cp n m0 (l.take j)).1 x).2:=by rw[hs]
   clear h
   refine S ?_
   refine⟨E,by omega,hj0,?_⟩
   rw[e1]
   refine T ?_
   refine X (Af [] E F58 q5 E W E V) ?_
   refine X (Ac Γ.toTy 34 E E E E E (.row E) .sl qz qn qn) ?_
   refine An [(1000,34)] hlt ⟨⟨E,E,E,E,E,E,E,E,Y⟩,?_,E,E⟩
   dsimp only
   rw[g1,g2]
   exact Uo
  ·have hjj:j=l.length:=qB h
   subst hjj
   rw[List.take_length]
   refine T ?_
   refine Ao 1000 E ?_
   exact D
end Go.Sy.YteinjapglfkamaaGreat
namespace Go.Sy.YteinjapglfkamaaGreat
open Go.Proofs
theorem Aqr {n:Net} (hb:Ae n=true) {i:Nat} (hi:i<n.ports.length):n.ports[i].link=-1∨0≤n.ports[i].link:=by
 have:=Akp hb hi
 simp only[D9,Ai,Bool.and_eq_true,Bool.or_eq_true,beq_iff_eq,decide_eq_true_eq]at this
 have h2:=this.2
 omega
theorem Aqz {n:Net} {of:List Int} (ho:Du n of=true) (hb:Ae n=true) (x:StepM) :
  injB of x=(decide (x.kind=1) && (Ai x.port n.ports.length && decide ((nth n.ports x.port).link=-1))):=by
 have ha:=Wf ho
 unfold injB
 rw[ha.1]
 cases hp:Ai x.port n.ports.length
 ·simp
 ·have hw:=ha.2.2 x.port (by rw[ha.1];exact hp)
  have hpi:=Ba hp
  have hk:x.port.toNat<n.ports.length:=by omega
  have hl:=Aqr hb hk
  rw[Ak hk]at hw ⊢
  rw[Bool.true_and,Bool.true_and]
  congr 1
  rcases hl with hl | hl
  ·rw[if_pos qn]at hw
   rw[decide_eq_true hl,decide_eq_true hw.1]
  ·rw[if_neg qn]at hw
   rw[decide_eq_false qn,decide_eq_false qn]
attribute [local irreducible] Go.Sy.G Go.Sy.DR
set_option maxRecDepth 100000
set_option maxHeartbeats 8000000
theorem Agb (n:Net) (hn:n.Fin) (hm1:n.Num) (of:List Int) (tabs:List (List EntryM)) (ht:TabsOK tabs) (l:List StepM) (hl:ScriptOK l) :
  Sy.Spec Tryz.prog 70 [Aj n,.sl 1 Aa of,.sl 1 D4 tabs,.sl 6 Bo l] [] (.tup [Aa (crossesT n of tabs l).1,Aa (crossesT n of tabs l).2.1,Ab (crossesT n of tabs l).2.2]) []:=cT F70 Tryz.ntmps70 fun F hF=>by
 have hres:=crossesT.eq_1 n of tabs l
 generalize crossesT n of tabs l=res at *
 have q1:=W4 n hn of
 have hrs:=fun ho=>Afx (n:=n) (of:=of) ho tabs l
 have hpa:=@portsL_at of l
 have hpl:=M2 of l
 have hfw:=Kq hn l (Dz n tabs)
 have hlf:=hl.few
 have q2:=Aln n hn hm1 tabs ht l hl
 have r2:=runTabsT.eq_1 n tabs l
 conv=>whnf
 refine A3 4 8 (Aj n) E E E ?_
 refine C q1 F67 ?_
 cases ho:Du n of
 ·rw[if_neg (by rw[ho];simp)]at hres
  subst hres
  refine T ?_
  exact D
 have hrs:=hrs ho
 refine T ?_
 cases hok:okB n (Km n)
 ·rw[if_neg (by rw[hok];simp)]at hres r2
  subst hres
  rw[r2]at q2
  refine C q2 F69 ?_
  exact D
 have hb:=(ok_iff.1 hok).2.1
 rw[if_pos ⟨ho,hok⟩]at hres
 rw[if_pos hok]at r2
 rw[r2]at q2
 subst hres
 clear r2
 generalize (Cp n (Dz n tabs) l).2=sn at *
 refine C q2 F69 ?_
 clear q2 q1
 refine Bm 13 1000 1 Aa E E ?_
 refine At l.length (fun j=>[(1,.sl 1 Aa of),(3,.sl 6 Bo l),(4,.ref 8 (Aj n) 0),(11,.sl 3 Bk sn),(13,.osl 1000),(14,Aa j)]) (fun j=>[(1000,.row 1 Aa (H6 of (l.take j)))]) [] U ?_
 intro j hj
 refine T ?_
 refine⟨fun h=>?_,fun h=>?_⟩
 ·have hlt:j<l.length:=qA h
  have hj0:((j:Nat):Int).toNat<l.length:=by simpa using hlt
  obtain ⟨x,hoo⟩:∃ x,l[j]=x:=⟨_,rfl⟩
  have e1:l[((j:Nat):Int).toNat]'hj0=x:=hoo
  have hs:=W9 of l j hlt
  have hplj:=M2 of (l.take j)
  rw[List.length_take]at hplj
  rw[hoo]at hs
  have hv:=portX.eq_1 of x
  have hbx:=Aqz ho hb x
  have qp:=A8 x.port n.ports.length
  generalize injB of x=b at *
  generalize portX of x=v at *
  clear h
  refine S ?_
  refine⟨E,by omega,hj0,?_⟩
  rw[e1]
  by_cases hk:x.kind=1
  rotate_left
  ·rw[decide_eq_false hk,Bool.false_and]at hbx
   rw[hbx,if_neg qz]at hv
   rw[hv,List.append_nil]at hs
   refine T ?_
   refine An [] hlt ⟨⟨E,E,E,E,E,E,E,E,E,E,E,E,Y⟩,⟨.inl (congrArg (Ob.row 1 Aa) hs),E,Y⟩,E,E⟩
  rw[decide_eq_true hk,Bool.true_and]at hbx
  refine T ?_
  refine C qp F46 ?_
  cases hp:Ai x.port n.ports.length
  ·rw[hp,Bool.false_and]at hbx
   rw[hbx,if_neg qz]at hv
   rw[hv,List.append_nil]at hs
   refine T ?_
   refine An [] hlt ⟨⟨E,E,E,E,E,E,E,E,E,E,E,E,Y⟩,⟨.inl (congrArg (Ob.row 1 Aa) hs),E,Y⟩,E,E⟩
  have hpi:=Ba hp
  have hkk:x.port.toNat<n.ports.length:=by omega
  rw[hp,Bool.true_and,Ak hkk]at hbx
  refine T ?_
  refine⟨fun h=>?_,fun h=>?_⟩
  ·rw[decide_eq_true (by simpa using h)]at hbx
   rw[hbx,if_pos rfl]at hv
   rw[hv]at hs
   refine T ?_
   refine X (Ac Γ.toTy 66 rfl rfl rfl rfl rfl (.row rfl) (.lit (e:=Aa) (l:=[x.port]) rfl rfl) (fun j hj=>by cases hj;decide) (by simp;omega) (by simp;omega)) ?_
   refine An [(1000,66)] hlt ⟨⟨E,E,E,E,E,E,E,E,E,E,E,E,Y⟩,⟨.inl (congrArg (Ob.row 1 Aa) hs),E,Y⟩,E,E⟩
  ·rw[decide_eq_false (by simpa using h)]at hbx
   rw[hbx,if_neg qz]at hv
   rw[hv,List.append_nil]at hs
   refine T ?_
   refine An [] hlt ⟨⟨E,E,E,E,E,E,E,E,E,E,E,E,Y⟩,⟨.inl (congrArg (Ob.row 1 Aa) hs),E,Y⟩,E,E⟩
 ·have hjj:j=l.length:=qB h
  subst hjj
  rw[List.take_length]
  clear h hj
  generalize H6 of l=bl at *
  refine T ?_
  refine Ao 1000 E ?_
  refine Ay sn.length (fun j=>Dd (fun _ s=>Sv of bl s) sn j) (fun j=>[(1,.sl 1 Aa of),(11,.sl 3 Bk sn),(13,.sl 1 Aa bl),(16,Aa j)]) (fun _=>[]) [] (A2 _ _) U ?_
  intro j hj hI
  refine T ?_
  refine⟨fun h=>?_,fun h=>?_⟩
  ·have hlt:j<sn.length:=qA h
   have hj0:((j:Nat):Int).toNat<sn.length:=by simpa using hlt
   have hh:nth of (nth bl ((sn[((j:Nat):Int).toNat]'hj0).origin-1))≠nth of (sn[((j:Nat):Int).toNat]'hj0).port→L2 of bl sn=(nth bl ((sn[((j:Nat):Int).toNat]'hj0).origin-1),(sn[((j:Nat):Int).toNat]'hj0).port,true):=fun h=>Xs hI hlt h
   have hnx:Sv of bl (sn[((j:Nat):Int).toNat]'hj0)=true→Dd (fun _ s=>Sv of bl s) sn (j+1):=fun h=>A1 (p:=fun _ s=>Sv of bl s) hI hlt h
   have hsn:=hrs _ (List.getElem_mem hj0)
   unfold Sv at hnx
   obtain ⟨hx1,hx2,hx3⟩:=hsn
   have hx1:=Ba hx1
   have hk0:((sn[((j:Nat):Int).toNat]'hj0).origin-1).toNat<bl.length:=by omega
   have hw1:=(hpa _ (List.getElem_mem hk0)).1
   have hw1:=Ba hw1
   have hk1:(bl[((sn[((j:Nat):Int).toNat]'hj0).origin-1).toNat]'hk0).toNat<of.length:=by omega
   have hk2:(sn[((j:Nat):Int).toNat]'hj0).port.toNat<of.length:=by omega
   rw[Ak hk0,Ak hk1,Ak hk2]at hh hnx
   clear h hrs hpa
   refine T ?_
   refine⟨fun h1=>?_,fun h1=>?_⟩
   ·rw[hh (by simpa using h1)]
    refine T ?_
    exact D
   ·have hI2:=hnx (decide_eq_true (by simpa using h1))
    refine T ?_
    refine Av [] hI hlt hI2 ?_
    exact U
  ·rw[Xr hI (qB h)]
   refine T ?_
   exact D
end Go.Sy.YteinjapglfkamaaGreat
namespace Go.Sy.YteinjapglfkamaaGreat
open Go.Proofs
attribute [local irreducible] Go.Sy.G Go.Sy.DR
set_option maxRecDepth 100000
set_option maxHeartbeats 4000000
theorem T4 (s:Int):Sy.Spec Tryz.prog 61 [As s] [] (As (Ah s)) []:=cT F61 Tryz.ntmps61 fun F hF=>by
 conv=>whnf
 exact dN
theorem Ap0 (s:Int):Sy.Spec Tryz.prog 266 [As s] [] (As (Ah s)) []:=cT F266 Tryz.ntmps266 fun F hF=>by
 conv=>whnf
 exact dN
theorem Akt (s b:Int) (h0:0≤s) (h1:s<18446744073709551616) (_hb:0<b):(IntKind.i64.wrap (s.fdiv (2 ^ (min (Int.toNat 33) IntKind.u64.bits)))).tmod b=(s / 8589934592) % b:=by
 have e:s.fdiv (2 ^ (min (Int.toNat 33) IntKind.u64.bits))=s / 8589934592:=by
  show s.fdiv 8589934592=_
  rw[Int.fdiv_eq_ediv_of_nonneg _ qy]
 have h2:0≤s / 8589934592∧s / 8589934592<9223372036854775808:=by omega
 rw[e,IntKind.wrap_i64,Int.tmod_eq_emod_of_nonneg qn]
 congr 1
 omega
theorem Arl (s b:Int) (h0:0≤s) (h1:s<18446744073709551616) (_hb:0<b):(IntKind.i64.wrap (IntKind.u64.wrap (s.tdiv 8589934592))).tmod b=(s / 8589934592) % b:=by
 have h2:0≤s / 8589934592∧s / 8589934592<9223372036854775808:=by omega
 rw[Int.tdiv_eq_ediv_of_nonneg h0,IntKind.wrap_i64,IntKind.wrap_u64,Int.tmod_eq_emod_of_nonneg qn]
 congr 1
 omega
theorem Or (s b:Int):Sy.Spec Tryz.prog 131 [Aa b,.ptr 0 0] [(0,.box [As s])] (Aa (Bt (Ah s) b)) [(0,.box [As (Ah s)])]:=cT F131 Tryz.ntmps131 fun F hF=>by
 have hn:=T4 s
 have hr:=Xe s
 have hd:Bt (Ah s) b=if b<1 then 0 else (Ah s / 8589934592) % b:=rfl
 generalize Ah s=x at *
 conv=>whnf
 refine c0 hn F61 ?_
 refine oO ?_
 refine⟨fun h=>?_,fun h=>?_⟩
 ·have hb:b<1:=of_decide_eq_true h
  rw[hd,if_pos hb]
  refine oO ?_
  exact done E (.cons .tmp .nil) [] [(0,.box [As x])] (fun _ h=>h) E E ⟨Y,⟨.inl E,E,Y⟩,E,E⟩
 ·have hb:¬ b<1:=of_decide_eq_false h
  rw[hd,if_neg hb,← Akt x b hr.1 hr.2 qn]
  refine oO ?_
  first | (refine⟨by omega,?_⟩;(conv=>whnf)) | skip
  first | (refine⟨by omega,?_⟩;(conv=>whnf)) | skip
  exact done E (.cons .tmp .nil) [] [(0,.box [As x])] (fun _ h=>h) E E ⟨Y,⟨.inl E,E,Y⟩,E,E⟩
theorem lastS (s:Int):Sy.Spec Tryz.prog 132 [.ptr 0 0] [(0,.box [As s])] (As s) [(0,.box [As s])]:=cT F132 Tryz.ntmps132 fun F hF=>by
 conv=>whnf
 exact done E (.cons .tmp .nil) [] [(0,.box [As s])] (fun _ h=>h) E E ⟨Y,⟨.inl E,E,Y⟩,E,E⟩
theorem Ey (s b:Int):Sy.Spec Tryz.prog 198 [.ptr 0 0,Aa b] [(0,.box [As s])] (Aa (Bt (Ah s) b)) [(0,.box [As (Ah s)])]:=cT F198 Tryz.ntmps198 fun F hF=>by
 have hn:=Ap0 s
 have hr:=Xe s
 have hd:Bt (Ah s) b=if b<1 then 0 else (Ah s / 8589934592) % b:=rfl
 generalize Ah s=x at *
 conv=>whnf
 refine c0 hn F266 ?_
 refine oO ?_
 refine⟨fun h=>?_,fun h=>?_⟩
 ·have hb:b<1:=of_decide_eq_true h
  rw[hd,if_pos hb]
  refine oO ?_
  exact done E (.cons .tmp .nil) [] [(0,.box [As x])] (fun _ h=>h) E E ⟨Y,⟨.inl E,E,Y⟩,E,E⟩
 ·have hb:¬ b<1:=of_decide_eq_false h
  rw[hd,if_neg hb,← Arl x b hr.1 hr.2 qn]
  refine oO ?_
  first | (refine⟨by omega,?_⟩;(conv=>whnf)) | skip
  first | (refine⟨by omega,?_⟩;(conv=>whnf)) | skip
  exact done E (.cons .tmp .nil) [] [(0,.box [As x])] (fun _ h=>h) E E ⟨Y,⟨.inl E,E,Y⟩,E,E⟩
theorem Xk (n:Net) (j:Nat):Cc n (j+1)=if (n.ports.getD j default).link<0 then Cc n j++[(j:Int)] else Cc n j:=by
 rw[Cc,List.range_succ,List.filter_append,List.map_append]
 split
 ·rename_i h
  rw[List.filter_cons_of_pos (p:=fun i=>decide ((n.ports.getD i default).link<0)) (a:=j) (by simpa using h),List.filter_nil]
  rfl
 ·rename_i h
  rw[List.filter_cons_of_neg (p:=fun i=>decide ((n.ports.getD i default).link<0)) (a:=j) (by simpa using h),List.filter_nil,List.map_nil,List.append_nil]
  rfl
theorem Jj (n:Net) (j:Nat):(Cc n j).length≤j:=by
 have:=List.length_filter_le (fun i=>decide ((n.ports.getD i default).link<0)) (List.range j)
 simpa [Cc] using this
theorem Aag {n:Net} {j:Nat} {x:Int} (h:x∈Cc n j):0≤x∧x<j:=by
 simp only[Cc,List.mem_map,List.mem_filter,List.mem_range]at h
 obtain ⟨i,h1,rfl⟩:=h
 omega
def Z0 (n:Net) (x:SV) (k:Nat):List SV:=[.sl 5 Bs n.devices,.sl 7 Bh n.ports,.sl 3 Cs n.links,.sl 6 Aw n.domains,.sl 4 Bp n.statics,.sl 4 B7 n.floods,.sl 5 C4 n.vrfs,.sl 5 Dp n.irbs,x,.clo (.func 131) [] [.ptr k 0]]
def Cy (n:Net) (s:Int):Obs:=[(0,.box (Z0 n (.sl 1 Aa (Cc n n.ports.length)) 1)),(1,.box [As s])]
theorem At9 (n:Net) (s:Int) (hn:n.ports.length<1000000):Sy.Spec Tryz.prog 63 [Aj n,As s] [] (.tup [.ptr 0 0,.clo (.func 132) [] [.ptr 1 0]]) (Cy n s):=cT F63 Tryz.ntmps63 fun F hF=>by
 conv=>whnf
 refine A3 2 8 (Aj n) E E E ?_
 refine K9 11 8 1000 1 Aa E E E E ?_
 refine At n.ports.length (fun j=>[(3,.ptr 3 0),(6,.ptr 11 0),(17,.sl 7 Bh n.ports),(18,Aa n.ports.length),(19,Aa j)]) (fun j=>[(3,.box [As s]),(11,.box (Z0 n (.osl 1000) 3)),(1000,.row 1 Aa (Cc n j))]) []
  ⟨⟨rfl,rfl,rfl,rfl,rfl,rfl,rfl,rfl,rfl,rfl,trivial⟩,⟨.inl rfl,rfl,.inl rfl,rfl,.inl rfl,rfl,trivial⟩,rfl,rfl⟩ ?_
 intro j hj
 refine oO ?_
 refine⟨fun h=>?_,fun h=>?_⟩
 ·have hlt:j<n.ports.length:=by simpa using h
  have hsucc:=Xk n j
  have hhl:=Jj n j
  rw[Tv hlt]at hsucc
  have e1:n.ports[(j:Int).toNat]'qn=n.ports[j]:=rfl
  obtain ⟨p,hp⟩:∃ p,n.ports[j]=p:=⟨_,rfl⟩
  rw[hp]at e1 hsucc
  obtain ⟨u,hu⟩:∃ u,Cc n j=u:=⟨_,rfl⟩
  rw[hu]at hsucc hhl ⊢
  refine oO ?_
  refine⟨E,by omega,by omega,?_⟩
  rw[e1]
  conv=>whnf
  refine⟨fun h2=>?_,fun h2=>?_⟩
  ·rw[if_pos (of_decide_eq_true h2)]at hsucc
   refine oO ?_
   refine Ad (Ac Γ.toTy 34 E E E E E (.row E) (.lit (e:=Aa) (l:=[(j:Int)]) E E) qz (by simp;omega) (by simp;omega)) E E ?_
   refine oO ?_
   refine iW ?_
   exact An [(1000,34)] hlt ⟨⟨E,E,E,E,E,E,E,E,E,E,Y⟩,⟨.inl E,E,.inl E,E,.inl (congrArg (Ob.row 1 Aa) hsucc),E,Y⟩,E,E⟩
  ·rw[if_neg (of_decide_eq_false h2)]at hsucc
   refine oO ?_
   refine iW ?_
   exact An [] hlt ⟨⟨E,E,E,E,E,E,E,E,E,E,Y⟩,⟨.inl E,E,.inl E,E,.inl (congrArg (Ob.row 1 Aa) hsucc),E,Y⟩,E,E⟩
 have hjl:j=n.ports.length:=by
  have:¬ j<n.ports.length:=by simpa using h
  omega
 subst hjl
 refine oO ?_
 refine Ao 1000 E ?_
 exact done E (.cons .tmp (.cons .tmp .nil)) [(0,11),(1,3)] (Cy n s) (fun _ h=>h) E E ⟨Y,⟨.inl E,E,.inl E,E,Y⟩,E,E⟩
theorem vlanS (n:Net) (p:Port) (s:Int) (hp:p.tagged.length<100000) (hne:Jz p≠[]) :
  Sy.Spec Tryz.prog 263 [.ptr 0 0,Bh p] (Cy n s) (Aa (Sq p s).1) (Cy n (Sq p s).2):=cT F263 Tryz.ntmps263 fun F hF=>by
 obtain ⟨l,hl'⟩:∃ l,Jz p=l:=⟨_,rfl⟩
 have hv:Sq p s=(nth l (Bt (Ah s) l.length),Ah s):=by rw[← hl'];rfl
 have hl:l=if p.native≠0 then p.native::p.tagged else p.tagged:=by rw[← hl'];rfl
 rw[hl']at hne
 have h0:0<l.length:=List.length_pos_iff.2 hne
 have hd:=Bu (s:=Ah s) (b:=l.length) qn
 rw[Ak qn]at hv
 rw[hv]
 have hds:=Or s l.length
 conv=>whnf
 refine⟨fun h=>?_,fun h=>?_⟩
 ·have hnz:p.native≠0:=by simpa using h
  rw[if_pos hnz]at hl
  subst hl
  refine oO ?_
  refine Ad (Ac Γ.toTy 16 E E E E E (.lit (e:=Aa) (l:=[p.native]) E E) .sl qz (by simp;omega) (by simp;omega)) E E ?_
  refine Ao 16 E ?_
  refine oO ?_
  refine Ad (A5 [(0,1)] (Bi E E F131) hds E ⟨E,Y⟩ E ⟨.inl E,Y⟩) E E ?_
  refine oO ?_
  refine⟨E,hd.1,(by have:=hd.1;have:=hd.2;show _<(p.native::p.tagged).length;omega),?_⟩
  conv=>whnf
  exact done E (.cons .tmp .nil) [] (Cy n (Ah s)) (fun _ h=>h) E E ⟨Y,⟨.inl E,E,.inl E,E,Y⟩,E,E⟩
 ·have hnz:¬ p.native≠0:=by simpa using h
  rw[if_neg hnz]at hl
  subst hl
  refine oO ?_
  refine Ad (A5 [(0,1)] (Bi E E F131) hds E ⟨E,Y⟩ E ⟨.inl E,Y⟩) E E ?_
  refine oO ?_
  refine⟨E,hd.1,qn,?_⟩
  conv=>whnf
  exact done E (.cons .tmp .nil) [] (Cy n (Ah s)) (fun _ h=>h) E E ⟨Y,⟨.inl E,E,.inl E,E,Y⟩,E,E⟩
theorem Jh:∀ (j:Nat) (s:Int),(C6 j s).1.length=j
 | 0,_=>rfl
 | j+1,s=>by simp[C6,Jh j s]
def L6 (k p d a b u:SV):SV:=.agg [k,p,d,a,b,u]
theorem D0 {κ:Ka} {w:World} {k p d a b u b' u':SV} (hb:∀ v,Rd κ w b v→Rd κ w b' v) (hu:∀ v,Rd κ w u v→Rd κ w u' v) {v:Value} (h:Rd κ w (L6 k p d a b u) v):Rd κ w (L6 k p d a b' u') v:=by
 simp only[L6,Rd,RdL]at h ⊢
 obtain ⟨cs,h1,h2,v0,r0,h3,h4,v1,r1,h5,h6,v2,r2,h7,h8,v3,r3,h9,h10,v4,r4,h11,h12,v5,r5,h13,h14,h15⟩:=h
 exact⟨cs,h1,h2,v0,r0,h3,h4,v1,r1,h5,h6,v2,r2,h7,h8,v3,r3,h9,h10,v4,r4,h11,hb _ h12,v5,r5,h13,hu _ h14,h15⟩
theorem As7 (n:Net) (s:Int) (hn:n.links.length<100000):Sy.Spec Tryz.prog 195 [.ptr 0 0] (Cy n s) (L6 (Aa 5) (Aa 0) (Aa 0) (Aa 0) (.val (.slice none 0 0)) (.sl 1 Ab (C6 n.links.length s).1)) (Cy n (C6 n.links.length s).2):=cT F195 Tryz.ntmps195 fun F hF=>by
 conv=>whnf
 refine K9 3 5 1000 1 Ab E E E E ?_
 refine At n.links.length (fun j=>[(0,.ptr 0 0),(2,.ptr 2 0),(3,.ptr 3 0),(10,Aa n.links.length),(11,Aa j)]) (fun j=>[(0,.box (Z0 n (.sl 1 Aa (Cc n n.ports.length)) 1)),(1,.box [As (C6 j s).2]),(2,.box [Aa 0,Aa 0,Aa 0,Aa 0,.val (.slice none 0 0),.val (.slice none 0 0)]),(3,.box [Aa 5,Aa 0,Aa 0,Aa 0,.val (.slice none 0 0),.osl 1000]),(1000,.row 1 Ab (C6 j s).1)]) []
  ⟨⟨rfl,rfl,rfl,rfl,rfl,rfl,rfl,rfl,rfl,rfl,trivial⟩,⟨.inl rfl,rfl,.inl rfl,rfl,.inl rfl,rfl,.inl rfl,rfl,.inl rfl,rfl,trivial⟩,rfl,rfl⟩ ?_
 intro j hj
 have hlen:=Jh j s
 have hsucc:C6 (j+1) s=((C6 j s).1++[Bt (Ah (C6 j s).2) 2 == 1],Ah (C6 j s).2):=rfl
 obtain ⟨r,hr⟩:∃ r,C6 j s=r:=⟨_,rfl⟩
 rw[hr]at hlen hsucc ⊢
 obtain ⟨u,t⟩:=r
 have hds:=Or t 2
 dsimp only at hlen hsucc ⊢
 refine oO ?_
 refine⟨fun h=>?_,fun h=>?_⟩
 ·have hlt:j<n.links.length:=by simpa using h
  refine oO ?_
  refine Bd (A5 [(0,1)] (Bi E E F131) hds E ⟨E,Y⟩ E ⟨.inl E,Y⟩) qq E ?_
  refine oD ?_
  refine Bd (Ac Γ.toTy 22 E E E E E (.row E) (.lit (e:=Ab) (l:=[Bt (Ah t) 2 == 1]) E E) qz (by simp;omega) (by simp;omega)) qq E ?_
  refine oD ?_
  refine kW ?_
  refine iW ?_
  refine An [(1000,22)] hlt ⟨⟨E,E,E,E,E,E,E,E,E,E,Y⟩,⟨.inl E,E,.inl ?_,E,.inl E,E,.inl E,E,.inl ?_,E,Y⟩,E,E⟩
  ·rw[hsucc];rfl
  ·rw[hsucc];rfl
 ·have hjl:j=n.links.length:=by
   have:¬ j<n.links.length:=by simpa using h
   omega
  subst hjl
  rw[hr]
  refine oO ?_
  refine Ao 1000 E ?_
  exact done E (.cons (.cell E E E E) .nil) [] (Cy n t) (fun _ h=>h) E E ⟨Y,⟨.inl E,E,.inl E,E,Y⟩,E,E⟩
theorem linksS (n:Net) (s:Int) (hn:n.links.length<100000):Sy.Spec Tryz.prog 195 [.ptr 0 0] (Cy n s) (Bo ⟨5,0,0,0,[],(C6 n.links.length s).1⟩) (Cy n (C6 n.links.length s).2) :=
 (As7 n s hn).viewR fun _ _ _ h=>D0 (fun _=>Co) (fun _ h=>h) h
def Da (n:Net):Prop:=∀ x∈n.irbs,0≤x.addr∧x.addr<4294967296
theorem Mt {d:Int} (h0:0≤d) (h1:d<8):IntKind.u64.wrap (10995116277760+IntKind.u64.wrap d)=((10995116277760+d.toNat:Nat):Int):=by
 rw[IntKind.wrap_u64,IntKind.wrap_u64]
 omega
def Tw (d s t b:SV):SV:=.agg [d,s,t,b]
theorem Lo {κ:Ka} {w:World} {d s t b b':SV} (hb:∀ v,Rd κ w b v→Rd κ w b' v) {v:Value} (h:Rd κ w (Tw d s t b) v):Rd κ w (Tw d s t b') v:=by
 simp only[Tw,Rd,RdL]at h ⊢
 obtain ⟨cs,h1,h2,v0,r0,h3,h4,v1,r1,h5,h6,v2,r2,h7,h8,v3,r3,h9,h10,h11⟩:=h
 exact⟨cs,h1,h2,v0,r0,h3,h4,v1,r1,h5,h6,v2,r2,h7,h8,v3,r3,h9,hb _ h10,h11⟩
theorem Aao (n:Net) (s:Int):Eu n s =
  if Bt (Ah (Ah s)) 4=0∨(Bt (Ah (Ah s)) 4=1∧n.irbs.length=0) then (⟨281474976710655,10995116277760+(Bt (Ah s) 8).toNat,34997,[]⟩,Ah (Ah s))
  else if Bt (Ah (Ah s)) 4=1 then
   (⟨Ec (nth n.irbs (Bt (Ah (Ah (Ah s))) n.irbs.length)).addr,10995116277760+(Bt (Ah s) 8).toNat,2048,ipL (IntKind.u32.wrap (Dr (nth n.irbs (Bt (Ah (Ah (Ah (Ah s)))) n.irbs.length)).addr (nth n.irbs (Bt (Ah (Ah (Ah (Ah s)))) n.irbs.length)).bits+Bt (Ah (Ah (Ah (Ah (Ah s))))) 4)).toNat⟩,Ah (Ah (Ah (Ah (Ah s)))))
  else (⟨10995116277760+(Bt (Ah (Ah (Ah s))) 8).toNat,10995116277760+(Bt (Ah s) 8).toNat,34997,[]⟩,Ah (Ah (Ah s))):=rfl
theorem Ahv (n:Net) (s:Int) (hn:Da n) (hil:n.irbs.length<100000):Sy.Spec Tryz.prog 264 [.ptr 0 0] (Cy n s) (Bc (Eu n s).1) (Cy n (Eu n s).2):=by
 have hd1:=Bu (s:=Ah s) (b:=8) qy
 have hd2:=Bu (s:=Ah (Ah s)) (b:=4) qy
 have hst:=Mt hd1.1 hd1.2
 rw[Aao]
 have q1:=Or s 8
 have q2:=Or (Ah s) 4
 generalize Bt (Ah s) 8=d1 at *
 generalize Bt (Ah (Ah s)) 4=d2 at *
 split
 ·rename_i hc
  refine Spec.viewR (R:=Tw (As (281474976710655:Nat)) (As (10995116277760+d1.toNat:Nat)) (Aa (34997:Nat)) (.val (.slice none 0 0))) ?_ fun _ _ _ h=>Lo (fun _=>Co) h
  refine B9 Γ hm 100 F264 Tryz.ntmps264 E fun F hF=>by
   conv=>whnf
   refine Ad (A5 [(0,1)] (Bi E E F131) q1 E ⟨E,Y⟩ E ⟨.inl E,Y⟩) E E ?_
   refine oO ?_
   rw[hst]
   refine Ad (A5 [(0,1)] (Bi E E F131) q2 E ⟨E,Y⟩ E ⟨.inl E,Y⟩) E E ?_
   refine oO ?_
   (repeat' (first | (refine⟨fun h=>?_,fun h=>?_⟩<;>(repeat (first | simp only[beq_iff_eq]at h | simp only[beq_eq_false_iff_ne]at h))<;>((refine oO ?_);repeat((first|refine aF ?_|refine aT ?_);(refine oO ?_)))) | refine done rfl (.cons (.cell rfl rfl rfl rfl) .nil) [] (Cy n (Ah (Ah s))) (fun _ h=>h) rfl rfl ⟨trivial,⟨.inl rfl,rfl,.inl rfl,rfl,trivial⟩,rfl,rfl⟩))
   all_goals (exfalso;clear hF q1 q2 hst;omega)
 ·rename_i hc
  split
  ·rename_i hk
   subst hk
   have hpos:0<n.irbs.length:=by omega
   have hd3:=Bu (s:=Ah (Ah (Ah s))) (b:=n.irbs.length) qn
   have hd4:=Bu (s:=Ah (Ah (Ah (Ah s)))) (b:=n.irbs.length) qn
   have hd5:=Bu (s:=Ah (Ah (Ah (Ah (Ah s))))) (b:=4) qy
   have q3:=Or (Ah (Ah s)) n.irbs.length
   have q4:=Or (Ah (Ah (Ah s))) n.irbs.length
   have q5:=Or (Ah (Ah (Ah (Ah s)))) 4
   generalize Bt (Ah (Ah (Ah s))) n.irbs.length=d3 at *
   generalize Bt (Ah (Ah (Ah (Ah s)))) n.irbs.length=d4 at *
   generalize Bt (Ah (Ah (Ah (Ah (Ah s))))) 4=d5 at *
   rw[Ak (l:=n.irbs) (i:=d3) qn,Ak (l:=n.irbs) (i:=d4) qn]
   have hx:=hn _ (List.getElem_mem (show d3.toNat<n.irbs.length by omega))
   have hy:=hn _ (List.getElem_mem (show d4.toNat<n.irbs.length by omega))
   obtain ⟨x,hx'⟩:∃ x,n.irbs[d3.toNat]'qn=x:=⟨_,rfl⟩
   obtain ⟨y,hy'⟩:∃ y,n.irbs[d4.toNat]'qn=y:=⟨_,rfl⟩
   rw[hx']at hx ⊢
   rw[hy']at hy ⊢
   obtain ⟨ax,hax⟩:∃ a:Nat,x.addr=a:=⟨x.addr.toNat,by omega⟩
   obtain ⟨ay,hay⟩:∃ a:Nat,y.addr=a:=⟨y.addr.toNat,by omega⟩
   have hto:∃ to:Nat,IntKind.u32.wrap (Dr y.addr y.bits+d5)=to∧to<4294967296:=⟨(IntKind.u32.wrap (Dr y.addr y.bits+d5)).toNat,by rw[IntKind.wrap_u32];omega,by rw[IntKind.wrap_u32];omega⟩
   obtain ⟨to,hto1,hto2⟩:=hto
   have hto3:IntKind.u32.wrap (Dr y.addr y.bits+IntKind.u32.wrap d5)=to:=by
    rw[← hto1,IntKind.wrap_u32,IntKind.wrap_u32,IntKind.wrap_u32]
    omega
   rw[hto1,Int.toNat_natCast]
   have c1:=Ac6 ax qn
   have c2:=Ala ay y.bits qn
   rw[← hax]at c1
   rw[← hay]at c2
   have c3:=ipPutS to hto2
   refine B9 Γ hm 100 F264 Tryz.ntmps264 E fun F hF=>by
    conv=>whnf
    refine Ad (A5 [(0,1)] (Bi E E F131) q1 E ⟨E,Y⟩ E ⟨.inl E,Y⟩) E E ?_
    refine oO ?_
    rw[hst]
    refine Ad (A5 [(0,1)] (Bi E E F131) q2 E ⟨E,Y⟩ E ⟨.inl E,Y⟩) E E ?_
    (refine oF ?_;refine bT ?_)
    refine⟨fun h=>absurd (show (n.irbs.length:Int)=0 by simpa using h) qn,fun _=>?_⟩
    refine oT ?_
    refine Ad (A5 [(0,1)] (Bi E E F131) q3 E ⟨E,Y⟩ E ⟨.inl E,Y⟩) E E ?_
    refine oO ?_
    refine⟨E,by omega,by omega,?_⟩
    rw[hx']
    conv=>whnf
    refine c0 c1 F44 ?_
    refine oO ?_
    refine Ad (A5 [(0,1)] (Bi E E F131) q4 E ⟨E,Y⟩ E ⟨.inl E,Y⟩) E E ?_
    refine oO ?_
    refine⟨E,by omega,by omega,?_⟩
    rw[hy']
    conv=>whnf
    refine c0 c2 F205 ?_
    refine oO ?_
    refine Ad (A5 [(0,1)] (Bi E E F131) q5 E ⟨E,Y⟩ E ⟨.inl E,Y⟩) E E ?_
    refine oO ?_
    rw[hto3]
    refine Ad (Af [(0,87)] E F43 c3 E Y E ⟨.inr E,Y⟩) E E ?_
    refine oO ?_
    refine Ao 87 E ?_
    exact done E (.cons (.cell E E E E) .nil) [] (Cy n (Ah (Ah (Ah (Ah (Ah s)))))) (fun _ h=>h) E E ⟨Y,⟨.inl E,E,.inl E,E,Y⟩,E,E⟩
  ·rename_i hk
   have hd3:=Bu (s:=Ah (Ah (Ah s))) (b:=8) qy
   have q3:=Or (Ah (Ah s)) 8
   generalize Bt (Ah (Ah (Ah s))) 8=d3 at *
   have hst3:=Mt hd3.1 hd3.2
   refine Spec.viewR (R:=Tw (As (10995116277760+d3.toNat:Nat)) (As (10995116277760+d1.toNat:Nat)) (Aa (34997:Nat)) (.val (.slice none 0 0))) ?_ fun _ _ _ h=>Lo (fun _=>Co) h
   refine B9 Γ hm 100 F264 Tryz.ntmps264 E fun F hF=>by
    conv=>whnf
    refine Ad (A5 [(0,1)] (Bi E E F131) q1 E ⟨E,Y⟩ E ⟨.inl E,Y⟩) E E ?_
    refine oO ?_
    rw[hst]
    refine Ad (A5 [(0,1)] (Bi E E F131) q2 E ⟨E,Y⟩ E ⟨.inl E,Y⟩) E E ?_
    refine oO ?_
    refine⟨fun h=>absurd (show d2=0 by simpa using h) (fun e=>hc (.inl e)),fun _=>?_⟩
    refine oO ?_
    refine⟨fun h=>absurd (show d2=1 by simpa using h) hk,fun _=>?_⟩
    refine oF ?_
    refine⟨fun h=>absurd (show d2=1 by simpa using h) hk,fun _=>?_⟩
    refine oO ?_
    refine Ad (A5 [(0,1)] (Bi E E F131) q3 E ⟨E,Y⟩ E ⟨.inl E,Y⟩) E E ?_
    refine oO ?_
    rw[hst3]
    exact done E (.cons (.cell E E E E) .nil) [] (Cy n (Ah (Ah (Ah s)))) (fun _ h=>h) E E ⟨Y,⟨.inl E,E,.inl E,E,Y⟩,E,E⟩
theorem Ap5 {n:Net} (h:Ae n=true) {i:Nat} (hi:i<n.ports.length):D9 n i n.ports[i]=true:=by
 simp only[Ae,Bool.and_eq_true]at h
 exact allB_iff.1 h.1.1.1.1.1.2 i hi
theorem Uw {n:Net} (h:Ae n=true):n.devices.length≤8∧n.ports.length≤40∧n.links.length≤20∧n.domains.length≤48∧n.irbs.length≤48:=by
 simp only[Ae,Akm,Bool.and_eq_true,decide_eq_true_eq]at h
 omega
theorem Am5 {l:List Int} {a b:Int} (h:C8 l a b=true) {x:Int} (hx:x∈l):a≤x∧x≤b:=by
 simp only[C8,Bool.and_eq_true,decide_eq_true_eq]at h
 obtain ⟨i,hi,rfl⟩:=List.getElem_of_mem hx
 have:=allB_iff.1 h.2 i hi
 simp only[Le,Bool.and_eq_true,decide_eq_true_eq]at this
 exact⟨this.1.1,this.1.2⟩
theorem Zt {n:Net} (h:Ae n=true) {i:Nat} (hi:i<n.ports.length):Jz n.ports[i]≠[]∧n.ports[i].tagged.length≤16∧0≤n.ports[i].native∧∀ v∈Jz n.ports[i],0≤v∧v≤4094:=by
 have hp:=Ap5 h hi
 simp only[D9,Bool.and_eq_true,decide_eq_true_eq,Bool.or_eq_true,Bool.not_eq_true',Bool.and_eq_false_iff,beq_eq_false_iff_ne,decide_eq_false_iff_not]at hp
 obtain ⟨⟨⟨⟨⟨⟨⟨⟨_,h1⟩,h2⟩,h3⟩,_⟩,h4⟩,_⟩,_⟩,_⟩:=hp
 generalize n.ports[i]=p at *
 have hl:p.tagged.length≤16:=by
  rcases h3 with h3 | h3
  ·omega
  ·simp only[C8,Bool.and_eq_true,decide_eq_true_eq]at h3;omega
 have ht:∀ v∈p.tagged,0≤v∧v≤4094:=fun v hv=>by
  rcases h3 with h3 | h3
  ·rw[List.eq_nil_of_length_eq_zero h3]at hv;cases hv
  ·have:=Am5 h3 hv;omega
 refine⟨?_,hl,h1,?_⟩
 ·unfold Jz
  split
  ·simp
  ·rename_i hz
   rcases h4 with h4 | h4
   ·exact absurd h4 hz
   ·intro e;rw[e]at h4;exact h4 rfl
 ·unfold Jz
  split
  ·intro v hv
   rcases List.mem_cons.1 hv with rfl | hv
   ·exact⟨h1,h2⟩
   ·exact ht v hv
  ·exact ht
theorem Aj7 (to:Nat):(ipL to).length=20:=by simp[ipL,Au]
theorem Aqj {n:Net} (hn:Da n) (d:Int):0≤(nth n.irbs d).addr∧(nth n.irbs d).addr<4294967296:=by
 rw[nth]
 cases h:n.irbs[d.toNat]? with
 | none=>exact⟨by decide,by decide⟩
 | some x=>exact hn x (List.mem_of_getElem? h)
theorem Wt (n:Net) (s:Int) (hn:Da n):(Eu n s).1.dst<281474976710656∧(Eu n s).1.src<281474976710656∧((Eu n s).1.typ=34997∨(Eu n s).1.typ=2048)∧(Eu n s).1.body.length≤20:=by
 have hd1:=Bu (s:=Ah s) (b:=8) qy
 rw[Aao]
 split
 ·exact⟨by dsimp only;omega,by dsimp only;omega,.inl E,by simp⟩
 ·split
  ·have:=Aqj hn (Bt (Ah (Ah (Ah s))) n.irbs.length)
   exact⟨by dsimp only;unfold Ec;omega,by dsimp only;omega,.inr E,by dsimp only;rw[Aj7];decide⟩
  ·have hd3:=Bu (s:=Ah (Ah (Ah s))) (b:=8) qy
   exact⟨by dsimp only;omega,by dsimp only;omega,.inl E,by simp⟩
theorem Add (f:FrameM) (h:f.dst<281474976710656∧f.src<281474976710656∧f.typ≤65535∧f.body.length≤1504):Sy.Spec Tryz.prog 45 [Bc f] [] (.tup [.osl 0,Aa 0]) [(0,.row 1 Ag (frame f.dst f.src f.typ f.body))] :=
 Xq f.dst f.src f.typ f.body h.1 h.2.1 h.2.2.1 h.2.2.2
theorem Atc (n:Net) (s:Int) (hr:Ae n=true) (hn:Da n) (hh:0<(Cc n n.ports.length).length) :
  Sy.Spec Tryz.prog 194 [.ptr 0 0] (Cy n s) (Bo (Ep n s).1) (Cy n (Ep n s).2):=by
 have hf:=Uw hr
 have hhl:=Jj n n.ports.length
 obtain ⟨d,hd⟩:∃ d,Bt (Ah s) (Cc n n.ports.length).length=d:=⟨_,rfl⟩
 have hdr:=Bu (s:=Ah s) (b:=(Cc n n.ports.length).length) qn
 have q1:=Or s (Cc n n.ports.length).length
 rw[hd]at hdr q1
 have hmem:=Aag (List.getElem_mem (show d.toNat<(Cc n n.ports.length).length by omega))
 obtain ⟨port,hport⟩:∃ port,(Cc n n.ports.length)[d.toNat]'qn=port:=⟨_,rfl⟩
 rw[hport]at hmem
 have hpv:=Zt hr (i:=port.toNat) qn
 have hp2:nth n.ports port=n.ports[port.toNat]'qn:=Ak qn
 obtain ⟨p,hp⟩:∃ p,n.ports[port.toNat]'qn=p:=⟨_,rfl⟩
 rw[hp]at hpv hp2
 obtain ⟨hv1,hv2,hv3,hv4⟩:=hpv
 have q2:=vlanS n p (Ah s) qn hv1
 obtain ⟨v,hv⟩:∃ v,Sq p (Ah s)=v:=⟨_,rfl⟩
 have hvm:v.1∈Jz p:=by
  have h0:0<(Jz p).length:=List.length_pos_iff.2 hv1
  have:=Bu (s:=Ah (Ah s)) (b:=(Jz p).length) qn
  rw[← hv,Sq,Ak qn]
  exact List.getElem_mem _
 have hvr:=hv4 _ hvm
 rw[hv]at q2
 have q3:=Ahv n v.2 hn qn
 have hfo:=Wt n v.2 hn
 have hM:Ep n s=(let g:=if v.1≠p.native then Abc (Eu n v.2).1 v.1 else (Eu n v.2).1;(⟨1,port,0,0,frame g.dst g.src g.typ g.body,[]⟩,(Eu n v.2).2)):=by
  simp only[Ep]
  rw[hd,Ak qn,hport,hp2,hv]
 rw[hM]
 obtain ⟨f,hf'⟩:∃ f,Eu n v.2=f:=⟨_,rfl⟩
 rw[hf']at q3 hfo ⊢
 obtain ⟨⟨fd,fs,ft,fb⟩,t⟩:=f
 obtain ⟨v,sv⟩:=v
 obtain ⟨vn,hvn⟩:∃ vn:Nat,v=vn:=⟨v.toNat,by simp only at hvr;omega⟩
 subst hvn
 dsimp only at *
 by_cases hne:(vn:Int)≠p.native
 ·have q4:=Ale fd fs ft vn fb qn qn qn qn
  have q5:=Add (Abc ⟨fd,fs,ft,fb⟩ vn) ⟨hfo.1,hfo.2.1,by simp[Abc],by simp[Abc];omega⟩
  rw[if_pos hne]
  refine Spec.viewR (R:=L6 (Aa 1) (Aa port) (Aa 0) (Aa 0) (.sl 1 Ag (frame fd fs 33024 ([UInt8.ofNat (vn / 256),UInt8.ofNat vn,UInt8.ofNat (ft / 256),UInt8.ofNat ft]++fb))) (.val (.slice none 0 0))) ?_ fun _ _ _ h=>D0 (fun _ h=>h) (fun _=>Co) h
  refine B9 Γ hm 100 F194 Tryz.ntmps194 E fun F hF=>by
   conv=>whnf
   refine Bd (A5 [(0,1)] (Bi E E F131) q1 E ⟨E,Y⟩ E ⟨.inl E,Y⟩) qq E ?_
   refine oD ?_
   refine⟨E,by omega,by omega,?_⟩
   conv=>whnf
   refine⟨qq,?_⟩
   rw[hport]
   conv=>whnf
   refine⟨E,by omega,by omega,?_⟩
   rw[hp]
   conv=>whnf
   refine Ad (Af [] E F263 q2 E ⟨E,E,Y⟩ E ⟨.inl E,.inl E,Y⟩) E E ?_
   refine oO ?_
   refine Ad (Af [] E F264 q3 E ⟨E,E,Y⟩ E ⟨.inl E,.inl E,Y⟩) E E ?_
   refine oO ?_
   refine⟨E,by omega,by omega,?_⟩
   rw[hp]
   conv=>whnf
   refine⟨fun _=>?_,fun h=>absurd (show (vn:Int)=p.native by simpa using h) hne⟩
   refine oO ?_
   refine c0 q4 F122 ?_
   refine oO ?_
   refine Ad (Af [(0,55)] E F45 q5 E Y E ⟨.inr E,Y⟩) E E ?_
   refine oO ?_
   refine Ao 55 E ?_
   exact done E (.cons (.cell E E E E) .nil) [] (Cy n t) (fun _ h=>h) E E ⟨Y,⟨.inl E,E,.inl E,E,Y⟩,E,E⟩
 ·have q5:=Add ⟨fd,fs,ft,fb⟩ ⟨hfo.1,hfo.2.1,by dsimp only;omega,by dsimp only;omega⟩
  rw[if_neg hne]
  refine Spec.viewR (R:=L6 (Aa 1) (Aa port) (Aa 0) (Aa 0) (.sl 1 Ag (frame fd fs ft fb)) (.val (.slice none 0 0))) ?_ fun _ _ _ h=>D0 (fun _ h=>h) (fun _=>Co) h
  refine B9 Γ hm 100 F194 Tryz.ntmps194 E fun F hF=>by
   conv=>whnf
   refine Bd (A5 [(0,1)] (Bi E E F131) q1 E ⟨E,Y⟩ E ⟨.inl E,Y⟩) qq E ?_
   refine oD ?_
   refine⟨E,by omega,by omega,?_⟩
   conv=>whnf
   refine⟨qq,?_⟩
   rw[hport]
   conv=>whnf
   refine⟨E,by omega,by omega,?_⟩
   rw[hp]
   conv=>whnf
   refine Ad (Af [] E F263 q2 E ⟨E,E,Y⟩ E ⟨.inl E,.inl E,Y⟩) E E ?_
   refine oO ?_
   refine Ad (Af [] E F264 q3 E ⟨E,E,Y⟩ E ⟨.inl E,.inl E,Y⟩) E E ?_
   refine oO ?_
   refine⟨E,by omega,by omega,?_⟩
   rw[hp]
   conv=>whnf
   refine⟨fun h=>absurd (show (vn:Int)≠p.native by simpa using h) hne,fun _=>?_⟩
   refine oO ?_
   refine Ad (Af [(0,55)] E F45 q5 E Y E ⟨.inr E,Y⟩) E E ?_
   refine oO ?_
   refine Ao 55 E ?_
   exact done E (.cons (.cell E E E E) .nil) [] (Cy n t) (fun _ h=>h) E E ⟨Y,⟨.inl E,E,.inl E,E,Y⟩,E,E⟩
theorem Yf (n:Net) (s:Int):Lb n s =
  if Bt (Ah s) 10<3∧0<(Cc n n.ports.length).length then Ep n (Ah s)
  else if 3≤Bt (Ah s) 10∧Bt (Ah s) 10<8∧0<n.domains.length then (⟨2,0,Bt (Ah (Ah s)) n.domains.length,Bt (Ah (Ah (Ah s))) 3,[],[]⟩,Ah (Ah (Ah s)))
  else if Bt (Ah s) 10=9∧0<n.links.length then (⟨5,0,0,0,[],(C6 n.links.length (Ah s)).1⟩,(C6 n.links.length (Ah s)).2)
  else (⟨4,0,0,0,[],[]⟩,Ah s):=rfl
theorem stepS (n:Net) (s:Int) (hr:Ae n=true) (hn:Da n):Sy.Spec Tryz.prog 133 [.ptr 0 0] (Cy n s) (Bo (Lb n s).1) (Cy n (Lb n s).2):=by
 have hf:=Uw hr
 have q1:=Or s 10
 have qi:=Atc n (Ah s) hr hn
 have ql:=linksS n (Ah s) qn
 have hd:=Bu (s:=Ah s) (b:=10) qy
 rw[Yf]
 generalize Bt (Ah s) 10=k at *
 split
 ·rename_i hc
  have qi:=qi hc.2
  refine B9 Γ hm 100 F133 Tryz.ntmps133 E fun F hF=>by
   conv=>whnf
   refine Ad (A5 [(0,1)] (Bi E E F131) q1 E ⟨E,Y⟩ E ⟨.inl E,Y⟩) E E ?_
   refine oO ?_
   refine⟨fun _=>?_,fun h=>absurd (of_decide_eq_false h) qn⟩
   refine oO ?_
   refine⟨fun _=>?_,fun h=>absurd (of_decide_eq_false h) qn⟩
   refine oO ?_
   refine Ad (Af [] E F194 qi E ⟨E,E,Y⟩ E ⟨.inl E,.inl E,Y⟩) E E ?_
   refine oO ?_
   exact done E (.cons (.cell E E E E) .nil) [] (Cy n (Ep n (Ah s)).2) (fun _ h=>h) E E ⟨Y,⟨.inl E,E,.inl E,E,Y⟩,E,E⟩
 rename_i hc1
 split
 ·rename_i hc
  have q2:=Or (Ah s) n.domains.length
  have q3:=Or (Ah (Ah s)) 3
  generalize Bt (Ah (Ah s)) n.domains.length=d at *
  generalize Bt (Ah (Ah (Ah s))) 3=a at *
  refine Spec.viewR (R:=L6 (Aa 2) (Aa 0) (Aa d) (Aa a) (.val (.slice none 0 0)) (.val (.slice none 0 0))) ?_ fun _ _ _ h=>D0 (fun _=>Co) (fun _=>Co) h
  refine B9 Γ hm 100 F133 Tryz.ntmps133 E fun F hF=>by
   conv=>whnf
   refine Ad (A5 [(0,1)] (Bi E E F131) q1 E ⟨E,Y⟩ E ⟨.inl E,Y⟩) E E ?_
   refine oO ?_
   refine⟨fun h=>absurd (of_decide_eq_true h) qn,fun _=>?_⟩
   refine oF ?_
   refine⟨fun _=>?_,fun h=>absurd (of_decide_eq_false h) qn⟩
   refine oO ?_
   refine⟨fun _=>?_,fun h=>absurd (of_decide_eq_false h) qn⟩
   refine oO ?_
   refine⟨fun _=>?_,fun h=>absurd (of_decide_eq_false h) qn⟩
   refine oO ?_
   refine Bd (A5 [(0,1)] (Bi E E F131) q2 E ⟨E,Y⟩ E ⟨.inl E,Y⟩) qq E ?_
   refine oD ?_
   refine kW ?_
   refine Ad (A5 [(0,1)] (Bi E E F131) q3 E ⟨E,Y⟩ E ⟨.inl E,Y⟩) E E ?_
   refine oO ?_
   exact done E (.cons (.cell E E E E) .nil) [] (Cy n (Ah (Ah (Ah s)))) (fun _ h=>h) E E ⟨Y,⟨.inl E,E,.inl E,E,Y⟩,E,E⟩
 rename_i hc2
 split
 ·rename_i hc
  refine B9 Γ hm 100 F133 Tryz.ntmps133 E fun F hF=>by
   conv=>whnf
   refine Ad (A5 [(0,1)] (Bi E E F131) q1 E ⟨E,Y⟩ E ⟨.inl E,Y⟩) E E ?_
   refine oO ?_
   refine⟨fun h=>absurd (of_decide_eq_true h) qn,fun _=>?_⟩
   refine oF ?_
   refine⟨fun _=>?_,fun h=>absurd (of_decide_eq_false h) qn⟩
   refine oO ?_
   refine⟨fun h=>absurd (of_decide_eq_true h) qn,fun _=>?_⟩
   refine oF ?_
   refine⟨fun _=>?_,fun h=>absurd hc.1 (by simpa using h)⟩
   refine oO ?_
   refine⟨fun _=>?_,fun h=>absurd (of_decide_eq_false h) qn⟩
   refine oO ?_
   refine Ad (Af [] E F195 ql E ⟨E,E,Y⟩ E ⟨.inl E,.inl E,Y⟩) E E ?_
   refine oO ?_
   exact done E (.cons (.cell E E E E) .nil) [] (Cy n (C6 n.links.length (Ah s)).2) (fun _ h=>h) E E ⟨Y,⟨.inl E,E,.inl E,E,Y⟩,E,E⟩
 ·rename_i hc3
  refine Spec.viewR (R:=L6 (Aa 4) (Aa 0) (Aa 0) (Aa 0) (.val (.slice none 0 0)) (.val (.slice none 0 0))) ?_ fun _ _ _ h=>D0 (fun _=>Co) (fun _=>Co) h
  refine B9 Γ hm 100 F133 Tryz.ntmps133 E fun F hF=>by
   conv=>whnf
   refine Ad (A5 [(0,1)] (Bi E E F131) q1 E ⟨E,Y⟩ E ⟨.inl E,Y⟩) E E ?_
   refine oO ?_
   (repeat' (first | (refine⟨fun h=>?_,fun h=>?_⟩<;>(repeat (first | simp only[decide_eq_true_eq]at h | simp only[decide_eq_false_iff_not]at h | simp only[beq_iff_eq]at h | simp only[beq_eq_false_iff_ne]at h))<;>((refine oO ?_);repeat((refine aF ?_);(refine oO ?_)))) | refine done rfl (.cons (.cell rfl rfl rfl rfl) .nil) [] (Cy n (Ah s)) (fun _ h=>h) rfl rfl ⟨trivial,⟨.inl rfl,rfl,.inl rfl,rfl,trivial⟩,rfl,rfl⟩))
   all_goals (exfalso;clear hF q1 qi ql;omega)
theorem Alj (n:Net) (s:Int) (size:Nat) (hsz:size<100000) (hr:Ae n=true) (hn:Da n):Sy.Spec Tryz.prog 64 [.ptr 0 0,Aa size] (Cy n s) (.sl 6 Bo (Bb n size s).1) (Cy n (Bb n size s).2):=cT F64 Tryz.ntmps64 fun F hF=>by
 conv=>whnf
 refine Bm 5 1000 6 Bo E E ?_
 refine At size (fun j=>[(0,.ptr 0 0),(5,.osl 1000),(6,Aa size),(7,Aa j)]) (fun j=>[(0,.box (Z0 n (.sl 1 Aa (Cc n n.ports.length)) 1)),(1,.box [As (Bb n j s).2]),(1000,.row 6 Bo (Bb n j s).1)]) []
  ⟨⟨rfl,rfl,rfl,rfl,rfl,rfl,rfl,rfl,trivial⟩,⟨.inl rfl,rfl,.inl rfl,rfl,.inl rfl,rfl,trivial⟩,rfl,rfl⟩ ?_
 intro j hj
 have hlen:=Dm n j s
 have hsucc:Bb n (j+1) s=((Bb n j s).1++[(Lb n (Bb n j s).2).1],(Lb n (Bb n j s).2).2):=rfl
 obtain ⟨r,hr'⟩:∃ r,Bb n j s=r:=⟨_,rfl⟩
 rw[hr']at hlen hsucc ⊢
 obtain ⟨u,t⟩:=r
 have hst:=stepS n t hr hn
 dsimp only at hlen hsucc ⊢
 generalize Lb n t=x at *
 refine oO ?_
 refine⟨fun h=>?_,fun h=>?_⟩
 ·have hlt:j<size:=by simpa using h
  refine oO ?_
  refine Ad (Af [] E F133 hst E ⟨E,E,Y⟩ E ⟨.inl E,.inl E,Y⟩) E E ?_
  refine oO ?_
  refine Ad (Ac Γ.toTy 13 E E E E E (.row E) (.lit (e:=Bo) (l:=[x.1]) E E) qz (by simp;omega) (by simp;omega)) E E ?_
  refine oO ?_
  refine iW ?_
  refine An [(1000,13)] hlt ⟨⟨E,E,E,E,E,E,E,E,Y⟩,⟨.inl E,E,.inl ?_,E,.inl ?_,E,Y⟩,E,E⟩
  ·rw[hsucc];rfl
  ·rw[hsucc];rfl
 ·have hjl:j=size:=by
   have:¬ j<size:=by simpa using h
   omega
  subst hjl
  rw[hr']
  refine oO ?_
  refine Ao 1000 E ?_
  exact done E (.cons .tmp .nil) [] (Cy n t) (fun _ h=>h) E E ⟨Y,⟨.inl E,E,.inl E,E,Y⟩,E,E⟩
def Ark (n:Net) (size:Int):Bool:=decide (0≤size∧size≤60) && Ae n
theorem Aav (n:Net) (s size:Int) (hn:n.Fin) (h:Ark n size=false):Sy.Spec Tryz.prog 60 [Aj n,As s,Aa size] [] (.tup [.sl 6 Bo [],As 0,Aa 2]) []:=cT F60 Tryz.ntmps60 fun F hF=>by
 have h':¬ ((0≤size∧size≤60)∧Ae n=true):=fun hh=>by simp[Ark,hh.1,hh.2]at h
 conv=>whnf
 (repeat' (first | (refine⟨fun h=>?_,fun h=>?_⟩<;>(repeat (first | simp only[decide_eq_true_eq]at h | simp only[decide_eq_false_iff_not]at h | simp only[Bool.not_eq_true']at h | simp only[Bool.not_eq_false']at h))<;>((refine oO ?_);repeat((refine aT ?_);(refine oO ?_)))) | (refine c0 (B0 n hn) F23 ?_;((refine oO ?_))) | (refine Am 6 6 Bo rfl ?_;refine Aq rfl (.cons .tmp (.cons .tmp (.cons .tmp .nil))) rfl rfl)))
 all_goals exact absurd ⟨by omega,by assumption⟩ h'
theorem Ab1 (n:Net) (s:Int) (size:Nat) (hn:n.Fin) (hr:Ae n=true) (hsz:size≤60) (ha:Da n):Sy.Spec Tryz.prog 60 [Aj n,As s,Aa size] [] (.tup [.sl 6 Bo (Bb n size s).1,As (Bb n size s).2,Aa 0]) []:=cT F60 Tryz.ntmps60 fun F hF=>by
 have hf:=Uw hr
 have hrt:=B0 n hn
 rw[hr]at hrt
 have qm:=At9 n s qn
 have qs:=Alj n s size qn hr ha
 have qla:=lastS (Bb n size s).2
 generalize Bb n size s=r at *
 ((conv=>whnf);refine aF ?_;refine rg ?_;conv=>whnf)
 refine⟨fun h=>absurd (of_decide_eq_true h) qn,fun _=>?_⟩
 refine oO ?_
 refine c0 hrt F23 ?_
 refine oF ?_
 refine Ad (Af [(0,26),(1,27)] E F63 qm E Y E ⟨.inr E,.inr E,Y⟩) E E ?_
 refine oO ?_
 refine Ad (Af [(0,26),(1,27)] E F64 qs E ⟨E,E,Y⟩ E ⟨.inl E,.inl E,Y⟩) E E ?_
 refine oO ?_
 refine Ad (A5 [(0,27)] (Bi E E F132) qla E ⟨E,Y⟩ E ⟨.inl E,Y⟩) E E ?_
 refine oO ?_
 exact dN
def Ii (s:Int):Obs:=[(0,.box [As s])]
theorem r_link {n:Net} (h:Ae n=true) {i:Nat} (hi:i<n.ports.length):n.ports[i].link=-1∨0≤n.ports[i].link:=by
 have hp:=Ap5 h hi
 simp only[D9,Ai,Bool.and_eq_true,decide_eq_true_eq,Bool.or_eq_true,beq_iff_eq]at hp
 omega
theorem Ach (n:Net) (hr:Ae n=true):Sy.Spec Tryz.prog 199 [Aj n] [] (.sl 1 Aa (Cc n n.ports.length)) []:=cT F199 Tryz.ntmps199 fun F hF=>by
 have hf:=Uw hr
 conv=>whnf
 refine A3 1 8 (Aj n) E E E ?_
 refine Bm 3 1000 1 Aa E E ?_
 refine At n.ports.length (fun j=>[(1,.ref 8 (Aj n) 0),(3,.osl 1000),(4,Aa j)]) (fun j=>[(1000,.row 1 Aa (Cc n j))]) []
  ⟨⟨rfl,rfl,rfl,rfl,rfl,rfl,trivial⟩,⟨.inl rfl,rfl,trivial⟩,rfl,rfl⟩ ?_
 intro j hj
 refine oO ?_
 refine⟨fun h=>?_,fun h=>?_⟩
 ·have hlt:j<n.ports.length:=by simpa using h
  have hsucc:=Xk n j
  have hhl:=Jj n j
  have hlk:=r_link hr hlt
  rw[Tv hlt]at hsucc
  have e1:n.ports[(j:Int).toNat]'qn=n.ports[j]:=rfl
  obtain ⟨p,hp⟩:∃ p,n.ports[j]=p:=⟨_,rfl⟩
  rw[hp]at e1 hsucc hlk
  obtain ⟨u,hu⟩:∃ u,Cc n j=u:=⟨_,rfl⟩
  rw[hu]at hsucc hhl ⊢
  refine oO ?_
  refine⟨E,by omega,by omega,?_⟩
  rw[e1]
  conv=>whnf
  refine⟨fun h2=>?_,fun h2=>?_⟩
  ·have h3:p.link=-1:=by simpa using h2
   rw[if_pos qn]at hsucc
   refine oO ?_
   refine Ad (Ac Γ.toTy 22 E E E E E (.row E) (.lit (e:=Aa) (l:=[(j:Int)]) E E) qz (by simp;omega) (by simp;omega)) E E ?_
   refine oO ?_
   refine iW ?_
   exact An [(1000,22)] hlt ⟨⟨E,E,E,E,E,E,Y⟩,⟨.inl (congrArg (Ob.row 1 Aa) hsucc),E,Y⟩,E,E⟩
  ·have h3:¬ p.link=-1:=by simpa using h2
   rw[if_neg qn]at hsucc
   refine oO ?_
   refine iW ?_
   exact An [] hlt ⟨⟨E,E,E,E,E,E,Y⟩,⟨.inl (congrArg (Ob.row 1 Aa) hsucc),E,Y⟩,E,E⟩
 have hjl:j=n.ports.length:=by
  have:¬ j<n.ports.length:=by simpa using h
  omega
 subst hjl
 refine oO ?_
 refine Ao 1000 E ?_
 exact dN
theorem Anc (n:Net) (s:Int) (hn:Da n) (hil:n.irbs.length<100000):Sy.Spec Tryz.prog 267 [.ptr 0 0,Aj n] (Ii s) (Bc (Eu n s).1) (Ii (Eu n s).2):=by
 have hd1:=Bu (s:=Ah s) (b:=8) qy
 have hd2:=Bu (s:=Ah (Ah s)) (b:=4) qy
 have hst:=Mt hd1.1 hd1.2
 rw[Aao]
 have q1:=Ey s 8
 have q2:=Ey (Ah s) 4
 generalize Bt (Ah s) 8=d1 at *
 generalize Bt (Ah (Ah s)) 4=d2 at *
 split
 ·rename_i hc
  refine Spec.viewR (R:=Tw (As (281474976710655:Nat)) (As (10995116277760+d1.toNat:Nat)) (Aa (34997:Nat)) (.val (.slice none 0 0))) ?_ fun _ _ _ h=>Lo (fun _=>Co) h
  refine B9 Γ hm 100 F267 Tryz.ntmps267 E fun F hF=>by
   conv=>whnf
   refine A3 3 8 (Aj n) E E E ?_
   refine oO ?_
   refine Ad (Af [] E F198 q1 E ⟨E,Y⟩ E ⟨.inl E,Y⟩) E E ?_
   refine oO ?_
   rw[hst]
   refine Ad (Af [] E F198 q2 E ⟨E,Y⟩ E ⟨.inl E,Y⟩) E E ?_
   refine oO ?_
   (repeat' (first | (refine⟨fun h=>?_,fun h=>?_⟩<;>(repeat (first | simp only[decide_eq_true_eq]at h | simp only[decide_eq_false_iff_not]at h | simp only[beq_iff_eq]at h | simp only[beq_eq_false_iff_ne]at h))<;>((refine oO ?_);repeat((first|refine aF ?_|refine aT ?_);(refine oO ?_)))) | refine done rfl (.cons (.cell rfl rfl rfl rfl) .nil) [] (Ii (Ah (Ah s))) (fun _ h=>h) rfl rfl ⟨trivial,⟨.inl rfl,rfl,trivial⟩,rfl,rfl⟩))
   all_goals (exfalso;clear hF q1 q2 hst;omega)
 ·rename_i hc
  split
  ·rename_i hk
   subst hk
   have hpos:0<n.irbs.length:=by omega
   have hd3:=Bu (s:=Ah (Ah (Ah s))) (b:=n.irbs.length) qn
   have hd4:=Bu (s:=Ah (Ah (Ah (Ah s)))) (b:=n.irbs.length) qn
   have hd5:=Bu (s:=Ah (Ah (Ah (Ah (Ah s))))) (b:=4) qy
   have q3:=Ey (Ah (Ah s)) n.irbs.length
   have q4:=Ey (Ah (Ah (Ah s))) n.irbs.length
   have q5:=Ey (Ah (Ah (Ah (Ah s)))) 4
   generalize Bt (Ah (Ah (Ah s))) n.irbs.length=d3 at *
   generalize Bt (Ah (Ah (Ah (Ah s)))) n.irbs.length=d4 at *
   generalize Bt (Ah (Ah (Ah (Ah (Ah s))))) 4=d5 at *
   rw[Ak (l:=n.irbs) (i:=d3) qn,Ak (l:=n.irbs) (i:=d4) qn]
   have hx:=hn _ (List.getElem_mem (show d3.toNat<n.irbs.length by omega))
   have hy:=hn _ (List.getElem_mem (show d4.toNat<n.irbs.length by omega))
   obtain ⟨x,hx'⟩:∃ x,n.irbs[d3.toNat]'qn=x:=⟨_,rfl⟩
   obtain ⟨y,hy'⟩:∃ y,n.irbs[d4.toNat]'qn=y:=⟨_,rfl⟩
   rw[hx']at hx ⊢
   rw[hy']at hy ⊢
   obtain ⟨ax,hax⟩:∃ a:Nat,x.addr=a:=⟨x.addr.toNat,by omega⟩
   obtain ⟨ay,hay⟩:∃ a:Nat,y.addr=a:=⟨y.addr.toNat,by omega⟩
   have hto:∃ to:Nat,IntKind.u32.wrap (Dr y.addr y.bits+d5)=to∧to<4294967296:=⟨(IntKind.u32.wrap (Dr y.addr y.bits+d5)).toNat,by rw[IntKind.wrap_u32];omega,by rw[IntKind.wrap_u32];omega⟩
   obtain ⟨to,hto1,hto2⟩:=hto
   have hto3:IntKind.u32.wrap (Dr y.addr y.bits+IntKind.u32.wrap d5)=to:=by
    rw[← hto1,IntKind.wrap_u32,IntKind.wrap_u32,IntKind.wrap_u32]
    omega
   rw[hto1,Int.toNat_natCast]
   have c1:=Ma ax qn
   have c2:=Wb ay y.bits qn
   rw[← hax]at c1
   rw[← hay]at c2
   have c3:=Anb to hto2
   refine B9 Γ hm 100 F267 Tryz.ntmps267 E fun F hF=>by
    conv=>whnf
    refine A3 3 8 (Aj n) E E E ?_
    refine oO ?_
    refine Ad (Af [] E F198 q1 E ⟨E,Y⟩ E ⟨.inl E,Y⟩) E E ?_
    refine oO ?_
    rw[hst]
    refine Ad (Af [] E F198 q2 E ⟨E,Y⟩ E ⟨.inl E,Y⟩) E E ?_
    refine oT ?_
    refine⟨fun h=>absurd (show (n.irbs.length:Int)=0 by simpa using h) qn,fun _=>?_⟩
    (refine oF ?_;refine bT ?_)
    refine Bd (Af [] E F198 q3 E ⟨E,Y⟩ E ⟨.inl E,Y⟩) qq E ?_
    refine oD ?_
    refine⟨E,by omega,by omega,?_⟩
    rw[hx']
    conv=>whnf
    refine cD c1 F47 ?_
    refine oD ?_
    refine kW ?_
    refine Bd (Af [] E F198 q4 E ⟨E,Y⟩ E ⟨.inl E,Y⟩) qq E ?_
    refine oD ?_
    refine⟨E,by omega,by omega,?_⟩
    rw[hy']
    conv=>whnf
    refine kW ?_
    refine c0 c2 F153 ?_
    refine oO ?_
    refine Ad (Af [] E F198 q5 E ⟨E,Y⟩ E ⟨.inl E,Y⟩) E E ?_
    refine oO ?_
    rw[hto3]
    refine Ad (Af [(0,60)] E F48 c3 E Y E ⟨.inr E,Y⟩) E E ?_
    refine oF ?_
    refine Ao 60 E ?_
    exact done E (.cons (.cell E E E E) .nil) [] (Ii (Ah (Ah (Ah (Ah (Ah s)))))) (fun _ h=>h) E E ⟨Y,⟨.inl E,E,Y⟩,E,E⟩
  ·rename_i hk
   have hd3:=Bu (s:=Ah (Ah (Ah s))) (b:=8) qy
   have q3:=Ey (Ah (Ah s)) 8
   generalize Bt (Ah (Ah (Ah s))) 8=d3 at *
   have hst3:=Mt hd3.1 hd3.2
   refine Spec.viewR (R:=Tw (As (10995116277760+d3.toNat:Nat)) (As (10995116277760+d1.toNat:Nat)) (Aa (34997:Nat)) (.val (.slice none 0 0))) ?_ fun _ _ _ h=>Lo (fun _=>Co) h
   refine B9 Γ hm 100 F267 Tryz.ntmps267 E fun F hF=>by
    conv=>whnf
    refine A3 3 8 (Aj n) E E E ?_
    refine oO ?_
    refine Ad (Af [] E F198 q1 E ⟨E,Y⟩ E ⟨.inl E,Y⟩) E E ?_
    refine oO ?_
    rw[hst]
    refine Ad (Af [] E F198 q2 E ⟨E,Y⟩ E ⟨.inl E,Y⟩) E E ?_
    refine oO ?_
    refine⟨fun h=>absurd (show d2=1 by simpa using h) hk,fun _=>?_⟩
    refine oF ?_
    refine⟨fun h=>absurd (show d2=0 by simpa using h) (fun e=>hc (.inl e)),fun _=>?_⟩
    refine oO ?_
    refine⟨fun h=>absurd (show d2=1 by simpa using h) hk,fun _=>?_⟩
    refine oO ?_
    refine⟨fun _=>?_,fun h=>absurd (of_decide_eq_false h) qn⟩
    refine oO ?_
    refine Ad (Af [] E F198 q3 E ⟨E,Y⟩ E ⟨.inl E,Y⟩) E E ?_
    refine oO ?_
    rw[hst3]
    exact done E (.cons (.cell E E E E) .nil) [] (Ii (Ah (Ah (Ah s)))) (fun _ h=>h) E E ⟨Y,⟨.inl E,E,Y⟩,E,E⟩
theorem Ur (f:FrameM) (h:f.dst<281474976710656∧f.src<281474976710656∧f.typ≤65535∧f.body.length≤1504):Sy.Spec Tryz.prog 49 [Bc f] [] (.tup [.osl 0,Aa 0]) [(0,.row 1 Ag (frame f.dst f.src f.typ f.body))] :=
 Acg f.dst f.src f.typ f.body h.1 h.2.1 h.2.2.1 h.2.2.2
theorem Ait (n:Net) (s:Int) (hr:Ae n=true) (hn:Da n) (hh:0<(Cc n n.ports.length).length) :
  Sy.Spec Tryz.prog 200 [.ptr 0 0,Aj n] (Ii s) (Bo (Ep n s).1) (Ii (Ep n s).2):=by
 have hf:=Uw hr
 have hhl:=Jj n n.ports.length
 obtain ⟨d,hd⟩:∃ d,Bt (Ah s) (Cc n n.ports.length).length=d:=⟨_,rfl⟩
 have hdr:=Bu (s:=Ah s) (b:=(Cc n n.ports.length).length) qn
 have q0:=Ach n hr
 have q1:=Ey s (Cc n n.ports.length).length
 rw[hd]at hdr q1
 have hmem:=Aag (List.getElem_mem (show d.toNat<(Cc n n.ports.length).length by omega))
 obtain ⟨port,hport⟩:∃ port,(Cc n n.ports.length)[d.toNat]'qn=port:=⟨_,rfl⟩
 rw[hport]at hmem
 have hpv:=Zt hr (i:=port.toNat) qn
 have hp2:nth n.ports port=n.ports[port.toNat]'qn:=Ak qn
 obtain ⟨p,hp⟩:∃ p,n.ports[port.toNat]'qn=p:=⟨_,rfl⟩
 rw[hp]at hpv hp2
 obtain ⟨hv1,hv2,hv3,hv4⟩:=hpv
 obtain ⟨l,hl⟩:∃ l,Jz p=l:=⟨_,rfl⟩
 have hl':(if p.native≠0 then p.native::p.tagged else p.tagged)=l:=hl
 have q2:=Ey (Ah s) l.length
 have hM:Ep n s=(let v:=Sq p (Ah s);let g:=if v.1≠p.native then Abc (Eu n v.2).1 v.1 else (Eu n v.2).1;(⟨1,port,0,0,frame g.dst g.src g.typ g.body,[]⟩,(Eu n v.2).2)):=by
  simp only[Ep]
  rw[hd,Ak qn,hport,hp2]
 have hv:Sq p (Ah s)=(nth l (Bt (Ah (Ah s)) l.length),Ah (Ah s)):=by
  rw[← hl];rfl
 rw[hl]at hv1 hv4
 have h0:0<l.length:=List.length_pos_iff.2 hv1
 have hir:=Bu (s:=Ah (Ah s)) (b:=l.length) qn
 obtain ⟨i,hi⟩:∃ i,Bt (Ah (Ah s)) l.length=i:=⟨_,rfl⟩
 rw[hi]at hir hv q2
 rw[Ak qn]at hv
 have hvr:=hv4 _ (List.getElem_mem (show i.toNat<l.length by omega))
 obtain ⟨v,hv'⟩:∃ v,l[i.toNat]'qn=v:=⟨_,rfl⟩
 rw[hv']at hvr hv
 rw[hM,hv]
 have q3:=Anc n (Ah (Ah s)) hn qn
 have hfo:=Wt n (Ah (Ah s)) hn
 dsimp only
 obtain ⟨f,hf'⟩:∃ f,Eu n (Ah (Ah s))=f:=⟨_,rfl⟩
 rw[hf']at q3 hfo ⊢
 obtain ⟨⟨fd,fs,ft,fb⟩,t⟩:=f
 obtain ⟨vn,hvn⟩:∃ vn:Nat,v=vn:=⟨v.toNat,by omega⟩
 subst hvn
 dsimp only at *
 by_cases hne:(vn:Int)≠p.native
 ·have q4:=Ze fd fs ft vn fb qn qn qn qn
  have q5:=Ur (Abc ⟨fd,fs,ft,fb⟩ vn) ⟨hfo.1,hfo.2.1,by simp[Abc],by simp[Abc];omega⟩
  rw[if_pos hne]
  refine Spec.viewR (R:=L6 (Aa 1) (Aa port) (Aa 0) (Aa 0) (.sl 1 Ag (frame fd fs 33024 ([UInt8.ofNat (vn / 256),UInt8.ofNat vn,UInt8.ofNat (ft / 256),UInt8.ofNat ft]++fb))) (.val (.slice none 0 0))) ?_ fun _ _ _ h=>D0 (fun _ h=>h) (fun _=>Co) h
  by_cases hn0:p.native≠0
  ·rw[if_pos hn0]at hl'
   have hl:[p.native]++p.tagged=l:=hl'
   subst hl
   have hn1:p.native>0:=by omega
   refine B9 Γ hm 100 F200 Tryz.ntmps200 E fun F hF=>by
    conv=>whnf
    refine A3 3 8 (Aj n) E E E ?_
    refine oO ?_
    refine c0 q0 F199 ?_
    refine oO ?_
    refine Ad (Af [] E F198 q1 E ⟨E,Y⟩ E ⟨.inl E,Y⟩) E E ?_
    refine oO ?_
    refine⟨E,by omega,by omega,?_⟩
    rw[hport]
    conv=>whnf
    refine⟨E,by omega,by omega,?_⟩
    rw[hp]
    conv=>whnf
    refine Ad (Ac Γ.toTy 30 E E E E E (.lit (e:=Aa) (l:=[]) E E) .sl qz (by simp;omega) (by simp;omega)) E E ?_
    refine Ao 30 E ?_
    refine oO ?_
    refine⟨fun _=>?_,fun h=>absurd (of_decide_eq_false h) qn⟩
    refine oO ?_
    refine Ad (Ac Γ.toTy 39 E E E E E (.lit (e:=Aa) (l:=[p.native]) E E) .sl qz (by simp;omega) (by simp;omega)) E E ?_
    refine Ao 39 E ?_
    refine oO ?_
    refine Ad (Af [] E F198 q2 E ⟨E,Y⟩ E ⟨.inl E,Y⟩) E E ?_
    refine oO ?_
    refine⟨E,hir.1,(by have:=hir.1;have:=hir.2;omega),?_⟩
    rw[hv']
    conv=>whnf
    refine Ad (Af [] E F267 q3 E ⟨E,Y⟩ E ⟨.inl E,Y⟩) E E ?_
    refine oO ?_
    refine⟨fun _=>?_,fun h=>absurd (show (vn:Int)=p.native by simpa using h) hne⟩
    refine oO ?_
    refine c0 q4 F125 ?_
    refine oO ?_
    refine Ad (Af [(0,62)] E F49 q5 E Y E ⟨.inr E,Y⟩) E E ?_
    refine oO ?_
    refine Ao 62 E ?_
    exact done E (.cons (.cell E E E E) .nil) [] (Ii t) (fun _ h=>h) E E ⟨Y,⟨.inl E,E,Y⟩,E,E⟩
  ·rw[if_neg hn0]at hl'
   have hl:[]++p.tagged=l:=hl'
   subst hl
   have hn1:¬ p.native>0:=by omega
   refine B9 Γ hm 100 F200 Tryz.ntmps200 E fun F hF=>by
    conv=>whnf
    refine A3 3 8 (Aj n) E E E ?_
    refine oO ?_
    refine c0 q0 F199 ?_
    refine oO ?_
    refine Ad (Af [] E F198 q1 E ⟨E,Y⟩ E ⟨.inl E,Y⟩) E E ?_
    refine oO ?_
    refine⟨E,by omega,by omega,?_⟩
    rw[hport]
    conv=>whnf
    refine⟨E,by omega,by omega,?_⟩
    rw[hp]
    conv=>whnf
    refine Ad (Ac Γ.toTy 30 E E E E E (.lit (e:=Aa) (l:=[]) E E) .sl qz (by simp;omega) (by simp;omega)) E E ?_
    refine Ao 30 E ?_
    refine oO ?_
    refine⟨fun h=>absurd (of_decide_eq_true h) qn,fun _=>?_⟩
    refine oO ?_
    refine Ad (Af [] E F198 q2 E ⟨E,Y⟩ E ⟨.inl E,Y⟩) E E ?_
    refine oO ?_
    refine⟨E,hir.1,(by have:=hir.1;have:=hir.2;omega),?_⟩
    rw[hv']
    conv=>whnf
    refine Ad (Af [] E F267 q3 E ⟨E,Y⟩ E ⟨.inl E,Y⟩) E E ?_
    refine oO ?_
    refine⟨fun _=>?_,fun h=>absurd (show (vn:Int)=p.native by simpa using h) hne⟩
    refine oO ?_
    refine c0 q4 F125 ?_
    refine oO ?_
    refine Ad (Af [(0,62)] E F49 q5 E Y E ⟨.inr E,Y⟩) E E ?_
    refine oO ?_
    refine Ao 62 E ?_
    exact done E (.cons (.cell E E E E) .nil) [] (Ii t) (fun _ h=>h) E E ⟨Y,⟨.inl E,E,Y⟩,E,E⟩
 ·have q5:=Ur ⟨fd,fs,ft,fb⟩ ⟨hfo.1,hfo.2.1,by dsimp only;omega,by dsimp only;omega⟩
  rw[if_neg hne]
  refine Spec.viewR (R:=L6 (Aa 1) (Aa port) (Aa 0) (Aa 0) (.sl 1 Ag (frame fd fs ft fb)) (.val (.slice none 0 0))) ?_ fun _ _ _ h=>D0 (fun _ h=>h) (fun _=>Co) h
  by_cases hn0:p.native≠0
  ·rw[if_pos hn0]at hl'
   have hl:[p.native]++p.tagged=l:=hl'
   subst hl
   have hn1:p.native>0:=by omega
   refine B9 Γ hm 100 F200 Tryz.ntmps200 E fun F hF=>by
    conv=>whnf
    refine A3 3 8 (Aj n) E E E ?_
    refine oO ?_
    refine c0 q0 F199 ?_
    refine oO ?_
    refine Ad (Af [] E F198 q1 E ⟨E,Y⟩ E ⟨.inl E,Y⟩) E E ?_
    refine oO ?_
    refine⟨E,by omega,by omega,?_⟩
    rw[hport]
    conv=>whnf
    refine⟨E,by omega,by omega,?_⟩
    rw[hp]
    conv=>whnf
    refine Ad (Ac Γ.toTy 30 E E E E E (.lit (e:=Aa) (l:=[]) E E) .sl qz (by simp;omega) (by simp;omega)) E E ?_
    refine Ao 30 E ?_
    refine oO ?_
    refine⟨fun _=>?_,fun h=>absurd (of_decide_eq_false h) qn⟩
    refine oO ?_
    refine Ad (Ac Γ.toTy 39 E E E E E (.lit (e:=Aa) (l:=[p.native]) E E) .sl qz (by simp;omega) (by simp;omega)) E E ?_
    refine Ao 39 E ?_
    refine oO ?_
    refine Ad (Af [] E F198 q2 E ⟨E,Y⟩ E ⟨.inl E,Y⟩) E E ?_
    refine oO ?_
    refine⟨E,hir.1,(by have:=hir.1;have:=hir.2;omega),?_⟩
    rw[hv']
    conv=>whnf
    refine Ad (Af [] E F267 q3 E ⟨E,Y⟩ E ⟨.inl E,Y⟩) E E ?_
    refine oO ?_
    refine⟨fun h=>absurd (show (vn:Int)≠p.native by simpa using h) hne,fun _=>?_⟩
    refine oO ?_
    refine Ad (Af [(0,62)] E F49 q5 E Y E ⟨.inr E,Y⟩) E E ?_
    refine oO ?_
    refine Ao 62 E ?_
    exact done E (.cons (.cell E E E E) .nil) [] (Ii t) (fun _ h=>h) E E ⟨Y,⟨.inl E,E,Y⟩,E,E⟩
  ·rw[if_neg hn0]at hl'
   have hl:[]++p.tagged=l:=hl'
   subst hl
   have hn1:¬ p.native>0:=by omega
   refine B9 Γ hm 100 F200 Tryz.ntmps200 E fun F hF=>by
    conv=>whnf
    refine A3 3 8 (Aj n) E E E ?_
    refine oO ?_
    refine c0 q0 F199 ?_
    refine oO ?_
    refine Ad (Af [] E F198 q1 E ⟨E,Y⟩ E ⟨.inl E,Y⟩) E E ?_
    refine oO ?_
    refine⟨E,by omega,by omega,?_⟩
    rw[hport]
    conv=>whnf
    refine⟨E,by omega,by omega,?_⟩
    rw[hp]
    conv=>whnf
    refine Ad (Ac Γ.toTy 30 E E E E E (.lit (e:=Aa) (l:=[]) E E) .sl qz (by simp;omega) (by simp;omega)) E E ?_
    refine Ao 30 E ?_
    refine oO ?_
    refine⟨fun h=>absurd (of_decide_eq_true h) qn,fun _=>?_⟩
    refine oO ?_
    refine Ad (Af [] E F198 q2 E ⟨E,Y⟩ E ⟨.inl E,Y⟩) E E ?_
    refine oO ?_
    refine⟨E,hir.1,(by have:=hir.1;have:=hir.2;omega),?_⟩
    rw[hv']
    conv=>whnf
    refine Ad (Af [] E F267 q3 E ⟨E,Y⟩ E ⟨.inl E,Y⟩) E E ?_
    refine oO ?_
    refine⟨fun h=>absurd (show (vn:Int)≠p.native by simpa using h) hne,fun _=>?_⟩
    refine oO ?_
    refine Ad (Af [(0,62)] E F49 q5 E Y E ⟨.inr E,Y⟩) E E ?_
    refine oO ?_
    refine Ao 62 E ?_
    exact done E (.cons (.cell E E E E) .nil) [] (Ii t) (fun _ h=>h) E E ⟨Y,⟨.inl E,E,Y⟩,E,E⟩
end Go.Sy.YteinjapglfkamaaGreat
