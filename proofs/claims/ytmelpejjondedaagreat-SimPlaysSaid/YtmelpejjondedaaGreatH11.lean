/-
  Y4 Y5 X2 Sy23 O1 Y6 Y8 O4 Y9 J20: parts of a proof, joined by program.
-/
import Derived.Test.YtmelpejjondedaaGreatH10
import Derived.Test.YtmelpejjondedaaGreatH3
import Derived.Test.YtmelpejjondedaaGreatH5
import Derived.Test.YtmelpejjondedaaGreatRows
import Derived.ProofKit
namespace Go.Sy.YtmelpejjondedaaGreat
open Go.Proofs
attribute [local irreducible] Go.Sy.G Go.Sy.DR
set_option maxRecDepth 100000
set_option maxHeartbeats 4000000
def Aqv (n:Net) (m:MacM) (now:Int) (j:Nat):Obs:=[(0,.box (Il n m.up now m.injected m.drops)),(902,.row 1 H8 (K2 m.tables now j)),(903,.row 1 La m.queues)]
theorem docDoS (n:Net) (hn:n.Fin) (hm1:n.Num) (hrt:Ah n = true) (m:MacM) (J D:Int) (hm0:MacOK n m J D) (hJ:J < 900000000000) (hD0:0 ≤ D) (hD:D ≤ 900000000000) (x:StepM) (hb:x.bytes.length < 100000) :
  Sy.Spec Tryz.prog 15 [.ptr 0 0,Dr x] (Ek n m) (.sl 3 Bl (doT n m x).2) (Ek n (doT n m x).1):=Ab Γ hm 100 F15 Tryz.ntmps15 rfl fun F hF=>by
 have hres:=doT.eq_1 n m x
 generalize doT n m x = res at *
 have hls:=hn.links
 unfold Aq at hls
 conv=>whnf
 refine ⟨fun h=>?_,fun h=>?_⟩
 ·have h1:x.kind = 1:=by simpa using h
  rw [if_pos h1] at hres
  have hij:=injectT.eq_1 n m x.port x.bytes
  generalize injectT n m x.port x.bytes = ri at *
  subst hres
  clear h
  have q0:=A9 x.port n.ports.length
  have hpl:=placeB_iff (d:=x.port) (k:=n.ports.length)
  generalize Am x.port n.ports.length = pb at *
  refine rg ?_;conv=>whnf
  refine At q0 F35 E E E (by kernel_rfl) E ?_
  cases pb
  ·rw [if_pos (.inl rfl)] at hij
   subst hij
   (refine rd (by kernel_rfl) ?_;(conv=>whnf);refine aF ?_;refine rd (by kernel_rfl) ?_;conv=>whnf)
   refine ⟨(by kernel_rfl),?_⟩
   ((conv=>whnf);refine aF ?_;refine rg ?_;conv=>whnf)
   (skip)
   refine An 4 3 Bl E ?_
   exact done E (.cons .tmp .nil) [] (Ek n ri) (fun _ h=>h) E E ⟨Y,⟨.inl E,E,.inl E,E,.inl E,E,Y⟩,E,E⟩
  have hp:=hpl.1 rfl
  have hlk:=Es hrt hp.2
  rw [Ao hp.2] at hij
  obtain ⟨p,hpp⟩:∃ p,n.ports[x.port.toNat]'hp.2 = p:=⟨_,rfl⟩
  rw [hpp] at hij hlk
  have hinj:=hm0.inj
  have hok:MacOK n ⟨m.up,m.tables,m.queues,m.now,m.injected + 1,m.drops⟩ (J + 1) D:=⟨hm0.up,hm0.tabs,hm0.ques,hm0.tab,hm0.que,hm0.now,⟨by dsimp only; omega,by dsimp only; omega⟩,hm0.drp⟩
  have hdr:He ⟨m.up,m.tables,m.queues,m.now,m.injected + 1,m.drops⟩:=fun i=>⟨(hm0.drp i).1,by have:=(hm0.drp i).2; dsimp only at *; omega⟩
  have he:=Sn n x.port x.bytes
  have hdom:=So (n:=n) (port:=x.port) (b:=x.bytes)
  have q1:=Adn n hn x.port x.bytes hb
  have hfr:=Qf n x.port x.bytes
  generalize enterT n x.port x.bytes = r at *
  have q2:=T9 n ⟨m.up,m.tables,m.queues,m.now,m.injected + 1,m.drops⟩ r.1 ⟨x.port,0,m.injected + 1,r.2.1⟩ r.2.2 ⟨he.1,by have:=he.2; omega⟩ (fun h=>by
   have:=hdom h
   exact ⟨this.1,by show r.1.toNat < m.queues.length; rw [hm0.ques]; exact this.2⟩) hdr (Cw hok _) (De hfr _ ⟨by omega,by have:=hn.ports; unfold Aq at this; omega⟩ (by decide))
  (refine rd (by kernel_rfl) ?_;(conv=>whnf);refine aT ?_;refine rd (by kernel_rfl) ?_;conv=>whnf)
  refine ⟨E,hp.1,hp.2,?_⟩
  rw [hpp]
  conv=>whnf
  refine ⟨(by kernel_rfl),?_⟩
  conv=>whnf
  refine ⟨fun h=>?_,fun h=>?_⟩
  ·have h2:p.link = -1:=by simpa using h
   rw [if_neg (by simp; omega)] at hij
   subst hij
   clear h
   refine rg ?_;conv=>whnf
   refine ⟨by unfold I64; omega,?_⟩
   conv=>whnf
   refine At q1 F36 E E E (by kernel_rfl) E ?_
   refine rd (by kernel_rfl) ?_;conv=>whnf
   refine ⟨(by kernel_rfl),?_⟩
   conv=>whnf
   refine Bi (Ak [] E F37 q2 E ⟨E,E,E,Y⟩ E ⟨.inl E,.inl E,.inl E,Y⟩) (by kernel_rfl) E ?_
   refine rd (by kernel_rfl) ?_;conv=>whnf
   refine ⟨(by kernel_rfl),?_⟩
   conv=>whnf
   refine An 4 3 Bl E ?_
   exact done E (.cons .tmp .nil) [] (Ek n (comeM _ _ _ _)) (fun _ h=>h) E E ⟨Y,⟨.inl E,E,.inl E,E,.inl E,E,Y⟩,E,E⟩
  ·have h2:¬ p.link = -1:=by simpa using h
   rw [if_pos (.inr (by omega))] at hij
   subst hij
   refine rg ?_;conv=>whnf
   refine An 4 3 Bl E ?_
   exact done E (.cons .tmp .nil) [] (Ek n ri) (fun _ h=>h) E E ⟨Y,⟨.inl E,E,.inl E,E,.inl E,E,Y⟩,E,E⟩
 have h1:¬ x.kind = 1:=by simpa using h
 rw [if_neg h1] at hres
 clear h
 refine rg ?_;conv=>whnf
 refine ⟨fun h=>?_,fun h=>?_⟩
 ·have h1:x.kind = 2:=by simpa using h
  rw [if_pos h1] at hres
  subst hres
  have q1:=Aoe n hn hm1 m J D hm0 hD0 hD x
  refine rg ?_;conv=>whnf
  refine Ai (Ak [] E F38 q1 E ⟨E,E,E,Y⟩ E ⟨.inl E,.inl E,.inl E,Y⟩) E E ?_
  refine rg ?_;conv=>whnf
  exact done E (.cons .tmp .nil) [] (Ek n (pickT n m x.domain x.at_).1) (fun _ h=>h) E E ⟨Y,⟨.inl E,E,.inl E,E,.inl E,E,Y⟩,E,E⟩
 have h1:¬ x.kind = 2:=by simpa using h
 rw [if_neg h1] at hres
 clear h
 refine rg ?_;conv=>whnf
 refine ⟨fun h=>?_,fun h=>?_⟩
 ·have h1:x.kind = 3:=by simpa using h
  rw [if_pos h1] at hres
  subst hres
  have q1:=Ae5 n m x (Cw hm0 _)
  refine rg ?_;conv=>whnf
  refine Ai (Ak [] E F39 q1 E ⟨E,E,E,Y⟩ E ⟨.inl E,.inl E,.inl E,Y⟩) E E ?_
  refine rg ?_;conv=>whnf
  refine An 4 3 Bl E ?_
  exact done E (.cons .tmp .nil) [] (Ek n (takeM m x.domain x.at_).1) (fun _ h=>h) E E ⟨Y,⟨.inl E,E,.inl E,E,.inl E,E,Y⟩,E,E⟩
 have h1:¬ x.kind = 3:=by simpa using h
 rw [if_neg h1] at hres
 clear h
 refine rg ?_;conv=>whnf
 refine ⟨fun h=>?_,fun h=>?_⟩
 ·have h1:x.kind = 4:=by simpa using h
  rw [if_pos h1] at hres
  have hnow:=hm0.now
  have htl:m.tables.length < 2147483648:=by rw [hm0.tabs]; exact hn.domains
  have hto:=hm0.tab
  have hti:∀ nw,min (m.now + 1) 1099511627776 = nw → Mh m = ⟨m.up,K2 m.tables nw m.tables.length,m.queues,nw,m.injected,m.drops⟩:=fun nw this=>by
   unfold Mh K2
   rw [this,List.take_length,List.drop_length,List.append_nil]
  clear h
  refine rg ?_;conv=>whnf
  refine ⟨fun h=>?_,fun h=>?_⟩
  ·have h2:m.now < 1099511627776:=of_decide_eq_true h
   rw [hti (m.now + 1) (by omega)] at hres
   subst hres
   clear h
   refine rg ?_;conv=>whnf
   refine ⟨by unfold I64; omega,?_⟩
   conv=>whnf
   refine Au m.tables.length (fun j=>[(0,.ptr 0 0),(8,Aa j)]) (fun j=>Aqv n m (m.now + 1) j) [] ⟨⟨E,E,E,E,Y⟩,⟨.inl E,E,.inl E,E,.inl E,E,Y⟩,E,E⟩ ?_
   intro j hj
   have hal:=Ox m.tables (m.now + 1) j
   refine rg ?_;conv=>whnf
   refine ⟨fun h=>?_,fun h=>?_⟩
   ·have hlt:j < m.tables.length:=by have:=of_decide_eq_true h; omega
    have hj0:((j:Nat):Int).toNat < (K2 m.tables (m.now + 1) j).length:=by rw [hal]; simpa using hlt
    obtain ⟨t,hoo⟩:∃ t,m.tables[j] = t:=⟨_,rfl⟩
    have e1:(K2 m.tables (m.now + 1) j)[((j:Nat):Int).toNat]'hj0 = t:=(Y0 m.tables (m.now + 1) j hlt (by rw [hal]; exact hlt)).trans hoo
    have hs:=Uo m.tables (m.now + 1) j hlt
    rw [hoo] at hs
    have ht:=hto t (by rw [← hoo]; exact List.getElem_mem hlt)
    clear h
    refine rg ?_;conv=>whnf
    refine ⟨by omega,hj0,?_⟩
    conv=>whnf
    refine ⟨E,hj0,?_⟩
    rw [e1]
    conv=>whnf
    refine At (Z1 t (m.now + 1) ht.short ht.mac) F40 E E E (by kernel_rfl) E ?_
    refine rd (by kernel_rfl) ?_;conv=>whnf
    refine ⟨by omega,hj0,?_⟩
    conv=>whnf
    refine ⟨E,hj0,ageT t (m.now + 1),E,E,?_⟩
    conv=>whnf
    refine ⟨(by kernel_rfl),?_⟩
    conv=>whnf
    refine ⟨by unfold I64; omega,?_⟩
    conv=>whnf
    exact Ar [] hlt ⟨⟨E,E,E,E,Y⟩,⟨.inl E,E,.inl (congrArg (Ob.row 1 H8) hs.symm),E,.inl E,E,Y⟩,E,E⟩
   ·have hjj:j = m.tables.length:=by have:=of_decide_eq_false h; omega
    subst hjj
    clear h
    refine rg ?_;conv=>whnf
    refine An 4 3 Bl E ?_
    exact done E (.cons .tmp .nil) [] (Ek n ⟨m.up,K2 m.tables (m.now + 1) m.tables.length,m.queues,(m.now + 1),m.injected,m.drops⟩) (fun _ h=>h) E E ⟨Y,⟨.inl E,E,.inl E,E,.inl E,E,Y⟩,E,E⟩
  ·have h2:¬ m.now < 1099511627776:=of_decide_eq_false h
   rw [hti m.now (by omega)] at hres
   subst hres
   clear h
   refine rg ?_;conv=>whnf
   refine Au m.tables.length (fun j=>[(0,.ptr 0 0),(8,Aa j)]) (fun j=>Aqv n m (m.now) j) [] ⟨⟨E,E,E,E,Y⟩,⟨.inl E,E,.inl E,E,.inl E,E,Y⟩,E,E⟩ ?_
   intro j hj
   have hal:=Ox m.tables (m.now) j
   refine rg ?_;conv=>whnf
   refine ⟨fun h=>?_,fun h=>?_⟩
   ·have hlt:j < m.tables.length:=by have:=of_decide_eq_true h; omega
    have hj0:((j:Nat):Int).toNat < (K2 m.tables (m.now) j).length:=by rw [hal]; simpa using hlt
    obtain ⟨t,hoo⟩:∃ t,m.tables[j] = t:=⟨_,rfl⟩
    have e1:(K2 m.tables (m.now) j)[((j:Nat):Int).toNat]'hj0 = t:=(Y0 m.tables (m.now) j hlt (by rw [hal]; exact hlt)).trans hoo
    have hs:=Uo m.tables (m.now) j hlt
    rw [hoo] at hs
    have ht:=hto t (by rw [← hoo]; exact List.getElem_mem hlt)
    clear h
    refine rg ?_;conv=>whnf
    refine ⟨by omega,hj0,?_⟩
    conv=>whnf
    refine ⟨E,hj0,?_⟩
    rw [e1]
    conv=>whnf
    refine At (Z1 t (m.now) ht.short ht.mac) F40 E E E (by kernel_rfl) E ?_
    refine rd (by kernel_rfl) ?_;conv=>whnf
    refine ⟨by omega,hj0,?_⟩
    conv=>whnf
    refine ⟨E,hj0,ageT t (m.now),E,E,?_⟩
    conv=>whnf
    refine ⟨(by kernel_rfl),?_⟩
    conv=>whnf
    refine ⟨by unfold I64; omega,?_⟩
    conv=>whnf
    exact Ar [] hlt ⟨⟨E,E,E,E,Y⟩,⟨.inl E,E,.inl (congrArg (Ob.row 1 H8) hs.symm),E,.inl E,E,Y⟩,E,E⟩
   ·have hjj:j = m.tables.length:=by have:=of_decide_eq_false h; omega
    subst hjj
    clear h
    refine rg ?_;conv=>whnf
    refine An 4 3 Bl E ?_
    exact done E (.cons .tmp .nil) [] (Ek n ⟨m.up,K2 m.tables (m.now) m.tables.length,m.queues,(m.now),m.injected,m.drops⟩) (fun _ h=>h) E E ⟨Y,⟨.inl E,E,.inl E,E,.inl E,E,Y⟩,E,E⟩
 have h1:¬ x.kind = 4:=by simpa using h
 rw [if_neg h1] at hres
 clear h
 refine rg ?_;conv=>whnf
 refine ⟨fun h=>?_,fun h=>?_⟩
 ·have h1:x.kind = 5:=by simpa using h
  rw [if_pos h1] at hres
  clear h
  refine rg ?_;conv=>whnf
  refine ⟨(by kernel_rfl),?_⟩
  conv=>whnf
  refine ⟨fun h=>?_,fun h=>?_⟩
  ·have h2:x.up.length = n.links.length:=by have:=of_decide_eq_true h; omega
   rw [if_pos h2] at hres
   subst hres
   clear h
   refine rg ?_;conv=>whnf
   refine Ai (Af Γ.toTy 134 E E E E E (.lit (e:=Ad) (l:=[]) E E) .sl (by simp) (by simp; omega) (by simp; omega)) E E ?_
   refine As 134 E ?_
   refine rg ?_;conv=>whnf
   refine An 4 3 Bl E ?_
   exact done E (.cons .tmp .nil) [] (Ek n (upT m x.up)) (fun _ h=>h) E E ⟨Y,⟨.inl E,E,.inl E,E,.inl E,E,Y⟩,E,E⟩
  ·have h2:¬ x.up.length = n.links.length:=by have:=of_decide_eq_false h; omega
   rw [if_neg h2] at hres
   subst hres
   clear h
   refine rg ?_;conv=>whnf
   refine An 4 3 Bl E ?_
   exact done E (.cons .tmp .nil) [] (Ek n m) (fun _ h=>h) E E ⟨Y,⟨.inl E,E,.inl E,E,.inl E,E,Y⟩,E,E⟩
 have h1:¬ x.kind = 5:=by simpa using h
 rw [if_neg h1] at hres
 subst hres
 clear h
 refine rg ?_;conv=>whnf
 refine An 4 3 Bl E ?_
 exact done E (.cons .tmp .nil) [] (Ek n m) (fun _ h=>h) E E ⟨Y,⟨.inl E,E,.inl E,E,.inl E,E,Y⟩,E,E⟩
def docC (n:Net) (c8 c9 c10:SV) (now inj:Int) (d:Nat → Int):List SV :=
 [.sl 5 Br n.devices,.sl 7 Bh n.ports,.sl 3 Cp n.links,.sl 6 A0 n.domains,.sl 4 Bp n.statics,.sl 4 B6 n.floods,.sl 5 Cz n.vrfs,.sl 5 Dm n.irbs,c8,c9,c10,.val (.int .i64 now),.val (.int .i64 inj),
 .val (.int .i64 (d 0)),.val (.int .i64 (d 1)),.val (.int .i64 (d 2)),.val (.int .i64 (d 3)),.val (.int .i64 (d 4)),.val (.int .i64 (d 5)),.val (.int .i64 (d 6)),.val (.int .i64 (d 7)),.val (.int .i64 (d 8)),.val (.int .i64 (d 9)),.val (.int .i64 (d 10)),.val (.int .i64 (d 11)),.val (.int .i64 (d 12)),.val (.int .i64 (d 13)),.val (.int .i64 (d 14)),.val (.int .i64 (d 15)),.val (.int .i64 (d 16)),.val (.int .i64 (d 17)),.val (.int .i64 (d 18)),.val (.int .i64 (d 19)),.val (.int .i64 (d 20)),.val (.int .i64 (d 21)),.val (.int .i64 (d 22)),.val (.int .i64 (d 23)),.val (.int .i64 (d 24)),.val (.int .i64 (d 25)),.val (.int .i64 (d 26)),.val (.int .i64 (d 27)),.val (.int .i64 (d 28)),.val (.int .i64 (d 29)),.val (.int .i64 (d 30)),.val (.int .i64 (d 31)),.val (.int .i64 (d 32)),.val (.int .i64 (d 33)),.val (.int .i64 (d 34)),.val (.int .i64 (d 35)),.val (.int .i64 (d 36)),.val (.int .i64 (d 37)),.val (.int .i64 (d 38)),.val (.int .i64 (d 39)),.val (.int .i64 (d 40)),.val (.int .i64 (d 41)),.val (.int .i64 (d 42)),.val (.int .i64 (d 43)),.val (.int .i64 (d 44)),.val (.int .i64 (d 45)),.val (.int .i64 (d 46)),.val (.int .i64 (d 47)),.val (.int .i64 (d 48)),.val (.int .i64 (d 49)),.val (.int .i64 (d 50)),.val (.int .i64 (d 51)),.val (.int .i64 (d 52)),.val (.int .i64 (d 53)),.val (.int .i64 (d 54)),.val (.int .i64 (d 55)),.val (.int .i64 (d 56)),.val (.int .i64 (d 57)),.val (.int .i64 (d 58)),.val (.int .i64 (d 59)),.val (.int .i64 (d 60)),.val (.int .i64 (d 61)),.val (.int .i64 (d 62)),.val (.int .i64 (d 63))]
def nilC:SV:=.val (.slice none 0 0)
def Aqw (n:Net) (j:Nat):Obs:=[(1,.box (Aky n)),(10,.box (docC n (.osl 1000) nilC nilC 0 0 (fun _=>0))),(1000,.row 1 Ad (List.replicate j true))]
theorem Ah2 (n:Net) (hn:n.Fin) (hb:okB n (Aax n) = false) :
  Sy.Spec Tryz.prog 14 [Ap n] [] (.tup [.val (.pointer none),Aa 2]) []:=Ab Γ hm 100 F14 Tryz.ntmps14 rfl fun F hF=>by
 have hls:=hn.links
 unfold Aq at hls
 have q2:=Qr n (Aax n) hn hb
 unfold Aax at q2
 conv=>whnf
 refine Ul 10 8 1000 1 Ad E E E E ?_
 refine Au n.links.length (fun j=>[(1,.ptr 1 0),(4,.ptr 10 0),(5,Aa j)]) (fun j=>Aqw n j) [] ⟨⟨E,E,E,E,E,E,Y⟩,⟨.inl E,E,.inl E,E,.inl E,E,Y⟩,E,E⟩ ?_
 intro j hj
 refine rg ?_;conv=>whnf
 refine ⟨fun h=>?_,fun h=>?_⟩
 ·have hlt:j < n.links.length:=by have:=of_decide_eq_true h; omega
  have hs:List.replicate (j + 1) true = List.replicate j true ++ [true]:=by rw [List.replicate_succ']
  clear h
  refine rg ?_;conv=>whnf
  refine Ai (Af Γ.toTy 24 E E E E E (.row E) (.lit (e:=Ad) (l:=[true]) E E) (by simp) (by simp; omega) (by simp; omega)) E E ?_
  refine rg ?_;conv=>whnf
  refine ⟨by unfold I64; omega,?_⟩
  conv=>whnf
  exact Ar [(1000,24)] hlt ⟨⟨E,E,E,E,E,E,Y⟩,⟨.inl E,E,.inl E,E,.inl (congrArg (Ob.row 1 Ad) hs),E,Y⟩,E,E⟩
 have hjj:j = n.links.length:=by have:=of_decide_eq_false h; omega
 subst hjj
 clear h
 refine As 1000 E ?_
 refine rg ?_;conv=>whnf
 refine At q2 F34 E E E (by kernel_rfl) E ?_
 refine rd (by kernel_rfl) ?_;conv=>whnf
 refine ⟨(by kernel_rfl),?_⟩
 ((conv=>whnf);refine aT ?_;refine rg ?_;conv=>whnf)
 exact Ac E (.cons .tmp (.cons .tmp .nil)) E E
theorem Ap9 (n:Net) (hn:n.Fin) (hb:okB n (Aax n) = true) :
  Sy.Spec Tryz.prog 14 [Ap n] [] (.tup [.ptr 0 0,Aa 0]) (Ek n (newT n)):=Ab Γ hm 100 F14 Tryz.ntmps14 rfl fun F hF=>by
 have hls:=hn.links
 have hds:=hn.domains
 unfold Aq at hls hds
 have q2:=Tc n (Aax n) hn hb
 unfold Aax at q2
 have hnt:=newT.eq_1 n
 generalize newT n = m at *
 conv=>whnf
 refine Ul 10 8 1000 1 Ad E E E E ?_
 refine Au n.links.length (fun j=>[(1,.ptr 1 0),(4,.ptr 10 0),(5,Aa j)]) (fun j=>Aqw n j) [] ⟨⟨E,E,E,E,E,E,Y⟩,⟨.inl E,E,.inl E,E,.inl E,E,Y⟩,E,E⟩ ?_
 intro j hj
 refine rg ?_;conv=>whnf
 refine ⟨fun h=>?_,fun h=>?_⟩
 ·have hlt:j < n.links.length:=by have:=of_decide_eq_true h; omega
  have hs:List.replicate (j + 1) true = List.replicate j true ++ [true]:=by rw [List.replicate_succ']
  clear h
  refine rg ?_;conv=>whnf
  refine Ai (Af Γ.toTy 24 E E E E E (.row E) (.lit (e:=Ad) (l:=[true]) E E) (by simp) (by simp; omega) (by simp; omega)) E E ?_
  refine rg ?_;conv=>whnf
  refine ⟨by unfold I64; omega,?_⟩
  conv=>whnf
  exact Ar [(1000,24)] hlt ⟨⟨E,E,E,E,E,E,Y⟩,⟨.inl E,E,.inl E,E,.inl (congrArg (Ob.row 1 Ad) hs),E,Y⟩,E,E⟩
 have hjj:j = n.links.length:=by have:=of_decide_eq_false h; omega
 subst hjj
 clear h
 refine As 1000 E ?_
 refine rg ?_;conv=>whnf
 refine At q2 F34 E E E (by kernel_rfl) E ?_
 refine rd (by kernel_rfl) ?_;conv=>whnf
 refine ⟨(by kernel_rfl),?_⟩
 ((conv=>whnf);refine aF ?_;refine rg ?_;conv=>whnf)
 refine Ai (Bw Γ.toTy (d:=42) (n:=n.domains.length) (fun _:Unit=>.val (.slice none 0 0)) () E E E E E E E E (by omega) (by omega) E E E) E E ?_
 refine rg ?_;conv=>whnf
 refine Ai (Bw Γ.toTy (d:=49) (n:=n.domains.length) (fun _:Unit=>.val (.slice none 0 0)) () E E E E E E E E (by omega) (by omega) E E E) E E ?_
 refine rg ?_;conv=>whnf
 refine Uk 42 (e':=H8) (l':=List.replicate n.domains.length []) E (by simp) (fun M w i h1 h2 v hv=>?_) ?_
 ·rw [List.getElem_replicate]
  simp only [RdD] at hv
  exact Mf hv
 refine Uk 49 (e':=La) (l':=List.replicate n.domains.length []) E (by simp) (fun M w i h1 h2 v hv=>?_) ?_
 ·rw [List.getElem_replicate]
  simp only [RdD] at hv
  exact Mf hv
 subst hnt
 exact done E (.cons .tmp (.cons .tmp .nil)) [(0,10),(902,42),(903,49)] (Ek n ⟨List.replicate n.links.length true,List.replicate n.domains.length [],List.replicate n.domains.length [],0,0,fun _=>0⟩) (fun _ h=>h) E E ⟨Y,⟨.inl E,E,.inl E,E,.inl E,E,Y⟩,E,E⟩
theorem any_at3 {α:Type} {p:α → Bool} {l:List α} {j:Nat} (hj:j < l.length) (h:p l[j] = true):l.any p = true:=List.any_eq_true.2 ⟨_,List.getElem_mem hj,h⟩
theorem Alt {α:Type} {p:α → Bool} {l:List α} {j:Nat} (hI:Da (fun _ x=>!(p x)) l j) (hj:l.length ≤ j):l.any p = false:=by
 rw [List.any_eq_false]
 intro x hx
 obtain ⟨i,hi,rfl⟩:=List.getElem_of_mem hx
 have:=hI i hi (by omega)
 simpa using this
def I2 (x:StepM):Bool:=decide (2000 < x.bytes.length) || decide (60 < x.up.length)
def great33B (l:List StepM):Bool:=decide (60 < l.length) || l.any I2
theorem An1 (l:List StepM):Sy.Spec Tryz.prog 11 [.sl 6 Dr l] [] (Ad (great33B l)) []:=Ab Γ hm 100 F11 Tryz.ntmps11 rfl fun F hF=>by
 have hres:=great33B.eq_1 l
 generalize great33B l = res at *
 conv=>whnf
 refine ⟨fun h=>?_,fun h=>?_⟩
 ·rw [decide_eq_true (by have:=of_decide_eq_true h; omega),Bool.true_or] at hres
  subst hres
  refine rg ?_;conv=>whnf
  exact Ac E (.cons .tmp .nil) E E
 have hl:l.length ≤ 60:=by have:=of_decide_eq_false h; omega
 rw [decide_eq_false (by omega),Bool.false_or] at hres
 refine rg ?_;conv=>whnf
 refine A2 l.length (fun j=>Da (fun _ x=>!(I2 x)) l j) (fun j=>[(0,.sl 6 Dr l),(3,Aa j)]) (fun _=>[]) [] (A5 _ _) ⟨⟨E,E,E,E,Y⟩,Y,E,E⟩ ?_
 intro j hj hI
 refine rg ?_;conv=>whnf
 refine ⟨fun h=>?_,fun h=>?_⟩
 ·have hlt:j < l.length:=by have:=of_decide_eq_true h; omega
  have hj0:((j:Nat):Int).toNat < l.length:=by simpa using hlt
  have hat:=fun h=>@any_at3 _ I2 l j hlt h
  have hnx:=fun h=>A3 (p:=fun _ x=>!(I2 x)) hI hlt h
  obtain ⟨x,hx⟩:∃ x,l[((j:Nat):Int).toNat]'hj0 = x:=⟨_,rfl⟩
  have hx':l[j] = x:=hx
  rw [hx'] at hat hnx
  refine rg ?_;conv=>whnf
  refine ⟨E,by omega,hj0,?_⟩
  rw [hx]
  conv=>whnf
  refine ⟨fun h=>?_,fun h=>?_⟩
  ·rw [hat (by rw [I2,decide_eq_true (by have:=of_decide_eq_true h; omega),Bool.true_or])] at hres
   subst hres
   (refine rg ?_;(conv=>whnf);refine aT ?_;refine rg ?_;conv=>whnf)
   exact Ac E (.cons .tmp .nil) E E
  have h1:=of_decide_eq_false h
  refine rg ?_;conv=>whnf
  refine ⟨E,by omega,hj0,?_⟩
  rw [hx]
  conv=>whnf
  refine ⟨fun h=>?_,fun h=>?_⟩
  ·rw [hat (by rw [I2,decide_eq_true (by have:=of_decide_eq_true h; omega:60 < x.up.length),Bool.or_true])] at hres
   subst hres
   refine rg ?_;conv=>whnf
   exact Ac E (.cons .tmp .nil) E E
  have h2:=of_decide_eq_false h
  refine rg ?_;conv=>whnf
  refine ⟨by unfold I64; omega,?_⟩
  conv=>whnf
  exact Ax [] hI (by omega) (hnx (by rw [I2,decide_eq_false (by omega),decide_eq_false (by omega)]; rfl)) ⟨⟨E,E,E,E,Y⟩,Y,E,E⟩
 ·have hje:j = l.length:=by have:=of_decide_eq_false h; omega
  subst hje
  rw [Alt hI (Nat.le_refl _)] at hres
  subst hres
  refine rg ?_;conv=>whnf
  exact Ac E (.cons .tmp .nil) E E
theorem Zf {l:List StepM} (h:great33B l = false):l.length ≤ 60 ∧ ∀ x ∈ l,x.bytes.length ≤ 2000 ∧ x.up.length ≤ 60:=by
 simp only [great33B,I2,Bool.or_eq_false_iff,decide_eq_false_iff_not,List.any_eq_false,Bool.or_eq_true,decide_eq_true_eq] at h
 refine ⟨by omega,fun x hx=>?_⟩
 have:=h.2 x hx
 omega
end Go.Sy.YtmelpejjondedaaGreat
namespace Go.Sy
open Go.ChangeShapes Go.WideShapes Go.ChangeAt Go.RowKit
section
variable {H:Type} (enc:TypeId × Value → H) (P:Program) (W:World)
def Op1 (t:TypeId) {α:Type} (e:α → SV) (p:α → Prop):Prop :=
 ∀ n c y,DataW.trod enc P W 0 (fun _=>true) true n t [c] = some y → ∃ x,p x ∧ Rd κ0 W (e x) c ∧ c.oneCell' = true
def OpN (t:TypeId) {α:Type} (e:α → SV) (p:α → Prop) (sz:Nat):Prop :=
 ∀ n cs y,DataW.trod enc P W 0 (fun _=>true) true n t cs = some y → ∃ x,p x ∧ cs.length = sz ∧ Ones cs ∧ RdL κ0 W (cellsOf (e x)) cs
variable {enc P W}
theorem B1 {t:TypeId} {k:IntKind} (ht:P.underlying t = some (.int k)):Op1 enc P W t (fun z=>.val (.int k z)) (fun z=>(Lit.int k z).wf = true):=fun n c y h=>by
 obtain ⟨z,e,_,hw⟩:=DataW.trod_int ht h
 have e:c = .int k z:=by simpa using e
 subst e
 exact ⟨z,hw,by simp [Rd],E⟩
theorem Agx {t:TypeId} (ht:P.underlying t = some .string):Op1 enc P W t Zt (fun s=>s.size ≤ maxLen):=fun n c y h=>by
 obtain ⟨z,e,_,hw⟩:=DataW.trod_string ht h
 have e:c = .string z:=by simpa using e
 subst e
 exact ⟨z,hw,by simp [Zt,Rd],E⟩
theorem Abo {t:TypeId} {k:IntKind} (ht:P.underlying t = some (.int k)):OpN enc P W t (fun z=>.val (.int k z)) (fun z=>(Lit.int k z).wf = true) 1:=fun n cs y h=>by
 obtain ⟨z,rfl,_,hw⟩:=DataW.trod_int ht h
 refine ⟨z,hw,E,fun c hc=>by simp at hc; subst hc; rfl,?_⟩
 simp [cellsOf,RdL,Rd]
theorem Anc {t:TypeId} (ht:P.underlying t = some .bool):OpN enc P W t Ad (fun _=>True) 1:=fun n cs y h=>by
 obtain ⟨z,rfl,_⟩:=DataW.trod_bool ht h
 refine ⟨z,Y,E,fun c hc=>by simp at hc; subst hc; rfl,?_⟩
 simp [Ad,cellsOf,RdL,Rd]
theorem Aat {base:Nat} {a:Addr} {n:Nat} {cs:List Value} (h:W.cells? base a n = some cs):cs.length = n ∧ ∀ j (_:j < n),W.cell? (a.add j) = cs[j]?:=by
 unfold World.cells? at h
 split at h
 ·refine ⟨by simpa using mapM_some_length h,fun j hj=>?_⟩
  exact mapM_some_get h j j (by simp [hj])
 ·cases h
theorem C6 {t et:TypeId} {α:Type} {e:α → SV} {p:α → Prop} {sz:Nat} (ht:P.underlying t = some (.slice et)) (hsz:P.cellsOf et = sz) (h0:0 < sz) (hb:∀ x,(e x).boxed = true) (hd:∀ x,(e x).data = true) (hO:OpN enc P W et e p sz) :
  Op1 enc P W t (fun l:List α=>.sl sz e l) (fun l=>(∀ x ∈ l,p x) ∧ l.length ≤ maxLen):=fun n c y h=>by
 rcases DataW.trod_slice ht h with ⟨hcs,_⟩ | ⟨a,len,cap,elems,rest,m,rfl,hcs,_,_,hlc,hcm,hel,hget,_⟩
 ·have hc:c = .slice none 0 0:=by simpa using hcs
  subst hc
  refine ⟨[],⟨by simp,Nat.zero_le _⟩,?_,E⟩
  simp only [Rd,RdD]
  exact .inl ⟨Y,none,0,E⟩
 ·have hc:c = .slice (some a) len cap:=by simpa using hcs
  subst hc
  rw [hsz] at hget
  have hall:∀ i:Fin len,∃ x,p x ∧ ∃ cs,W.cells? 0 (a.add (i * sz)) sz = some cs ∧ cs.length = sz ∧ Ones cs ∧ RdL κ0 W (cellsOf (e x)) cs:=fun i=>by
   have h1:=hget i.1 i.2
   rw [List.getElem?_eq_getElem (by omega)] at h1
   obtain ⟨cs,h2,h3⟩:=Option.bind_eq_some_iff.1 h1
   obtain ⟨x,h4,h5,h6,h7⟩:=hO _ _ _ h3
   exact ⟨x,h4,cs,h2,h5,h6,h7⟩
  let xs:Fin len → α:=fun i=>Classical.choose (hall i)
  have hxs:∀ i,p (xs i) ∧ ∃ cs,W.cells? 0 (a.add (i.1 * sz)) sz = some cs ∧ cs.length = sz ∧ Ones cs ∧ RdL κ0 W (cellsOf (e (xs i))) cs:=fun i=>Classical.choose_spec (hall i)
  refine ⟨List.ofFn xs,⟨fun x hx=>?_,by simp; omega⟩,?_,E⟩
  ·obtain ⟨i,rfl⟩:=List.mem_ofFn.1 hx
   exact (hxs i).1
  ·simp only [Rd,RdD]
   by_cases hl:len = 0
   ·subst hl
    exact .inl ⟨by simp,_,_,E⟩
   ·have hcell:∀ i:Fin len,∀ j,j < sz → ∃ v,W.cell? ((a.add (i.1 * sz)).add j) = some v:=fun i j hj=>by
     obtain ⟨_,cs,h1,h2,_⟩:=hxs i
     have:=(Aat h1).2 j hj
     rw [List.getElem?_eq_getElem (by omega)] at this
     exact ⟨_,this⟩
    obtain ⟨b,off,spot⟩:=a
    have hspot:spot = none:=by
     obtain ⟨v,hv⟩:=hcell ⟨0,by omega⟩ 0 h0
     simpa [Addr.add] using World.cell?_spot hv
    subst hspot
    have hadd:∀ i j,((⟨b,off,none⟩:Addr).add i).add j = ⟨b,off + i + j,none⟩:=fun i j=>by rw [Addr.add_lit,Addr.add_lit]
    refine .inr ⟨b,off,cap,by simp,by simpa using hlc,?_,?_,fun i hi=>?_⟩
    ·rintro (⟨k,hk⟩ | hk)
     ·cases hk
     ·exact hk
    ·obtain ⟨v,hv⟩:=hcell ⟨0,by omega⟩ 0 h0
     rw [hadd] at hv
     rcases Nat.lt_or_ge b W.heap.size with h | h
     ·exact h
     ·simp [World.cell?,Array.getElem?_eq_none h] at hv
    ·simp only [List.length_ofFn] at hi
     obtain ⟨_,cs,h1,h2,h3,h4⟩:=hxs ⟨i,hi⟩
     obtain ⟨u,g1,g2⟩:=Rd.of_cells (hb _) h3 h4
     refine ⟨u,?_,?_,by rw [g2]; exact h3,fun j hj=>?_⟩
     ·rw [List.getElem_ofFn]
      exact Rd.data _ _ (hd _) g1
     ·have:u.cells.toList.length = sz:=by rw [g2,h2]
      simpa using this
     ·have:=(Aat h1).2 j hj
      rw [hadd] at this
      rw [this,← g2]
      simp
end
end Go.Sy
namespace Go.Sy.YtmelpejjondedaaGreat
open Go.Proofs Go.ChangeShapes Go.WideShapes Go.ChangeAt Go.RowKit
set_option maxRecDepth 100000
section
variable {H:Type} {enc:TypeId × Value → H} {W:World}
def wI (k:IntKind) (z:Int):Prop:=(Lit.int k z).wf = true
theorem Wj:Op1 enc Tryz.prog W 65 (fun l:List Int=>.sl 1 (fun z=>.val (.int .i64 z)) l) (fun l=>(∀ z ∈ l,wI .i64 z) ∧ l.length ≤ maxLen) :=
 C6 Tryz.underlying65 (by kernel_rfl:Tryz.prog.cellsOf 3 = 1) (by decide) (fun _=>rfl) (fun _=>rfl) (Abo Tryz.underlying3)
theorem App:Op1 enc Tryz.prog W 84 (fun l:List Int=>.sl 1 (fun z=>.val (.int .u32 z)) l) (fun l=>(∀ z ∈ l,wI .u32 z) ∧ l.length ≤ maxLen) :=
 C6 Tryz.underlying84 (by kernel_rfl:Tryz.prog.cellsOf 90 = 1) (by decide) (fun _=>rfl) (fun _=>rfl) (Abo Tryz.underlying90)
def Device.In (x:Device):Prop:=wI .i64 x.row ∧ wI .i64 x.prio ∧ x.name.size ≤ maxLen ∧ wI .u64 x.mac ∧ wI .u32 x.vtep
theorem Ag2:OpN enc Tryz.prog W 92 Br Device.In 5:=fun n cs y h=>by
 obtain ⟨xs,m,_,_,hlen,hx,hg⟩:=DataW.trod_struct Tryz.underlying92 h
 have hlen:cs.length = 5:=hlen.trans (by kernel_rfl:Tryz.prog.cellsOf 92 = 5)
 have hx:xs.length = 5:=hx
 match cs,hlen with
 | [c0,c1,c2,c3,c4],_ =>
  have g0:DataW.trod enc Tryz.prog W 0 (fun _=>true) true m 3 (([c0,c1,c2,c3,c4].drop 0).take (Tryz.prog.cellsOf 3)) = xs[0]?:=hg 0 _ rfl
  rw [(by kernel_rfl:Tryz.prog.cellsOf 3 = 1),List.getElem?_eq_getElem (by omega)] at g0
  obtain ⟨z0,p0,r0,o0⟩:=B1 Tryz.underlying3 _ _ _ g0
  have g1:DataW.trod enc Tryz.prog W 0 (fun _=>true) true m 3 (([c0,c1,c2,c3,c4].drop 1).take (Tryz.prog.cellsOf 3)) = xs[1]?:=hg 1 _ rfl
  rw [(by kernel_rfl:Tryz.prog.cellsOf 3 = 1),List.getElem?_eq_getElem (by omega)] at g1
  obtain ⟨z1,p1,r1,o1⟩:=B1 Tryz.underlying3 _ _ _ g1
  have g2:DataW.trod enc Tryz.prog W 0 (fun _=>true) true m 9 (([c0,c1,c2,c3,c4].drop 2).take (Tryz.prog.cellsOf 9)) = xs[2]?:=hg 2 _ rfl
  rw [(by kernel_rfl:Tryz.prog.cellsOf 9 = 1),List.getElem?_eq_getElem (by omega)] at g2
  obtain ⟨z2,p2,r2,o2⟩:=Agx Tryz.underlying9 _ _ _ g2
  have g3:DataW.trod enc Tryz.prog W 0 (fun _=>true) true m 89 (([c0,c1,c2,c3,c4].drop 3).take (Tryz.prog.cellsOf 89)) = xs[3]?:=hg 3 _ rfl
  rw [(by kernel_rfl:Tryz.prog.cellsOf 89 = 1),List.getElem?_eq_getElem (by omega)] at g3
  obtain ⟨z3,p3,r3,o3⟩:=B1 Tryz.underlying89 _ _ _ g3
  have g4:DataW.trod enc Tryz.prog W 0 (fun _=>true) true m 90 (([c0,c1,c2,c3,c4].drop 4).take (Tryz.prog.cellsOf 90)) = xs[4]?:=hg 4 _ rfl
  rw [(by kernel_rfl:Tryz.prog.cellsOf 90 = 1),List.getElem?_eq_getElem (by omega)] at g4
  obtain ⟨z4,p4,r4,o4⟩:=B1 Tryz.underlying90 _ _ _ g4
  refine ⟨⟨z0,z1,z2,z3,z4⟩,⟨p0,p1,p2,p3,p4⟩,E,fun c hc=>?_,?_⟩
  ·simp only [List.mem_cons,List.not_mem_nil,or_false] at hc
   rcases hc with rfl | rfl | rfl | rfl | rfl <;> assumption
  ·simp only [Br,cellsOf,RdL]
   exact ⟨_,_,E,r0,_,_,E,r1,_,_,E,r2,_,_,E,r3,_,_,E,r4,E⟩
def Port.In (x:Port):Prop:=wI .i64 x.row ∧ wI .i64 x.dev ∧ wI .i64 x.native ∧ wI .i64 x.cost ∧ wI .i64 x.link ∧ x.name.size ≤ maxLen ∧ ((∀ z ∈ x.tagged,wI .i64 z) ∧ x.tagged.length ≤ maxLen)
theorem And:OpN enc Tryz.prog W 81 Bh Port.In 7:=fun n cs y h=>by
 obtain ⟨xs,m,_,_,hlen,hx,hg⟩:=DataW.trod_struct Tryz.underlying81 h
 have hlen:cs.length = 7:=hlen.trans (by kernel_rfl:Tryz.prog.cellsOf 81 = 7)
 have hx:xs.length = 7:=hx
 match cs,hlen with
 | [c0,c1,c2,c3,c4,c5,c6],_ =>
  have g0:DataW.trod enc Tryz.prog W 0 (fun _=>true) true m 3 (([c0,c1,c2,c3,c4,c5,c6].drop 0).take (Tryz.prog.cellsOf 3)) = xs[0]?:=hg 0 _ rfl
  rw [(by kernel_rfl:Tryz.prog.cellsOf 3 = 1),List.getElem?_eq_getElem (by omega)] at g0
  obtain ⟨z0,p0,r0,o0⟩:=B1 Tryz.underlying3 _ _ _ g0
  have g1:DataW.trod enc Tryz.prog W 0 (fun _=>true) true m 3 (([c0,c1,c2,c3,c4,c5,c6].drop 1).take (Tryz.prog.cellsOf 3)) = xs[1]?:=hg 1 _ rfl
  rw [(by kernel_rfl:Tryz.prog.cellsOf 3 = 1),List.getElem?_eq_getElem (by omega)] at g1
  obtain ⟨z1,p1,r1,o1⟩:=B1 Tryz.underlying3 _ _ _ g1
  have g2:DataW.trod enc Tryz.prog W 0 (fun _=>true) true m 3 (([c0,c1,c2,c3,c4,c5,c6].drop 2).take (Tryz.prog.cellsOf 3)) = xs[2]?:=hg 2 _ rfl
  rw [(by kernel_rfl:Tryz.prog.cellsOf 3 = 1),List.getElem?_eq_getElem (by omega)] at g2
  obtain ⟨z2,p2,r2,o2⟩:=B1 Tryz.underlying3 _ _ _ g2
  have g3:DataW.trod enc Tryz.prog W 0 (fun _=>true) true m 3 (([c0,c1,c2,c3,c4,c5,c6].drop 3).take (Tryz.prog.cellsOf 3)) = xs[3]?:=hg 3 _ rfl
  rw [(by kernel_rfl:Tryz.prog.cellsOf 3 = 1),List.getElem?_eq_getElem (by omega)] at g3
  obtain ⟨z3,p3,r3,o3⟩:=B1 Tryz.underlying3 _ _ _ g3
  have g4:DataW.trod enc Tryz.prog W 0 (fun _=>true) true m 3 (([c0,c1,c2,c3,c4,c5,c6].drop 4).take (Tryz.prog.cellsOf 3)) = xs[4]?:=hg 4 _ rfl
  rw [(by kernel_rfl:Tryz.prog.cellsOf 3 = 1),List.getElem?_eq_getElem (by omega)] at g4
  obtain ⟨z4,p4,r4,o4⟩:=B1 Tryz.underlying3 _ _ _ g4
  have g5:DataW.trod enc Tryz.prog W 0 (fun _=>true) true m 9 (([c0,c1,c2,c3,c4,c5,c6].drop 5).take (Tryz.prog.cellsOf 9)) = xs[5]?:=hg 5 _ rfl
  rw [(by kernel_rfl:Tryz.prog.cellsOf 9 = 1),List.getElem?_eq_getElem (by omega)] at g5
  obtain ⟨z5,p5,r5,o5⟩:=Agx Tryz.underlying9 _ _ _ g5
  have g6:DataW.trod enc Tryz.prog W 0 (fun _=>true) true m 65 (([c0,c1,c2,c3,c4,c5,c6].drop 6).take (Tryz.prog.cellsOf 65)) = xs[6]?:=hg 6 _ rfl
  rw [(by kernel_rfl:Tryz.prog.cellsOf 65 = 1),List.getElem?_eq_getElem (by omega)] at g6
  obtain ⟨z6,p6,r6,o6⟩:=Wj _ _ _ g6
  refine ⟨⟨z0,z1,z2,z3,z4,z5,z6⟩,⟨p0,p1,p2,p3,p4,p5,p6⟩,E,fun c hc=>?_,?_⟩
  ·simp only [List.mem_cons,List.not_mem_nil,or_false] at hc
   rcases hc with rfl | rfl | rfl | rfl | rfl | rfl | rfl <;> assumption
  ·simp only [Bh,cellsOf,RdL]
   exact ⟨_,_,E,r0,_,_,E,r1,_,_,E,r2,_,_,E,r3,_,_,E,r4,_,_,E,r5,_,_,E,r6,E⟩
def Link.In (x:Link):Prop:=wI .i64 x.row ∧ wI .i64 x.a ∧ wI .i64 x.b
theorem Ane:OpN enc Tryz.prog W 167 Cp Link.In 3:=fun n cs y h=>by
 obtain ⟨xs,m,_,_,hlen,hx,hg⟩:=DataW.trod_struct Tryz.underlying167 h
 have hlen:cs.length = 3:=hlen.trans (by kernel_rfl:Tryz.prog.cellsOf 167 = 3)
 have hx:xs.length = 3:=hx
 match cs,hlen with
 | [c0,c1,c2],_ =>
  have g0:DataW.trod enc Tryz.prog W 0 (fun _=>true) true m 3 (([c0,c1,c2].drop 0).take (Tryz.prog.cellsOf 3)) = xs[0]?:=hg 0 _ rfl
  rw [(by kernel_rfl:Tryz.prog.cellsOf 3 = 1),List.getElem?_eq_getElem (by omega)] at g0
  obtain ⟨z0,p0,r0,o0⟩:=B1 Tryz.underlying3 _ _ _ g0
  have g1:DataW.trod enc Tryz.prog W 0 (fun _=>true) true m 3 (([c0,c1,c2].drop 1).take (Tryz.prog.cellsOf 3)) = xs[1]?:=hg 1 _ rfl
  rw [(by kernel_rfl:Tryz.prog.cellsOf 3 = 1),List.getElem?_eq_getElem (by omega)] at g1
  obtain ⟨z1,p1,r1,o1⟩:=B1 Tryz.underlying3 _ _ _ g1
  have g2:DataW.trod enc Tryz.prog W 0 (fun _=>true) true m 3 (([c0,c1,c2].drop 2).take (Tryz.prog.cellsOf 3)) = xs[2]?:=hg 2 _ rfl
  rw [(by kernel_rfl:Tryz.prog.cellsOf 3 = 1),List.getElem?_eq_getElem (by omega)] at g2
  obtain ⟨z2,p2,r2,o2⟩:=B1 Tryz.underlying3 _ _ _ g2
  refine ⟨⟨z0,z1,z2⟩,⟨p0,p1,p2⟩,E,fun c hc=>?_,?_⟩
  ·simp only [List.mem_cons,List.not_mem_nil,or_false] at hc
   rcases hc with rfl | rfl | rfl <;> assumption
  ·simp only [Cp,cellsOf,RdL]
   exact ⟨_,_,E,r0,_,_,E,r1,_,_,E,r2,E⟩
def Domain.In (x:Domain):Prop:=wI .i64 x.dev ∧ wI .i64 x.vlan ∧ wI .i64 x.vni ∧ wI .i64 x.irb ∧ wI .i64 x.row ∧ ((∀ z ∈ x.peers,wI .i64 z) ∧ x.peers.length ≤ maxLen)
theorem Ag1:OpN enc Tryz.prog W 83 A0 Domain.In 6:=fun n cs y h=>by
 obtain ⟨xs,m,_,_,hlen,hx,hg⟩:=DataW.trod_struct Tryz.underlying83 h
 have hlen:cs.length = 6:=hlen.trans (by kernel_rfl:Tryz.prog.cellsOf 83 = 6)
 have hx:xs.length = 6:=hx
 match cs,hlen with
 | [c0,c1,c2,c3,c4,c5],_ =>
  have g0:DataW.trod enc Tryz.prog W 0 (fun _=>true) true m 3 (([c0,c1,c2,c3,c4,c5].drop 0).take (Tryz.prog.cellsOf 3)) = xs[0]?:=hg 0 _ rfl
  rw [(by kernel_rfl:Tryz.prog.cellsOf 3 = 1),List.getElem?_eq_getElem (by omega)] at g0
  obtain ⟨z0,p0,r0,o0⟩:=B1 Tryz.underlying3 _ _ _ g0
  have g1:DataW.trod enc Tryz.prog W 0 (fun _=>true) true m 3 (([c0,c1,c2,c3,c4,c5].drop 1).take (Tryz.prog.cellsOf 3)) = xs[1]?:=hg 1 _ rfl
  rw [(by kernel_rfl:Tryz.prog.cellsOf 3 = 1),List.getElem?_eq_getElem (by omega)] at g1
  obtain ⟨z1,p1,r1,o1⟩:=B1 Tryz.underlying3 _ _ _ g1
  have g2:DataW.trod enc Tryz.prog W 0 (fun _=>true) true m 3 (([c0,c1,c2,c3,c4,c5].drop 2).take (Tryz.prog.cellsOf 3)) = xs[2]?:=hg 2 _ rfl
  rw [(by kernel_rfl:Tryz.prog.cellsOf 3 = 1),List.getElem?_eq_getElem (by omega)] at g2
  obtain ⟨z2,p2,r2,o2⟩:=B1 Tryz.underlying3 _ _ _ g2
  have g3:DataW.trod enc Tryz.prog W 0 (fun _=>true) true m 3 (([c0,c1,c2,c3,c4,c5].drop 3).take (Tryz.prog.cellsOf 3)) = xs[3]?:=hg 3 _ rfl
  rw [(by kernel_rfl:Tryz.prog.cellsOf 3 = 1),List.getElem?_eq_getElem (by omega)] at g3
  obtain ⟨z3,p3,r3,o3⟩:=B1 Tryz.underlying3 _ _ _ g3
  have g4:DataW.trod enc Tryz.prog W 0 (fun _=>true) true m 3 (([c0,c1,c2,c3,c4,c5].drop 4).take (Tryz.prog.cellsOf 3)) = xs[4]?:=hg 4 _ rfl
  rw [(by kernel_rfl:Tryz.prog.cellsOf 3 = 1),List.getElem?_eq_getElem (by omega)] at g4
  obtain ⟨z4,p4,r4,o4⟩:=B1 Tryz.underlying3 _ _ _ g4
  have g5:DataW.trod enc Tryz.prog W 0 (fun _=>true) true m 65 (([c0,c1,c2,c3,c4,c5].drop 5).take (Tryz.prog.cellsOf 65)) = xs[5]?:=hg 5 _ rfl
  rw [(by kernel_rfl:Tryz.prog.cellsOf 65 = 1),List.getElem?_eq_getElem (by omega)] at g5
  obtain ⟨z5,p5,r5,o5⟩:=Wj _ _ _ g5
  refine ⟨⟨z0,z1,z2,z3,z4,z5⟩,⟨p0,p1,p2,p3,p4,p5⟩,E,fun c hc=>?_,?_⟩
  ·simp only [List.mem_cons,List.not_mem_nil,or_false] at hc
   rcases hc with rfl | rfl | rfl | rfl | rfl | rfl <;> assumption
  ·simp only [A0,cellsOf,RdL]
   exact ⟨_,_,E,r0,_,_,E,r1,_,_,E,r2,_,_,E,r3,_,_,E,r4,_,_,E,r5,E⟩
def Static.In (x:Static):Prop:=wI .i64 x.row ∧ wI .i64 x.domain ∧ wI .i64 x.port ∧ wI .u64 x.mac
theorem Agz:OpN enc Tryz.prog W 196 Bp Static.In 4:=fun n cs y h=>by
 obtain ⟨xs,m,_,_,hlen,hx,hg⟩:=DataW.trod_struct Tryz.underlying196 h
 have hlen:cs.length = 4:=hlen.trans (by kernel_rfl:Tryz.prog.cellsOf 196 = 4)
 have hx:xs.length = 4:=hx
 match cs,hlen with
 | [c0,c1,c2,c3],_ =>
  have g0:DataW.trod enc Tryz.prog W 0 (fun _=>true) true m 3 (([c0,c1,c2,c3].drop 0).take (Tryz.prog.cellsOf 3)) = xs[0]?:=hg 0 _ rfl
  rw [(by kernel_rfl:Tryz.prog.cellsOf 3 = 1),List.getElem?_eq_getElem (by omega)] at g0
  obtain ⟨z0,p0,r0,o0⟩:=B1 Tryz.underlying3 _ _ _ g0
  have g1:DataW.trod enc Tryz.prog W 0 (fun _=>true) true m 3 (([c0,c1,c2,c3].drop 1).take (Tryz.prog.cellsOf 3)) = xs[1]?:=hg 1 _ rfl
  rw [(by kernel_rfl:Tryz.prog.cellsOf 3 = 1),List.getElem?_eq_getElem (by omega)] at g1
  obtain ⟨z1,p1,r1,o1⟩:=B1 Tryz.underlying3 _ _ _ g1
  have g2:DataW.trod enc Tryz.prog W 0 (fun _=>true) true m 3 (([c0,c1,c2,c3].drop 2).take (Tryz.prog.cellsOf 3)) = xs[2]?:=hg 2 _ rfl
  rw [(by kernel_rfl:Tryz.prog.cellsOf 3 = 1),List.getElem?_eq_getElem (by omega)] at g2
  obtain ⟨z2,p2,r2,o2⟩:=B1 Tryz.underlying3 _ _ _ g2
  have g3:DataW.trod enc Tryz.prog W 0 (fun _=>true) true m 89 (([c0,c1,c2,c3].drop 3).take (Tryz.prog.cellsOf 89)) = xs[3]?:=hg 3 _ rfl
  rw [(by kernel_rfl:Tryz.prog.cellsOf 89 = 1),List.getElem?_eq_getElem (by omega)] at g3
  obtain ⟨z3,p3,r3,o3⟩:=B1 Tryz.underlying89 _ _ _ g3
  refine ⟨⟨z0,z1,z2,z3⟩,⟨p0,p1,p2,p3⟩,E,fun c hc=>?_,?_⟩
  ·simp only [List.mem_cons,List.not_mem_nil,or_false] at hc
   rcases hc with rfl | rfl | rfl | rfl <;> assumption
  ·simp only [Bp,cellsOf,RdL]
   exact ⟨_,_,E,r0,_,_,E,r1,_,_,E,r2,_,_,E,r3,E⟩
def Flood.In (x:Flood):Prop:=wI .i64 x.row ∧ wI .i64 x.dev ∧ wI .i64 x.vni ∧ ((∀ z ∈ x.addrs,wI .u32 z) ∧ x.addrs.length ≤ maxLen)
theorem Aku:OpN enc Tryz.prog W 86 B6 Flood.In 4:=fun n cs y h=>by
 obtain ⟨xs,m,_,_,hlen,hx,hg⟩:=DataW.trod_struct Tryz.underlying86 h
 have hlen:cs.length = 4:=hlen.trans (by kernel_rfl:Tryz.prog.cellsOf 86 = 4)
 have hx:xs.length = 4:=hx
 match cs,hlen with
 | [c0,c1,c2,c3],_ =>
  have g0:DataW.trod enc Tryz.prog W 0 (fun _=>true) true m 3 (([c0,c1,c2,c3].drop 0).take (Tryz.prog.cellsOf 3)) = xs[0]?:=hg 0 _ rfl
  rw [(by kernel_rfl:Tryz.prog.cellsOf 3 = 1),List.getElem?_eq_getElem (by omega)] at g0
  obtain ⟨z0,p0,r0,o0⟩:=B1 Tryz.underlying3 _ _ _ g0
  have g1:DataW.trod enc Tryz.prog W 0 (fun _=>true) true m 3 (([c0,c1,c2,c3].drop 1).take (Tryz.prog.cellsOf 3)) = xs[1]?:=hg 1 _ rfl
  rw [(by kernel_rfl:Tryz.prog.cellsOf 3 = 1),List.getElem?_eq_getElem (by omega)] at g1
  obtain ⟨z1,p1,r1,o1⟩:=B1 Tryz.underlying3 _ _ _ g1
  have g2:DataW.trod enc Tryz.prog W 0 (fun _=>true) true m 3 (([c0,c1,c2,c3].drop 2).take (Tryz.prog.cellsOf 3)) = xs[2]?:=hg 2 _ rfl
  rw [(by kernel_rfl:Tryz.prog.cellsOf 3 = 1),List.getElem?_eq_getElem (by omega)] at g2
  obtain ⟨z2,p2,r2,o2⟩:=B1 Tryz.underlying3 _ _ _ g2
  have g3:DataW.trod enc Tryz.prog W 0 (fun _=>true) true m 84 (([c0,c1,c2,c3].drop 3).take (Tryz.prog.cellsOf 84)) = xs[3]?:=hg 3 _ rfl
  rw [(by kernel_rfl:Tryz.prog.cellsOf 84 = 1),List.getElem?_eq_getElem (by omega)] at g3
  obtain ⟨z3,p3,r3,o3⟩:=App _ _ _ g3
  refine ⟨⟨z0,z1,z2,z3⟩,⟨p0,p1,p2,p3⟩,E,fun c hc=>?_,?_⟩
  ·simp only [List.mem_cons,List.not_mem_nil,or_false] at hc
   rcases hc with rfl | rfl | rfl | rfl <;> assumption
  ·simp only [B6,cellsOf,RdL]
   exact ⟨_,_,E,r0,_,_,E,r1,_,_,E,r2,_,_,E,r3,E⟩
def Vrf.In (x:Vrf):Prop:=wI .i64 x.row ∧ wI .i64 x.dev ∧ x.name.size ≤ maxLen ∧ ((∀ z ∈ x.imports,wI .i64 z) ∧ x.imports.length ≤ maxLen) ∧ ((∀ z ∈ x.exports,wI .i64 z) ∧ x.exports.length ≤ maxLen)
theorem Apr:OpN enc Tryz.prog W 88 Cz Vrf.In 5:=fun n cs y h=>by
 obtain ⟨xs,m,_,_,hlen,hx,hg⟩:=DataW.trod_struct Tryz.underlying88 h
 have hlen:cs.length = 5:=hlen.trans (by kernel_rfl:Tryz.prog.cellsOf 88 = 5)
 have hx:xs.length = 5:=hx
 match cs,hlen with
 | [c0,c1,c2,c3,c4],_ =>
  have g0:DataW.trod enc Tryz.prog W 0 (fun _=>true) true m 3 (([c0,c1,c2,c3,c4].drop 0).take (Tryz.prog.cellsOf 3)) = xs[0]?:=hg 0 _ rfl
  rw [(by kernel_rfl:Tryz.prog.cellsOf 3 = 1),List.getElem?_eq_getElem (by omega)] at g0
  obtain ⟨z0,p0,r0,o0⟩:=B1 Tryz.underlying3 _ _ _ g0
  have g1:DataW.trod enc Tryz.prog W 0 (fun _=>true) true m 3 (([c0,c1,c2,c3,c4].drop 1).take (Tryz.prog.cellsOf 3)) = xs[1]?:=hg 1 _ rfl
  rw [(by kernel_rfl:Tryz.prog.cellsOf 3 = 1),List.getElem?_eq_getElem (by omega)] at g1
  obtain ⟨z1,p1,r1,o1⟩:=B1 Tryz.underlying3 _ _ _ g1
  have g2:DataW.trod enc Tryz.prog W 0 (fun _=>true) true m 9 (([c0,c1,c2,c3,c4].drop 2).take (Tryz.prog.cellsOf 9)) = xs[2]?:=hg 2 _ rfl
  rw [(by kernel_rfl:Tryz.prog.cellsOf 9 = 1),List.getElem?_eq_getElem (by omega)] at g2
  obtain ⟨z2,p2,r2,o2⟩:=Agx Tryz.underlying9 _ _ _ g2
  have g3:DataW.trod enc Tryz.prog W 0 (fun _=>true) true m 65 (([c0,c1,c2,c3,c4].drop 3).take (Tryz.prog.cellsOf 65)) = xs[3]?:=hg 3 _ rfl
  rw [(by kernel_rfl:Tryz.prog.cellsOf 65 = 1),List.getElem?_eq_getElem (by omega)] at g3
  obtain ⟨z3,p3,r3,o3⟩:=Wj _ _ _ g3
  have g4:DataW.trod enc Tryz.prog W 0 (fun _=>true) true m 65 (([c0,c1,c2,c3,c4].drop 4).take (Tryz.prog.cellsOf 65)) = xs[4]?:=hg 4 _ rfl
  rw [(by kernel_rfl:Tryz.prog.cellsOf 65 = 1),List.getElem?_eq_getElem (by omega)] at g4
  obtain ⟨z4,p4,r4,o4⟩:=Wj _ _ _ g4
  refine ⟨⟨z0,z1,z2,z3,z4⟩,⟨p0,p1,p2,p3,p4⟩,E,fun c hc=>?_,?_⟩
  ·simp only [List.mem_cons,List.not_mem_nil,or_false] at hc
   rcases hc with rfl | rfl | rfl | rfl | rfl <;> assumption
  ·simp only [Cz,cellsOf,RdL]
   exact ⟨_,_,E,r0,_,_,E,r1,_,_,E,r2,_,_,E,r3,_,_,E,r4,E⟩
def Irb.In (x:Irb):Prop:=wI .i64 x.row ∧ wI .i64 x.domain ∧ wI .i64 x.vrf ∧ wI .u32 x.addr ∧ wI .i64 x.bits
theorem Apt:OpN enc Tryz.prog W 203 Dm Irb.In 5:=fun n cs y h=>by
 obtain ⟨xs,m,_,_,hlen,hx,hg⟩:=DataW.trod_struct Tryz.underlying203 h
 have hlen:cs.length = 5:=hlen.trans (by kernel_rfl:Tryz.prog.cellsOf 203 = 5)
 have hx:xs.length = 4:=hx
 match cs,hlen with
 | [c0,c1,c2,c3,c4],_ =>
  have g0:DataW.trod enc Tryz.prog W 0 (fun _=>true) true m 3 (([c0,c1,c2,c3,c4].drop 0).take (Tryz.prog.cellsOf 3)) = xs[0]?:=hg 0 _ rfl
  rw [(by kernel_rfl:Tryz.prog.cellsOf 3 = 1),List.getElem?_eq_getElem (by omega)] at g0
  obtain ⟨z0,p0,r0,o0⟩:=B1 Tryz.underlying3 _ _ _ g0
  have g1:DataW.trod enc Tryz.prog W 0 (fun _=>true) true m 3 (([c0,c1,c2,c3,c4].drop 1).take (Tryz.prog.cellsOf 3)) = xs[1]?:=hg 1 _ rfl
  rw [(by kernel_rfl:Tryz.prog.cellsOf 3 = 1),List.getElem?_eq_getElem (by omega)] at g1
  obtain ⟨z1,p1,r1,o1⟩:=B1 Tryz.underlying3 _ _ _ g1
  have g2:DataW.trod enc Tryz.prog W 0 (fun _=>true) true m 3 (([c0,c1,c2,c3,c4].drop 2).take (Tryz.prog.cellsOf 3)) = xs[2]?:=hg 2 _ rfl
  rw [(by kernel_rfl:Tryz.prog.cellsOf 3 = 1),List.getElem?_eq_getElem (by omega)] at g2
  obtain ⟨z2,p2,r2,o2⟩:=B1 Tryz.underlying3 _ _ _ g2
  have g3:DataW.trod enc Tryz.prog W 0 (fun _=>true) true m 201 (([c0,c1,c2,c3,c4].drop 3).take (Tryz.prog.cellsOf 201)) = xs[3]?:=hg 3 _ rfl
  rw [(by kernel_rfl:Tryz.prog.cellsOf 201 = 2),List.getElem?_eq_getElem (by omega)] at g3
  obtain ⟨ys,m',_,_,_,hy,hg'⟩:=DataW.trod_struct Tryz.underlying201 g3
  have hy:ys.length = 2:=hy
  have q0:DataW.trod enc Tryz.prog W 0 (fun _=>true) true m' 90 (([c3,c4].drop 0).take (Tryz.prog.cellsOf 90)) = ys[0]?:=hg' 0 _ rfl
  have q1:DataW.trod enc Tryz.prog W 0 (fun _=>true) true m' 3 (([c3,c4].drop 1).take (Tryz.prog.cellsOf 3)) = ys[1]?:=hg' 1 _ rfl
  rw [(by kernel_rfl:Tryz.prog.cellsOf 90 = 1),List.getElem?_eq_getElem (by omega)] at q0
  rw [(by kernel_rfl:Tryz.prog.cellsOf 3 = 1),List.getElem?_eq_getElem (by omega)] at q1
  obtain ⟨z3,p3,r3,o3⟩:=B1 Tryz.underlying90 _ _ _ q0
  obtain ⟨z4,p4,r4,o4⟩:=B1 Tryz.underlying3 _ _ _ q1
  refine ⟨⟨z0,z1,z2,z3,z4⟩,⟨p0,p1,p2,p3,p4⟩,E,fun c hc=>?_,?_⟩
  ·simp only [List.mem_cons,List.not_mem_nil,or_false] at hc
   rcases hc with rfl | rfl | rfl | rfl | rfl <;> assumption
  ·simp only [Dm,cellsOf,RdL]
   exact ⟨_,_,E,r0,_,_,E,r1,_,_,E,r2,_,_,E,r3,_,_,E,r4,E⟩
structure Net.In (n:Net):Prop where
 devices:(∀ x ∈ n.devices,Device.In x) ∧ n.devices.length ≤ maxLen
 ports:(∀ x ∈ n.ports,Port.In x) ∧ n.ports.length ≤ maxLen
 links:(∀ x ∈ n.links,Link.In x) ∧ n.links.length ≤ maxLen
 domains:(∀ x ∈ n.domains,Domain.In x) ∧ n.domains.length ≤ maxLen
 statics:(∀ x ∈ n.statics,Static.In x) ∧ n.statics.length ≤ maxLen
 floods:(∀ x ∈ n.floods,Flood.In x) ∧ n.floods.length ≤ maxLen
 vrfs:(∀ x ∈ n.vrfs,Vrf.In x) ∧ n.vrfs.length ≤ maxLen
 irbs:(∀ x ∈ n.irbs,Irb.In x) ∧ n.irbs.length ≤ maxLen
theorem Aps:OpN enc Tryz.prog W 31 Ap Net.In 8:=fun n cs y h=>by
 obtain ⟨xs,m,_,_,hlen,hx,hg⟩:=DataW.trod_struct Tryz.underlying31 h
 have hlen:cs.length = 8:=hlen.trans (by kernel_rfl:Tryz.prog.cellsOf 31 = 8)
 have hx:xs.length = 8:=hx
 match cs,hlen with
 | [c0,c1,c2,c3,c4,c5,c6,c7],_ =>
  have g0:DataW.trod enc Tryz.prog W 0 (fun _=>true) true m 22 (([c0,c1,c2,c3,c4,c5,c6,c7].drop 0).take (Tryz.prog.cellsOf 22)) = xs[0]?:=hg 0 _ rfl
  rw [(by kernel_rfl:Tryz.prog.cellsOf 22 = 1),List.getElem?_eq_getElem (by omega)] at g0
  obtain ⟨z0,p0,r0,o0⟩:=C6 Tryz.underlying22 (by kernel_rfl:Tryz.prog.cellsOf 92 = 5) (by decide) (fun _=>rfl) (fun _=>rfl) Ag2 _ _ _ g0
  have g1:DataW.trod enc Tryz.prog W 0 (fun _=>true) true m 23 (([c0,c1,c2,c3,c4,c5,c6,c7].drop 1).take (Tryz.prog.cellsOf 23)) = xs[1]?:=hg 1 _ rfl
  rw [(by kernel_rfl:Tryz.prog.cellsOf 23 = 1),List.getElem?_eq_getElem (by omega)] at g1
  obtain ⟨z1,p1,r1,o1⟩:=C6 Tryz.underlying23 (by kernel_rfl:Tryz.prog.cellsOf 81 = 7) (by decide) (fun _=>rfl) (fun _=>rfl) And _ _ _ g1
  have g2:DataW.trod enc Tryz.prog W 0 (fun _=>true) true m 24 (([c0,c1,c2,c3,c4,c5,c6,c7].drop 2).take (Tryz.prog.cellsOf 24)) = xs[2]?:=hg 2 _ rfl
  rw [(by kernel_rfl:Tryz.prog.cellsOf 24 = 1),List.getElem?_eq_getElem (by omega)] at g2
  obtain ⟨z2,p2,r2,o2⟩:=C6 Tryz.underlying24 (by kernel_rfl:Tryz.prog.cellsOf 167 = 3) (by decide) (fun _=>rfl) (fun _=>rfl) Ane _ _ _ g2
  have g3:DataW.trod enc Tryz.prog W 0 (fun _=>true) true m 25 (([c0,c1,c2,c3,c4,c5,c6,c7].drop 3).take (Tryz.prog.cellsOf 25)) = xs[3]?:=hg 3 _ rfl
  rw [(by kernel_rfl:Tryz.prog.cellsOf 25 = 1),List.getElem?_eq_getElem (by omega)] at g3
  obtain ⟨z3,p3,r3,o3⟩:=C6 Tryz.underlying25 (by kernel_rfl:Tryz.prog.cellsOf 83 = 6) (by decide) (fun _=>rfl) (fun _=>rfl) Ag1 _ _ _ g3
  have g4:DataW.trod enc Tryz.prog W 0 (fun _=>true) true m 26 (([c0,c1,c2,c3,c4,c5,c6,c7].drop 4).take (Tryz.prog.cellsOf 26)) = xs[4]?:=hg 4 _ rfl
  rw [(by kernel_rfl:Tryz.prog.cellsOf 26 = 1),List.getElem?_eq_getElem (by omega)] at g4
  obtain ⟨z4,p4,r4,o4⟩:=C6 Tryz.underlying26 (by kernel_rfl:Tryz.prog.cellsOf 196 = 4) (by decide) (fun _=>rfl) (fun _=>rfl) Agz _ _ _ g4
  have g5:DataW.trod enc Tryz.prog W 0 (fun _=>true) true m 27 (([c0,c1,c2,c3,c4,c5,c6,c7].drop 5).take (Tryz.prog.cellsOf 27)) = xs[5]?:=hg 5 _ rfl
  rw [(by kernel_rfl:Tryz.prog.cellsOf 27 = 1),List.getElem?_eq_getElem (by omega)] at g5
  obtain ⟨z5,p5,r5,o5⟩:=C6 Tryz.underlying27 (by kernel_rfl:Tryz.prog.cellsOf 86 = 4) (by decide) (fun _=>rfl) (fun _=>rfl) Aku _ _ _ g5
  have g6:DataW.trod enc Tryz.prog W 0 (fun _=>true) true m 28 (([c0,c1,c2,c3,c4,c5,c6,c7].drop 6).take (Tryz.prog.cellsOf 28)) = xs[6]?:=hg 6 _ rfl
  rw [(by kernel_rfl:Tryz.prog.cellsOf 28 = 1),List.getElem?_eq_getElem (by omega)] at g6
  obtain ⟨z6,p6,r6,o6⟩:=C6 Tryz.underlying28 (by kernel_rfl:Tryz.prog.cellsOf 88 = 5) (by decide) (fun _=>rfl) (fun _=>rfl) Apr _ _ _ g6
  have g7:DataW.trod enc Tryz.prog W 0 (fun _=>true) true m 29 (([c0,c1,c2,c3,c4,c5,c6,c7].drop 7).take (Tryz.prog.cellsOf 29)) = xs[7]?:=hg 7 _ rfl
  rw [(by kernel_rfl:Tryz.prog.cellsOf 29 = 1),List.getElem?_eq_getElem (by omega)] at g7
  obtain ⟨z7,p7,r7,o7⟩:=C6 Tryz.underlying29 (by kernel_rfl:Tryz.prog.cellsOf 203 = 5) (by decide) (fun _=>rfl) (fun _=>rfl) Apt _ _ _ g7
  refine ⟨⟨z0,z1,z2,z3,z4,z5,z6,z7⟩,⟨p0,p1,p2,p3,p4,p5,p6,p7⟩,E,fun c hc=>?_,?_⟩
  ·simp only [List.mem_cons,List.not_mem_nil,or_false] at hc
   rcases hc with rfl | rfl | rfl | rfl | rfl | rfl | rfl | rfl <;> assumption
  ·simp only [Ap,cellsOf,RdL]
   exact ⟨_,_,E,r0,_,_,E,r1,_,_,E,r2,_,_,E,r3,_,_,E,r4,_,_,E,r5,_,_,E,r6,_,_,E,r7,E⟩
theorem Akk {t:TypeId} {fs:Array Field} {α:Type} {e:α → SV} {p:α → Prop} {sz base:Nat} {v:Value} {d:DataW H} {ps:List MemPlace} (ht:Tryz.prog.underlying t = some (.struct fs)) (hO:OpN enc Tryz.prog W t e p sz) (he:∀ x,e x = .agg (cellsOf (e x)))
  (hval:Value.okWide Tryz.prog W .any base t v) (h1:DataW.Trod enc Tryz.prog W 0 (fun _=>true) true t v d ps):∃ x,p x ∧ Rd κ0 W (e x) v:=by
 obtain ⟨cs,rfl,_⟩:=okWide_struct ht hval
 obtain ⟨fuel,hf⟩:=h1
 obtain ⟨x,h1,_,h2,h3⟩:=hO _ _ _ hf
 refine ⟨x,h1,?_⟩
 rw [he x]
 simp only [Rd]
 exact ⟨cs.toList,by simp,by simpa [Value.cells] using h2,by simpa [Value.cells] using h3⟩
theorem rd_net {base:Nat} {v:Value} {d:DataW H} {ps:List MemPlace} (hval:Value.okWide Tryz.prog W .any base 31 v) (h1:DataW.Trod enc Tryz.prog W 0 (fun _=>true) true 31 v d ps):∃ n:Net,n.In ∧ Rd κ0 W (Ap n) v :=
 Akk Tryz.underlying31 Aps (fun _=>rfl) hval h1
theorem Adu {t et:TypeId} {α:Type} {e:α → SV} {p:List α → Prop} {sz base:Nat} {v:Value} {d:DataW H} {ps:List MemPlace} (ht:Tryz.prog.underlying t = some (.slice et)) (hO:Op1 enc Tryz.prog W t (fun l:List α=>.sl sz e l) p)
  (hval:Value.okWide Tryz.prog W .any base t v) (h1:DataW.Trod enc Tryz.prog W 0 (fun _=>true) true t v d ps):∃ l,p l ∧ Rd κ0 W (.sl sz e l) v:=by
 obtain ⟨a,len,cap,rfl⟩:=okWide_slice ht hval
 obtain ⟨fuel,hf⟩:=h1
 obtain ⟨x,h1,h2,_⟩:=hO _ _ _ hf
 exact ⟨x,h1,h2⟩
end
end Go.Sy.YtmelpejjondedaaGreat
namespace Go.Sy.YtmelpejjondedaaGreat
open Go.Proofs
attribute [local irreducible] Go.Sy.G Go.Sy.DR
set_option maxRecDepth 100000
set_option maxHeartbeats 4000000
theorem Akx {n:Net} (h:n.In):n.Num:=by
 refine ⟨fun x hx=>?_,fun x hx=>?_⟩
 ·have:=(h.devices.1 x hx).2.2.2.2
  simp only [wI,Lit.wf,decide_eq_true_eq,Bool.and_eq_true] at this
  exact ⟨this.1,Int.lt_of_le_of_lt this.2 (by decide)⟩
 ·have:=(h.irbs.1 x hx).2.2.2.1
  simp only [wI,Lit.wf,decide_eq_true_eq,Bool.and_eq_true] at this
  exact ⟨this.1,Int.lt_of_le_of_lt this.2 (by decide)⟩
def netW33:Net:=⟨[⟨0,0,⟨#[97]⟩,0,0⟩],[⟨0,0,10,1,-1,⟨#[112]⟩,[]⟩,⟨0,0,10,1,-1,⟨#[113]⟩,[]⟩],[],[⟨0,10,0,-1,0,[]⟩],[],[],[],[]⟩
theorem finW33:netW33.Fin:=by
 constructor <;> first | (unfold Aq; decide) | (intro x hx; unfold Aq; simp only [netW33,List.mem_cons,List.not_mem_nil,or_false] at hx; first | (subst hx; decide) | (rcases hx with rfl | rfl <;> decide) | exact hx.elim)
theorem numW33:netW33.Num:=by
 refine ⟨fun x hx=>?_,fun x hx=>?_⟩
 ·simp only [netW33,List.mem_cons,List.not_mem_nil,or_false] at hx
  subst hx
  decide
 ·cases hx
def Ok:FrameM:=⟨281474976710655,5,0,[]⟩
theorem Aes:FrameOK Ok:=by constructor <;> decide
def bytesW33:List UInt8:=Th Ok
def Mr:List StepM:=[⟨1,0,0,0,bytesW33,[]⟩,⟨2,0,0,0,[],[]⟩]
theorem runW33:runT netW33 Mr = ([⟨1,1,bytesW33⟩],0):=by kernel_rfl
theorem Ajy:ScriptOK Mr:=by
 refine ⟨by decide,fun x hx=>?_⟩
 simp only [Mr,List.mem_cons,List.not_mem_nil,or_false] at hx
 rcases hx with rfl | rfl
 ·show bytesW33.length ≤ 2000
  decide +kernel
 ·decide
theorem Mo:Sy.Spec Tryz.prog 12 [] [] (Ad true) []:=Ab Γ hm 100 F12 Tryz.ntmps12 rfl fun F hF=>by
 have q1:=Ll Ok Aes
 rw [show Th Ok = bytesW33 from rfl] at q1
 have q2:=Apf netW33 finW33 numW33 Mr Ajy
 rw [runW33] at q2
 have hst:Mr = [⟨1,0,0,0,bytesW33,[]⟩,⟨2,0,0,0,[],[]⟩]:=rfl
 rw [hst] at q2
 clear hst
 generalize bytesW33 = bs at *
 have q3:=Ajx ⟨0,0,0,0,[],[]⟩
 conv=>whnf
 refine Eb 9 Br netW33.devices E E ?_
 refine As 9 E ?_
 refine Oz 12 (netW33.ports.map Bh) E (.cons (.agg (.cons (.refl _) (.cons (.refl _) (.cons (.refl _) (.cons (.refl _) (.cons (.refl _) (.cons (.refl _) (.cons .nil .nil)))))))) (.cons (.agg (.cons (.refl _) (.cons (.refl _) (.cons (.refl _) (.cons (.refl _) (.cons (.refl _) (.cons (.refl _) (.cons .nil .nil)))))))) .nil)) E ?_
 refine Eb 12 Bh netW33.ports E E ?_
 refine As 12 E ?_
 refine Oz 14 (netW33.domains.map A0) E (.cons (.agg (.cons (.refl _) (.cons (.refl _) (.cons (.refl _) (.cons (.refl _) (.cons (.refl _) (.cons .nil .nil))))))) .nil) E ?_
 refine Eb 14 A0 netW33.domains E E ?_
 refine As 14 E ?_
 refine Av 1 (Aky netW33) E (.cons (.refl _) (.cons (.refl _) (.cons .nil (.cons (.refl _) (.cons .nil (.cons .nil (.cons .nil (.cons .nil .nil)))))))) ?_
 refine rg ?_;conv=>whnf
 refine G_vw 17 (Bc Ok) (.agg (.cons (.refl _) (.cons (.refl _) (.cons (.refl _) (.cons .nil .nil))))) ?_
 refine Ai (Ak [(0,55)] E F33 q1 E Y E ⟨.inr E,Y⟩) E E ?_
 refine As 55 E ?_
 refine rg ?_;conv=>whnf
 refine Oz 26 [Dr ⟨1,0,0,0,bs,[]⟩,Dr ⟨2,0,0,0,[],[]⟩] E (.cons (.agg (.cons (.refl _) (.cons (.refl _) (.cons (.refl _) (.cons (.refl _) (.cons (.refl _) (.cons .nil .nil))))))) (.cons (.agg (.cons (.refl _) (.cons (.refl _) (.cons (.refl _) (.cons (.refl _) (.cons .nil (.cons .nil .nil))))))) .nil)) E ?_
 refine Eb 26 Dr [⟨1,0,0,0,bs,[]⟩,⟨2,0,0,0,[],[]⟩] E E ?_
 refine As 26 E ?_
 refine Ag q2 F13 E E E E E ?_
 refine rg ?_;conv=>whnf
 refine G_vw 31 (Dr ⟨0,0,0,0,[],[]⟩) (.agg (.cons (.refl _) (.cons (.refl _) (.cons (.refl _) (.cons (.refl _) (.cons .nil (.cons .nil .nil))))))) ?_
 refine Ag q3 F21 E E E E E ?_
 (refine rg ?_;(conv=>whnf);refine aT ?_;refine rd (by kernel_rfl) ?_;(conv=>whnf);refine aT ?_;refine rd (by kernel_rfl) ?_;conv=>whnf)
 refine ⟨E,by decide,Nat.zero_lt_one,?_⟩
 ((conv=>whnf);refine aT ?_;refine rd (by kernel_rfl) ?_;conv=>whnf)
 refine ⟨E,by decide,Nat.zero_lt_one,?_⟩
 ((conv=>whnf);refine aT ?_;refine rd (by kernel_rfl) ?_;conv=>whnf)
 refine ⟨E,by decide,Nat.zero_lt_one,?_⟩
 conv=>whnf
 refine Bi (Dh Γ.toTy (bs:=bs) E E E E E E E .sl) (by kernel_rfl) E ?_
 refine rd (by kernel_rfl) ?_;conv=>whnf
 refine Bi (Dh Γ.toTy (bs:=bs) E E E E E E E .sl) (by kernel_rfl) E ?_
 refine rd (by kernel_rfl) ?_;conv=>whnf
 refine ⟨fun _=>?_,fun h=>False.elim (by simp [Oq] at h)⟩
 refine rd (by kernel_rfl) ?_;conv=>whnf
 refine ⟨(by kernel_rfl),?_⟩
 conv=>whnf
 exact Ac E (.cons .tmp .nil) E E
def Qn (l:List (List QueuedM)):Nat:=(l.map List.length).sum
theorem Ws (l:List (List QueuedM)) (j:Nat) (hj:j < l.length):Qn (l.take (j + 1)) = Qn (l.take j) + l[j].length:=by
 unfold Qn
 rw [List.take_succ_eq_append_getElem hj]
 simp only [List.map_append,List.sum_append,List.map_cons,List.map_nil,List.sum_cons,List.sum_nil]
 omega
theorem S1:∀ (l:List (List QueuedM)),(∀ x ∈ l,Dp x) → Qn l ≤ 64 * l.length
 | [],_=>by simp [Qn]
 | x :: l,h=>by
  have h1:=S1 l (fun y hy=>h y (by simp [hy]))
  have h2:=(h x (by simp)).1
  unfold Qn at h1 ⊢
  simp only [List.map_cons,List.sum_cons,List.length_cons]
  omega
theorem Ac4 (n:Net) (m:MacM) (d:Bool) (hl:m.queues.length < 2147483648) (hq:∀ x ∈ m.queues,Dp x) :
  Sy.Spec Tryz.prog 61 [.ptr 0 0] (B8 n m d) (Aa (Qn m.queues)) (B8 n m d):=Ab Γ hm 100 F61 Tryz.ntmps61 rfl fun F hF=>by
 ((conv=>whnf);refine aT ?_;refine rg ?_;conv=>whnf)
 refine Au m.queues.length (fun j=>[(3,Aa (Qn (m.queues.take j))),(11,.osl 3),(12,Aa m.queues.length),(13,Aa j)]) (fun _=>B8 n m d) [] ⟨⟨E,E,E,E,E,E,E,E,Y⟩,⟨.inl E,E,.inl E,E,.inl E,E,.inl E,E,Y⟩,E,E⟩ ?_
 intro j hj
 refine rg ?_;conv=>whnf
 refine ⟨fun h=>?_,fun h=>?_⟩
 ·have hlt:j < m.queues.length:=by have:=of_decide_eq_true h; omega
  have hj0:((j:Nat):Int).toNat < m.queues.length:=by simpa using hlt
  obtain ⟨t,hoo⟩:∃ t,m.queues[j] = t:=⟨_,rfl⟩
  have e1:m.queues[((j:Nat):Int).toNat]'hj0 = t:=hoo
  have hs:=Ws m.queues j hlt
  rw [hoo] at hs
  have hb:=S1 (m.queues.take (j + 1)) (fun x hx=>hq x (List.mem_of_mem_take hx))
  have hjl:(m.queues.take (j + 1)).length = j + 1:=by rw [List.length_take]; omega
  rw [hjl,hs] at hb
  clear h
  refine rg ?_;conv=>whnf
  refine ⟨by omega,hj0,?_⟩
  conv=>whnf
  refine ⟨E,hj0,?_⟩
  rw [e1]
  conv=>whnf
  refine ⟨by unfold I64; omega,?_⟩
  conv=>whnf
  refine ⟨by unfold I64; omega,?_⟩
  conv=>whnf
  exact Ar [] hlt ⟨⟨congrArg (fun z:Nat=>Aa z) hs,E,E,E,E,E,E,E,Y⟩,⟨.inl E,E,.inl E,E,.inl E,E,.inl E,E,Y⟩,E,E⟩
 ·have hjj:j = m.queues.length:=by have:=of_decide_eq_false h; omega
  subst hjj
  rw [List.take_length]
  clear h
  refine rg ?_;conv=>whnf
  exact done E (.cons .tmp .nil) [] (B8 n m d) (fun _ h=>h) E E ⟨Y,⟨.inl E,E,.inl E,E,.inl E,E,.inl E,E,Y⟩,E,E⟩
def Yx (n:Net) (m:MacM) (d:Bool):Obs:=[(0,.box (V9 n 1 m.now m.injected m.drops)),(1,.box (Mj n m.up d)),(2,.row 1 H8 m.tables),(3,.row 1 La m.queues),(200,.box (Il n m.up m.now m.injected m.drops)),(902,.row 1 H8 m.tables),(903,.row 1 La m.queues)]
theorem alikeS (n:Net) (hn:n.Fin) (m:MacM) (d:Bool) (J D:Int) (hm0:MacOK n m J D) (hD:D ≤ 1000000000000) :
  Sy.Spec Tryz.prog 22 [.ptr 0 0,.ptr 200 0] (Yx n m d) (Ad true) (Yx n m d):=Ab Γ hm 100 F22 Tryz.ntmps22 rfl fun F hF=>by
 have hql:m.queues.length < 2147483648:=by rw [hm0.ques]; exact hn.domains
 have htq:m.tables.length = m.queues.length:=by rw [hm0.tabs,hm0.ques]
 have hqq:=hm0.que
 conv=>whnf
 refine Au m.queues.length (fun j=>[(0,.ptr 0 0),(1,.ptr 200 0),(5,Aa (Qn (m.queues.take j))),(6,Aa j)]) (fun _=>Yx n m d) [] ⟨⟨E,E,E,E,E,E,E,E,Y⟩,⟨.inl E,E,.inl E,E,.inl E,E,.inl E,E,.inl E,E,.inl E,E,.inl E,E,Y⟩,E,E⟩ ?_
 intro j hj
 refine rg ?_;conv=>whnf
 refine ⟨fun h=>?_,fun h=>?_⟩
 ·have hlt:j < m.queues.length:=by have:=of_decide_eq_true h; omega
  have hj0:((j:Nat):Int).toNat < m.queues.length:=by simpa using hlt
  have hj1:((j:Nat):Int).toNat < m.tables.length:=by rw [htq]; exact hj0
  obtain ⟨q,hoo⟩:∃ q,m.queues[j] = q:=⟨_,rfl⟩
  have e1:m.queues[((j:Nat):Int).toNat]'hj0 = q:=hoo
  obtain ⟨t,hot⟩:∃ t,m.tables[((j:Nat):Int).toNat]'hj1 = t:=⟨_,rfl⟩
  have hs:=Ws m.queues j hlt
  rw [hoo] at hs
  have hb:=S1 (m.queues.take (j + 1)) (fun x hx=>hqq x (List.mem_of_mem_take hx))
  have hjl:(m.queues.take (j + 1)).length = j + 1:=by rw [List.length_take]; omega
  rw [hjl,hs] at hb
  have hpl:Am (j:Int) m.queues.length = true:=placeB_iff.2 ⟨by omega,by simpa using hlt⟩
  have hqe:queueL m (j:Int) = q:=by unfold queueL; rw [H4 hj0]; exact e1
  have hte:tableL m (j:Int) = t:=by unfold tableL; rw [H4 hj1]; exact hot
  have hqo:=hqq q (by rw [← hoo]; exact List.getElem_mem hlt)
  have hto:=(hm0.tab t (by rw [← hot]; exact List.getElem_mem hj1)).short
  unfold Aq at hto
  have q1:=Ajt n m d j (by rw [hqe]; exact hqo)
  have q2:=Ajs n m d j htq (by rw [hte]; omega)
  rw [hpl,hqe] at q1
  rw [hpl,hte] at q2
  have q3:=Af7 q (by have:=hqo.1; omega)
  have q4:=Age t (by omega)
  clear h
  refine rg ?_;conv=>whnf
  refine ⟨by omega,hj0,?_⟩
  conv=>whnf
  refine ⟨E,hj0,?_⟩
  rw [e1]
  conv=>whnf
  refine ⟨by unfold I64; omega,?_⟩
  conv=>whnf
  (refine ⟨fun h=>False.elim (by simp at h; omega),fun _=>?_⟩;refine rd (by kernel_rfl) ?_;conv=>whnf)
  refine W1 (Ak [] E F57 q1 E ⟨E,E,E,E,Y⟩ E ⟨.inl E,.inl E,.inl E,.inl E,Y⟩) ⟨E,E,E,E,Y⟩ (by kernel_rfl) E ?_
  refine rd (by kernel_rfl) ?_;conv=>whnf
  refine ⟨by omega,hj0,?_⟩
  conv=>whnf
  refine ⟨E,hj0,?_⟩
  rw [e1]
  conv=>whnf
  refine At q3 F56 E E E (by kernel_rfl) E ?_
  (refine rd (by kernel_rfl) ?_;(conv=>whnf);refine aF ?_;refine rd (by kernel_rfl) ?_;conv=>whnf)
  (skip)
  refine W1 (Ak [] E F59 q2 E ⟨E,E,E,E,Y⟩ E ⟨.inl E,.inl E,.inl E,.inl E,Y⟩) ⟨E,E,E,E,Y⟩ (by kernel_rfl) E ?_
  refine rd (by kernel_rfl) ?_;conv=>whnf
  refine ⟨by omega,hj1,?_⟩
  conv=>whnf
  refine ⟨E,hj1,?_⟩
  conv=>whnf
  refine At q4 F58 E (congrArg (fun z=>[SV.sl 3 Al t,SV.sl 3 Al z]) hot.symm) E (by kernel_rfl) E ?_
  refine rd (by kernel_rfl) ?_;conv=>whnf
  refine ⟨(by kernel_rfl),?_⟩
  ((conv=>whnf);refine aF ?_;refine rg ?_;conv=>whnf)
  (skip)
  refine ⟨by unfold I64; omega,?_⟩
  conv=>whnf
  exact Ar [] hlt ⟨⟨E,E,E,E,congrArg (fun z:Nat=>Aa z) hs,E,E,E,Y⟩,⟨.inl E,E,.inl E,E,.inl E,E,.inl E,E,.inl E,E,.inl E,E,.inl E,E,Y⟩,E,E⟩
 have hjj:j = m.queues.length:=by have:=of_decide_eq_false h; omega
 subst hjj
 rw [List.take_length]
 clear h
 have hw:=S1 m.queues hqq
 refine rg ?_;conv=>whnf
 refine Au 64 (fun j=>[(0,.ptr 0 0),(1,.ptr 200 0),(5,Aa (Qn m.queues)),(7,Aa j)]) (fun _=>Yx n m d) [] ⟨⟨E,E,E,E,E,E,E,E,Y⟩,⟨.inl E,E,.inl E,E,.inl E,E,.inl E,E,.inl E,E,.inl E,E,.inl E,E,Y⟩,E,E⟩ ?_
 intro e he
 refine rg ?_;conv=>whnf
 refine ⟨fun h=>?_,fun h=>?_⟩
 ·have hlt:e < 64:=by have:=of_decide_eq_true h; omega
  have q1:=dropsS n m d (e:Int)
  rw [show dropsT m (e:Int) = m.drops e by unfold dropsT; rw [if_pos (by omega),Int.toNat_natCast]] at q1
  have hbe:=hm0.drp e
  have hg:E0 ⟨.int .i64,1,[.int .i64 0]⟩ (Il n m.up m.now m.injected m.drops) (0 + 13 + ((e:Nat):Int).toNat * 1) = some (.val (.int .i64 (m.drops e))):=H5 n m.up m.now m.injected m.drops e hlt
  clear h
  refine rg ?_;conv=>whnf
  refine W1 (Ak [] E F60 q1 E ⟨E,E,E,E,Y⟩ E ⟨.inl E,.inl E,.inl E,.inl E,Y⟩) ⟨E,E,E,E,Y⟩ (by kernel_rfl) E ?_
  refine rd (by kernel_rfl) ?_;conv=>whnf
  refine ⟨by omega,by omega,?_⟩
  conv=>whnf
  refine Abp ?_ hg
  conv=>whnf
  refine ⟨(by kernel_rfl),?_⟩
  conv=>whnf
  (refine ⟨fun h=>False.elim (by simp at h),fun _=>?_⟩;refine rg ?_;conv=>whnf)
  refine ⟨by unfold I64; omega,?_⟩
  conv=>whnf
  exact Ar [] hlt ⟨⟨E,E,E,E,E,E,E,E,Y⟩,⟨.inl E,E,.inl E,E,.inl E,E,.inl E,E,.inl E,E,.inl E,E,.inl E,E,Y⟩,E,E⟩
 have q1:=Ac4 n m d hql hqq
 have q2:=Apg n m d
 clear h
 refine rg ?_;conv=>whnf
 refine W1 (Ak [] E F61 q1 E ⟨E,E,E,E,Y⟩ E ⟨.inl E,.inl E,.inl E,.inl E,Y⟩) ⟨E,E,E,E,Y⟩ (by kernel_rfl) E ?_
 refine rd (by kernel_rfl) ?_;conv=>whnf
 (refine ⟨fun _=>?_,fun h=>False.elim (by simp at h)⟩;refine rd (by kernel_rfl) ?_;conv=>whnf)
 refine W1 (Ak [] E F62 q2 E ⟨E,E,E,E,Y⟩ E ⟨.inl E,.inl E,.inl E,.inl E,Y⟩) ⟨E,E,E,E,Y⟩ (by kernel_rfl) E ?_
 refine rd (by kernel_rfl) ?_;conv=>whnf
 refine ⟨(by kernel_rfl),?_⟩
 conv=>whnf
 refine done E (.cons .tmp .nil) [] (Yx n m d) (fun _ h=>h) ?_ E ⟨Y,⟨.inl E,E,.inl E,E,.inl E,E,.inl E,E,.inl E,E,.inl E,E,.inl E,E,Y⟩,E,E⟩
 trace_state
 exact congrArg Ad (by simp)
end Go.Sy.YtmelpejjondedaaGreat
namespace Go.Sy.YtmelpejjondedaaGreat
open Go.Proofs Go.ChangeShapes Go.WideShapes Go.ChangeAt Go.RowKit
set_option maxRecDepth 100000
section
variable {H:Type} {enc:TypeId × Value → H} {W:World}
theorem Anb {P:Program} {t:TypeId} (ht:P.underlying t = some (.int .u8)):OpN enc P W t Aj (fun _=>True) 1:=fun n cs y h=>by
 obtain ⟨z,h1,h2,h3,h4⟩:=Abo ht n cs y h
 have hz:0 ≤ z ∧ z < 256:=by
  simp only [Lit.wf,Bool.and_eq_true,decide_eq_true_eq] at h1
  have a:=h1.1
  have b:=h1.2
  simp only [IntKind.min,IntKind.max,IntKind.signed,IntKind.bits] at a b
  constructor <;> simp at a b <;> omega
 refine ⟨UInt8.ofNat z.toNat,Y,h2,h3,?_⟩
 have e:Aj (UInt8.ofNat z.toNat) = .val (.int .u8 z):=by
  rw [Aj,UInt8.toNat_ofNat_of_lt' (by show _ < 256; omega),Int.toNat_of_nonneg hz.1]
 rw [e]; exact h4
theorem Am8:Op1 enc Tryz.prog W 44 (fun l:List UInt8=>.sl 1 Aj l) (fun l=>(∀ x ∈ l,True) ∧ l.length ≤ maxLen) :=
 C6 Tryz.underlying44 (by kernel_rfl:Tryz.prog.cellsOf 5 = 1) (by decide) (fun _=>rfl) (fun _=>rfl) (Anb Tryz.underlying5)
theorem Am9:Op1 enc Tryz.prog W 45 (fun l:List Bool=>.sl 1 Ad l) (fun l=>(∀ x ∈ l,True) ∧ l.length ≤ maxLen) :=
 C6 Tryz.underlying45 (by kernel_rfl:Tryz.prog.cellsOf 4 = 1) (by decide) (fun _=>rfl) (fun _=>rfl) (Anc Tryz.underlying4)
def StepM.In (x:StepM):Prop:=wI .i64 x.kind ∧ wI .i64 x.port ∧ wI .i64 x.domain ∧ wI .i64 x.at_ ∧ ((∀ y ∈ x.bytes,True) ∧ x.bytes.length ≤ maxLen) ∧ ((∀ y ∈ x.up,True) ∧ x.up.length ≤ maxLen)
theorem Akt:OpN enc Tryz.prog W 47 Dr StepM.In 6:=fun n cs y h=>by
 obtain ⟨xs,m,_,_,hlen,hx,hg⟩:=DataW.trod_struct Tryz.underlying47 h
 have hlen:cs.length = 6:=hlen.trans (by kernel_rfl:Tryz.prog.cellsOf 47 = 6)
 have hx:xs.length = 6:=hx
 match cs,hlen with
 | [c0,c1,c2,c3,c4,c5],_ =>
  have g0:DataW.trod enc Tryz.prog W 0 (fun _=>true) true m 3 (([c0,c1,c2,c3,c4,c5].drop 0).take (Tryz.prog.cellsOf 3)) = xs[0]?:=hg 0 _ rfl
  rw [(by kernel_rfl:Tryz.prog.cellsOf 3 = 1),List.getElem?_eq_getElem (by omega)] at g0
  obtain ⟨z0,p0,r0,o0⟩:=B1 Tryz.underlying3 _ _ _ g0
  have g1:DataW.trod enc Tryz.prog W 0 (fun _=>true) true m 3 (([c0,c1,c2,c3,c4,c5].drop 1).take (Tryz.prog.cellsOf 3)) = xs[1]?:=hg 1 _ rfl
  rw [(by kernel_rfl:Tryz.prog.cellsOf 3 = 1),List.getElem?_eq_getElem (by omega)] at g1
  obtain ⟨z1,p1,r1,o1⟩:=B1 Tryz.underlying3 _ _ _ g1
  have g2:DataW.trod enc Tryz.prog W 0 (fun _=>true) true m 3 (([c0,c1,c2,c3,c4,c5].drop 2).take (Tryz.prog.cellsOf 3)) = xs[2]?:=hg 2 _ rfl
  rw [(by kernel_rfl:Tryz.prog.cellsOf 3 = 1),List.getElem?_eq_getElem (by omega)] at g2
  obtain ⟨z2,p2,r2,o2⟩:=B1 Tryz.underlying3 _ _ _ g2
  have g3:DataW.trod enc Tryz.prog W 0 (fun _=>true) true m 3 (([c0,c1,c2,c3,c4,c5].drop 3).take (Tryz.prog.cellsOf 3)) = xs[3]?:=hg 3 _ rfl
  rw [(by kernel_rfl:Tryz.prog.cellsOf 3 = 1),List.getElem?_eq_getElem (by omega)] at g3
  obtain ⟨z3,p3,r3,o3⟩:=B1 Tryz.underlying3 _ _ _ g3
  have g4:DataW.trod enc Tryz.prog W 0 (fun _=>true) true m 44 (([c0,c1,c2,c3,c4,c5].drop 4).take (Tryz.prog.cellsOf 44)) = xs[4]?:=hg 4 _ rfl
  rw [(by kernel_rfl:Tryz.prog.cellsOf 44 = 1),List.getElem?_eq_getElem (by omega)] at g4
  obtain ⟨z4,p4,r4,o4⟩:=Am8 _ _ _ g4
  have g5:DataW.trod enc Tryz.prog W 0 (fun _=>true) true m 45 (([c0,c1,c2,c3,c4,c5].drop 5).take (Tryz.prog.cellsOf 45)) = xs[5]?:=hg 5 _ rfl
  rw [(by kernel_rfl:Tryz.prog.cellsOf 45 = 1),List.getElem?_eq_getElem (by omega)] at g5
  obtain ⟨z5,p5,r5,o5⟩:=Am9 _ _ _ g5
  refine ⟨⟨z0,z1,z2,z3,z4,z5⟩,⟨p0,p1,p2,p3,p4,p5⟩,E,fun c hc=>?_,?_⟩
  ·simp only [List.mem_cons,List.not_mem_nil,or_false] at hc
   rcases hc with rfl | rfl | rfl | rfl | rfl | rfl <;> assumption
  ·simp only [Dr,cellsOf,RdL]
   exact ⟨_,_,E,r0,_,_,E,r1,_,_,E,r2,_,_,E,r3,_,_,E,r4,_,_,E,r5,E⟩
theorem Am7:Op1 enc Tryz.prog W 32 (fun l:List StepM=>.sl 6 Dr l) (fun l=>(∀ x ∈ l,StepM.In x) ∧ l.length ≤ maxLen) :=
 C6 Tryz.underlying32 (by kernel_rfl:Tryz.prog.cellsOf 47 = 6) (by decide) (fun _=>rfl) (fun _=>rfl) Akt
def SeenM.In (x:SeenM):Prop:=wI .i64 x.port ∧ wI .i64 x.origin ∧ ((∀ y ∈ x.bytes,True) ∧ x.bytes.length ≤ maxLen)
theorem op_mac:Op1 enc Tryz.prog W 89 (fun m:Nat=>Ay m) (fun m=>m < 18446744073709551616):=fun n c y h=>by
 obtain ⟨z,h1,h2,h3⟩:=B1 (k:=.u64) Tryz.underlying89 n c y h
 have hz:0 ≤ z ∧ z < 18446744073709551616:=by
  simp only [Lit.wf,Bool.and_eq_true,decide_eq_true_eq] at h1
  have a:=h1.1
  have b:=h1.2
  simp only [IntKind.min,IntKind.max,IntKind.signed,IntKind.bits] at a b
  constructor <;> simp at a b <;> omega
 refine ⟨z.toNat,by omega,?_,h3⟩
 show Rd κ0 W (.val (.int .u64 ((z.toNat:Nat):Int))) c
 rw [show ((z.toNat:Nat):Int) = z by omega]
 exact h2
theorem Agy {t et:TypeId} {α:Type} {e:α → SV} {p:α → Prop} {sz:Nat} (ht:Tryz.prog.underlying t = some (.slice et)) (hO:Op1 enc Tryz.prog W t (fun l:List α=>.sl sz e l) (fun l=>(∀ x ∈ l,p x) ∧ l.length ≤ maxLen)) :
  OpN enc Tryz.prog W t (fun l:List α=>.sl sz e l) (fun l=>(∀ x ∈ l,p x) ∧ l.length ≤ maxLen) 1:=fun n cs y h=>by
 have h1:∃ c,cs = [c]:=by
  rcases DataW.trod_slice ht h with ⟨hcs,_⟩ | ⟨a,len,cap,elems,rest,m,_,hcs,_⟩
  ·exact ⟨_,hcs⟩
  ·exact ⟨_,hcs⟩
 obtain ⟨c,rfl⟩:=h1
 obtain ⟨x,h2,h3,h4⟩:=hO n c y h
 refine ⟨x,h2,E,fun c' hc=>by simp only [List.mem_singleton] at hc; subst hc; exact h4,?_⟩
 simp only [cellsOf,RdL]
 exact ⟨_,_,E,h3,E⟩
def EntryM.In (x:EntryM):Prop:=x.mac < 18446744073709551616 ∧ wI .i64 x.where_ ∧ wI .i64 x.seen
theorem Ag0:OpN enc Tryz.prog W 137 Al EntryM.In 3:=fun n cs y h=>by
 obtain ⟨xs,m,_,_,hlen,hx,hg⟩:=DataW.trod_struct Tryz.underlying137 h
 have hlen:cs.length = 3:=hlen.trans (by kernel_rfl:Tryz.prog.cellsOf 137 = 3)
 have hx:xs.length = 3:=hx
 match cs,hlen with
 | [c0,c1,c2],_ =>
  have g0:DataW.trod enc Tryz.prog W 0 (fun _=>true) true m 89 (([c0,c1,c2].drop 0).take (Tryz.prog.cellsOf 89)) = xs[0]?:=hg 0 _ rfl
  rw [(by kernel_rfl:Tryz.prog.cellsOf 89 = 1),List.getElem?_eq_getElem (by omega)] at g0
  obtain ⟨z0,p0,r0,o0⟩:=op_mac _ _ _ g0
  have g1:DataW.trod enc Tryz.prog W 0 (fun _=>true) true m 3 (([c0,c1,c2].drop 1).take (Tryz.prog.cellsOf 3)) = xs[1]?:=hg 1 _ rfl
  rw [(by kernel_rfl:Tryz.prog.cellsOf 3 = 1),List.getElem?_eq_getElem (by omega)] at g1
  obtain ⟨z1,p1,r1,o1⟩:=B1 Tryz.underlying3 _ _ _ g1
  have g2:DataW.trod enc Tryz.prog W 0 (fun _=>true) true m 3 (([c0,c1,c2].drop 2).take (Tryz.prog.cellsOf 3)) = xs[2]?:=hg 2 _ rfl
  rw [(by kernel_rfl:Tryz.prog.cellsOf 3 = 1),List.getElem?_eq_getElem (by omega)] at g2
  obtain ⟨z2,p2,r2,o2⟩:=B1 Tryz.underlying3 _ _ _ g2
  refine ⟨⟨z0,z1,z2⟩,⟨p0,p1,p2⟩,E,fun c hc=>?_,?_⟩
  ·simp only [List.mem_cons,List.not_mem_nil,or_false] at hc
   rcases hc with rfl | rfl | rfl <;> assumption
  ·simp only [Al,cellsOf,RdL]
   exact ⟨_,_,E,r0,_,_,E,r1,_,_,E,r2,E⟩
theorem Aks:Op1 enc Tryz.prog W 51 (fun l:List (List EntryM)=>.sl 1 (fun t=>.sl 3 Al t) l) (fun l=>(∀ x ∈ l,(∀ e ∈ x,EntryM.In e) ∧ x.length ≤ maxLen) ∧ l.length ≤ maxLen) :=
 C6 Tryz.underlying51 (by kernel_rfl:Tryz.prog.cellsOf 55 = 1) (by decide) (fun _=>rfl) (fun _=>rfl) (Agy Tryz.underlying55 (C6 Tryz.underlying55 (by kernel_rfl:Tryz.prog.cellsOf 137 = 3) (by decide) (fun _=>rfl) (fun _=>rfl) Ag0))
end
end Go.Sy.YtmelpejjondedaaGreat
namespace Go.Sy.YtmelpejjondedaaGreat
open Go.Proofs
def M8 (m:MacM) (i:Nat) (t:List EntryM):MacM:=if 60 < t.length then m else (loadT m i t).1
def Tp (m0:MacM) (l:List (List EntryM)):Nat → MacM
 | 0=>m0
 | j + 1=>M8 (Tp m0 l j) j ((l[j]?).getD [])
def Aox (l:List (List EntryM)):Prop:=∀ t ∈ l,(∀ e ∈ t,EntryM.In e) ∧ t.length ≤ maxLen
theorem Ac0 {t:List EntryM} (h:∀ e ∈ t,EntryM.In e) (hl:t.length ≤ 60):TabOK t:=by
 refine ⟨by unfold Aq; omega,fun e he=>(h e he).1,fun e he=>?_⟩
 have:=(h e he).2.1
 simp only [wI,Lit.wf,Bool.and_eq_true,decide_eq_true_eq,IntKind.max_i64] at this
 have e2:IntKind.min .i64 = -9223372036854775808:=by decide
 rw [e2] at this
 unfold I64
 omega
theorem Aec {n:Net} {m:MacM} {J D:Int} (h:MacOK n m J D) (i:Nat) {t:List EntryM} (ht:∀ e ∈ t,EntryM.In e):MacOK n (M8 m i t) J D:=by
 unfold M8
 split
 ·exact h
 ·rename_i hl
  unfold loadT
  split
  ·exact Aa6 h _ (Ac0 ht (by omega))
  ·exact h
theorem Xy {n:Net} {m:MacM} {J D:Int} (h:MacOK n m J D) {l:List (List EntryM)} (hl:Aox l):∀ j,MacOK n (Tp m l j) J D
 | 0=>h
 | j + 1=>by
  rw [Tp]
  refine Aec (Xy h hl j) j ?_
  by_cases hj:j < l.length
  ·rw [List.getElem?_eq_getElem hj]
   exact (hl _ (List.getElem_mem hj)).1
  ·rw [List.getElem?_eq_none (by omega)]
   intro e he
   cases he
attribute [local irreducible] Go.Sy.G Go.Sy.DR
set_option maxRecDepth 100000
set_option maxHeartbeats 4000000
theorem Aju (n:Net) (hin:n.In) (tabs:List (List EntryM)) (htabs:Aox tabs) (l:List StepM):Sy.Spec Tryz.prog 5 [Ap n,.sl 1 H8 tabs,.sl 6 Dr l] [] (Ad true) []:=Ab Γ hm 100 F5 Tryz.ntmps5 rfl fun F hF=>by
 have hm1:=Akx hin
 conv=>whnf
 refine Ag (greatS n) F10 E E E E E ?_
 refine rg ?_;conv=>whnf
 refine ⟨fun hg=>?_,fun hg=>?_⟩
 ·(refine rg ?_;(conv=>whnf);refine aT ?_;refine rg ?_;(conv=>whnf);refine aT ?_;refine rg ?_;conv=>whnf)
  (skip)
  refine Ag Mo F12 E E E E E ?_
  refine rg ?_;conv=>whnf
  exact Ac E (.cons .tmp .nil) E E
 have hn:=Ab6 hg
 refine rg ?_;conv=>whnf
 refine Ag (An1 l) F11 E E E E E ?_
 refine rg ?_;conv=>whnf
 refine ⟨fun hg=>?_,fun hg=>?_⟩
 ·(refine rg ?_;(conv=>whnf);refine aT ?_;refine rg ?_;conv=>whnf)
  (skip)
  refine Ag Mo F12 E E E E E ?_
  refine rg ?_;conv=>whnf
  exact Ac E (.cons .tmp .nil) E E
 have hf:=Zf hg
 have hsc:ScriptOK l:=⟨hf.1,fun x hx=>(hf.2 x hx).1⟩
 refine rg ?_;conv=>whnf
 refine ⟨fun hg=>?_,fun hg=>?_⟩
 ·refine rg ?_;conv=>whnf
  refine Ag Mo F12 E E E E E ?_
  refine rg ?_;conv=>whnf
  exact Ac E (.cons .tmp .nil) E E
 have htl:tabs.length ≤ 60:=by have:=of_decide_eq_false hg; omega
 refine rg ?_;conv=>whnf
 cases hok:okB n (Aax n)
 ·refine Ag (W8 n hn hok) F18 E E E E E ?_
  refine rg ?_;conv=>whnf
  refine Ag (Ah2 n hn hok) F14 E E E E E ?_
  (refine rg ?_;(conv=>whnf);refine aF ?_;refine rg ?_;conv=>whnf)
  refine Ai (I3 Γ.toTy E (.inl E) E E E (.inr ⟨E,E,E⟩)) E E ?_
  (refine rg ?_;(conv=>whnf);refine aF ?_;refine rg ?_;conv=>whnf)
  refine Ai (I3 Γ.toTy E (.inl E) E E E (.inr ⟨E,E,E⟩)) E E ?_
  (refine rg ?_;(conv=>whnf);refine aT ?_;refine rg ?_;conv=>whnf)
  refine Ag Mo F12 E E E E E ?_
  refine rg ?_;conv=>whnf
  exact Ac E (.cons .tmp .nil) E E
 have hrt:=(ok_iff.1 hok).2.1
 refine Ai (Ak [(0,800),(1,801),(2,802),(3,803)] E F18 (Aik n hn hok) E Y E ⟨.inr E,.inr E,.inr E,.inr E,Y⟩) E E ?_
 refine rg ?_;conv=>whnf
 refine Ai (Ak [(0,810),(902,812),(903,813)] E F14 (Ap9 n hn hok) E Y E ⟨.inr E,.inr E,.inr E,Y⟩) E E ?_
 (refine rg ?_;(conv=>whnf);refine aF ?_;refine rg ?_;(conv=>whnf);refine aF ?_;refine rg ?_;(conv=>whnf);refine aF ?_;refine rg ?_;conv=>whnf)
 have hn0:=Ait n
 generalize newT n = m0 at *
 refine Au tabs.length (fun j=>[(1,.sl 1 H8 tabs),(2,.sl 6 Dr l),(7,.ptr 0 0),(9,.ptr 200 0),(11,Aa j)]) (fun j=>Yx n (Tp m0 tabs j) false) [(0,800),(1,801),(2,802),(3,803),(200,810),(902,812),(903,813)] ⟨⟨E,E,E,E,E,E,E,E,E,E,Y⟩,⟨.inl E,E,.inl E,E,.inl E,E,.inl E,E,.inl E,E,.inl E,E,.inl E,E,Y⟩,E,E⟩ ?_
 intro j hj
 refine rg ?_;conv=>whnf
 refine ⟨fun h=>?_,fun h=>?_⟩
 ·have hlt:j < tabs.length:=by have:=of_decide_eq_true h; omega
  have hj0:((j:Nat):Int).toNat < tabs.length:=by simpa using hlt
  obtain ⟨t,hoo⟩:∃ t,tabs[j] = t:=⟨_,rfl⟩
  have e1:tabs[((j:Nat):Int).toNat]'hj0 = t:=hoo
  have hs:Tp m0 tabs (j + 1) = M8 (Tp m0 tabs j) j t:=by rw [Tp,H4 hlt,hoo]
  have hok0:=Xy hn0 htabs j
  have hti:=htabs t (by rw [← hoo]; exact List.getElem_mem hlt)
  generalize Tp m0 tabs j = mj at *
  unfold M8 at hs
  clear h
  refine rg ?_;conv=>whnf
  refine ⟨E,by omega,hj0,?_⟩
  rw [e1]
  conv=>whnf
  refine ⟨fun h=>?_,fun h=>?_⟩
  ·rw [if_pos (by have:=of_decide_eq_true h; omega)] at hs
   clear h
   refine rg ?_;conv=>whnf
   refine ⟨by unfold I64; omega,?_⟩
   conv=>whnf
   exact Ar [] hlt ⟨⟨E,E,E,E,E,E,E,E,E,E,Y⟩,(by dsimp only; rw [hs]; exact ⟨.inl E,E,.inl E,E,.inl E,E,.inl E,E,.inl E,E,.inl E,E,.inl E,E,Y⟩),E,E⟩
  have hle:t.length ≤ 60:=by have:=of_decide_eq_false h; omega
  rw [if_neg (by omega)] at hs
  clear h
  have hto:=Ac0 hti.1 hle
  have htq:mj.tables.length = mj.queues.length:=by rw [hok0.tabs,hok0.ques]
  have q1:=Aml n mj false j t htq hto.short hto.mac
  have hpl:=placeB_iff (d:=(j:Int)) (k:=mj.queues.length)
  have q2:=Ki t hto.short hto.mac
  rw [loadT] at hs q1
  generalize Am (j:Int) mj.queues.length = pb at *
  generalize tableB t = tb at *
  refine rg ?_;conv=>whnf
  refine ⟨E,by omega,hj0,?_⟩
  rw [e1]
  conv=>whnf
  refine Ai (Ak [] E F19 q1 E ⟨E,E,E,E,Y⟩ E ⟨.inl E,.inl E,.inl E,.inl E,Y⟩) E E ?_
  refine rg ?_;conv=>whnf
  cases pb
  ·have hge:¬ j < mj.tables.length:=fun h=>by
    have:=hpl.2 ⟨by omega,by rw [← htq]; simpa using h⟩
    cases this
   rw [if_neg (by simp)] at hs
   refine ⟨fun _=>?_,fun h=>False.elim (by have:=of_decide_eq_false h; omega)⟩
   (refine rg ?_;(conv=>whnf);refine aT ?_;refine rg ?_;(conv=>whnf);refine aF ?_;refine rg ?_;conv=>whnf)
   (skip)
   refine ⟨by unfold I64; omega,?_⟩
   conv=>whnf
   exact Ar [] hlt ⟨⟨E,E,E,E,E,E,E,E,E,E,Y⟩,(by dsimp only; rw [hs]; exact ⟨.inl E,E,.inl E,E,.inl E,E,.inl E,E,.inl E,E,.inl E,E,.inl E,E,Y⟩),E,E⟩
  have hd:=hpl.1 rfl
  have hjt:j < mj.tables.length:=by rw [htq]; simpa using hd.2
  refine ⟨fun h=>False.elim (by have:=of_decide_eq_true h; omega),fun _=>?_⟩
  refine rg ?_;conv=>whnf
  refine ⟨E,by omega,hj0,?_⟩
  rw [e1]
  conv=>whnf
  refine Ag q2 F20 E E E E E ?_
  refine rg ?_;conv=>whnf
  cases tb
  ·rw [if_neg (by simp)] at hs
   (refine ⟨fun _=>?_,fun h=>False.elim (absurd h (by decide))⟩;refine rg ?_;(conv=>whnf);refine aF ?_;refine rg ?_;conv=>whnf)
   refine ⟨by unfold I64; omega,?_⟩
   conv=>whnf
   exact Ar [] hlt ⟨⟨E,E,E,E,E,E,E,E,E,E,Y⟩,(by dsimp only; rw [hs]; exact ⟨.inl E,E,.inl E,E,.inl E,E,.inl E,E,.inl E,E,.inl E,E,.inl E,E,Y⟩),E,E⟩
  rw [if_pos ⟨rfl,rfl⟩] at hs
  have hj2:((j:Nat):Int).toNat < mj.tables.length:=by simpa using hjt
  (refine ⟨fun h=>False.elim (absurd h (by decide)),fun _=>?_⟩;refine rg ?_;conv=>whnf)
  refine ⟨E,by omega,hj0,?_⟩
  rw [e1]
  conv=>whnf
  refine Bi (Good.dataT (Af Γ.toTy 98 E E E E E (.lit (e:=Al) (l:=[]) E E) .sl (by simp) (by simp; omega) (by simp; omega))) (by kernel_rfl) E ?_
  refine rd (by kernel_rfl) ?_;conv=>whnf
  refine ⟨by omega,hj2,?_⟩
  conv=>whnf
  refine ⟨E,hj2,t,E,E,?_⟩
  conv=>whnf
  refine ⟨(by kernel_rfl),?_⟩
  ((conv=>whnf);refine aF ?_;refine rg ?_;conv=>whnf)
  (skip)
  refine ⟨by unfold I64; omega,?_⟩
  conv=>whnf
  exact Ar [] hlt ⟨⟨E,E,E,E,E,E,E,E,E,E,Y⟩,(by dsimp only; rw [hs]; exact ⟨.inl E,E,.inl E,E,.inl E,E,.inl E,E,.inl E,E,.inl E,E,.inl E,E,Y⟩),E,E⟩
 have hjj:j = tabs.length:=by have:=of_decide_eq_false h; omega
 subst hjj
 clear h
 have hok1:=Xy hn0 htabs tabs.length
 generalize Tp m0 tabs tabs.length = m1 at *
 have hlen:=hsc.few
 refine rg ?_;conv=>whnf
 refine Au l.length (fun j=>[(7,.ptr 0 0),(9,.ptr 200 0),(102,.sl 6 Dr l),(103,Aa l.length),(104,Aa j)]) (fun j=>Yx n (Di n m1 (l.take j)).1 (runD n m1 false (l.take j))) [] ⟨⟨E,E,E,E,E,E,E,E,E,E,Y⟩,⟨.inl E,E,.inl E,E,.inl E,E,.inl E,E,.inl E,E,.inl E,E,.inl E,E,Y⟩,E,E⟩ ?_
 intro j hj
 refine rg ?_;conv=>whnf
 refine ⟨fun h=>?_,fun h=>?_⟩
 ·have hlt:j < l.length:=by have:=of_decide_eq_true h; omega
  have hj0:((j:Nat):Int).toNat < l.length:=by simpa using hlt
  obtain ⟨x,hoo⟩:∃ x,l[j] = x:=⟨_,rfl⟩
  have e1:l[((j:Nat):Int).toNat]'hj0 = x:=hoo
  have hs:=Zx n m1 l j hlt
  have hds:=Zy n m1 false l j hlt
  rw [hoo] at hs hds
  have hxb:=hsc.bytes x (by rw [← hoo]; exact List.getElem_mem hlt)
  have hjo:=Aa7 hn hm1 (l.take j) hok1 (Int.le_refl _) (Int.le_refl _)
  have hjl:(l.take j).length = j:=by rw [List.length_take]; omega
  rw [hjl] at hjo
  have q5:=Amn n hn hm1 (Di n m1 (l.take j)).1 (runD n m1 false (l.take j)) _ _ hjo (by omega) (by omega) (by omega) x (by omega)
  have q6:=docDoS n hn hm1 hrt (Di n m1 (l.take j)).1 _ _ hjo (by omega) (by omega) (by omega) x (by omega)
  have hfw:=Aca hn (Di n m1 (l.take j)).1 x
  have hnx:=Aoh hn hm1 hjo (by omega) (by omega) x
  have q7:=alikeS n hn (doT n (Di n m1 (l.take j)).1 x).1 (doD n (Di n m1 (l.take j)).1 (runD n m1 false (l.take j)) x) _ _ hnx (by omega)
  have g1:(Di n m1 (l.take (j + 1))).1 = (doT n (Di n m1 (l.take j)).1 x).1:=by rw [hs]
  clear h
  refine rg ?_;conv=>whnf
  refine ⟨E,by omega,hj0,?_⟩
  rw [e1]
  conv=>whnf
  refine Ai (Ak [(4,30)] E F21 q5 E ⟨E,E,E,E,Y⟩ E ⟨.inl E,.inl E,.inl E,.inl E,.inr E,Y⟩) E E ?_
  (refine rg ?_;(conv=>whnf);refine aF ?_;refine rg ?_;conv=>whnf)
  (skip)
  refine Ai (Ak [(0,200)] E F15 q6 E ⟨E,E,E,Y⟩ E ⟨.inl E,.inl E,.inl E,Y⟩) E E ?_
  refine rg ?_;conv=>whnf
  refine Ag (Af5 _ (by omega)) F16 E E E E E ?_
  (refine rg ?_;(conv=>whnf);refine aF ?_;refine rg ?_;conv=>whnf)
  (skip)
  refine Ai (Ak [(1,30)] E F22 q7 E ⟨E,E,E,E,E,E,E,Y⟩ E ⟨.inl E,.inl E,.inl E,.inl E,.inl E,.inl E,.inl E,Y⟩) E E ?_
  (refine rg ?_;(conv=>whnf);refine aF ?_;refine rg ?_;conv=>whnf)
  (skip)
  refine ⟨by unfold I64; omega,?_⟩
  conv=>whnf
  refine Ar [(1,30)] hlt ⟨⟨E,E,E,E,E,E,E,E,E,E,Y⟩,?_,E,E⟩
  dsimp only
  rw [g1,hds]
  exact ⟨.inl E,E,.inl E,E,.inl E,E,.inl E,E,.inl E,E,.inl E,E,.inl E,E,Y⟩
 ·have hjj:j = l.length:=by have:=of_decide_eq_false h; omega
  subst hjj
  clear h
  refine rg ?_;conv=>whnf
  refine Ag Mo F12 E E E E E ?_
  refine rg ?_;conv=>whnf
  exact Ac E (.cons .tmp .nil) E E
end Go.Sy.YtmelpejjondedaaGreat
namespace Go.Proofs.YtmelpejjondedaaGreat
open Go.ChangeShapes Go.WideShapes Go.ChangeAt Go.RowKit
set_option maxRecDepth 100000
theorem Uv:Tryz.checked.prog.inPlace 5 = Rows.simPlaysRow.inPlace:=by kernel_rfl
theorem Qh:Tryz.checked.prog.unfollowed 5 = Rows.simPlaysRow.unfollowed:=by kernel_rfl
theorem S5:Tryz.checked.prog.recurses 5 = Rows.simPlaysRow.recurses:=by kernel_rfl
theorem W4:Tryz.checked.prog.varsNamed 5 = Rows.simPlaysRow.named:=by kernel_rfl
theorem Y2:Tryz.checked.prog.liftsFinal = Rows.simPlaysRow.lifted:=by kernel_rfl
theorem Uu:laidOutB Tryz.checked.prog = true:=by kernel_rfl
theorem W7:Tryz.checked.prog.mayEnter = true:=by kernel_rfl
theorem W5:Tryz.checked.prog.stopsHeard = true:=by kernel_rfl
theorem W6:joinedFacts Tryz.checked.prog 5 Tryz.f5 Rows.simPlaysSpec Rows.simPlaysRow = true:=by
 unfold joinedFacts
 rw [Uv,Qh,S5,W4,Y2,Uu,W7,W5]
 kernel_rfl
end Go.Proofs.YtmelpejjondedaaGreat
