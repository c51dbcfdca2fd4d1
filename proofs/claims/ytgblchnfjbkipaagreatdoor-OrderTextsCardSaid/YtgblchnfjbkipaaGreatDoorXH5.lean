/-
  I50 I51 I52 S0 I15 I47 I48 I49 I11 I31 I43 D0 D5 I53 I54 KM Sy30: parts of a proof, joined by program.
-/
import Derived.Test.YtgblchnfjbkipaaGreatDoorXH4
import Derived.Test.YtgblchnfjbkipaaGreatDoorXH3
namespace Go.Sy.YtgblchnfjbkipaaGreatDoor
open Go.Proofs
set_option maxHeartbeats 4000000
structure LineR (l:LineM):Prop where
 right:A7 l=true
 ok:LineOK l
 vlan:0≤l.vlan∧l.vlan≤4094
 num:0≤l.num∧l.num≤16777215
 cost:0≤l.cost∧l.cost≤65535
 bits:0≤l.bits∧l.bits≤32
 tagged:Cs l.tagged 4094=true
 imports:Cs l.imports 65535=true
 exports:Cs l.exports 65535=true
 addrs:l.addrs.length≤16
 dev:l.dev.size≤12
 port:l.port.size≤12
 peer:l.peer.size≤12
 far:l.far.size≤12
 name:l.name.size≤12
theorem Ca {s:ByteArray} (h:nameB s=true):s.size≤12:=by
 simp only[nameB,Bool.and_eq_true,decide_eq_true_eq]at h
 exact h.2
theorem T0 (s:ByteArray):0≤(macR s).1:=by
 have hd:∀ c,0≤digI c:=fun c=>by
  unfold digI
  split
  ·omega
  ·split<;>omega
 have:∀ i,0≤Ko s i:=fun i=>by
  induction i with
  | zero=>exact Int.le_refl _
  | succ i ih =>
   have h1:=hd (Ad s (3 * i))
   have h2:=hd (Ad s (3 * i+1))
   rw[Ko]
   omega
 unfold macR
 split
 ·exact this 6
 ·exact Int.le_refl _
theorem Acc:(⟨#[]⟩:ByteArray).size=0:=rfl
theorem Lq (s:ByteArray):(0≤(prefixR s).1.1∧(prefixR s).1.1<4294967296):=by
 unfold prefixR
 split
 ·exact⟨Int.le_refl _,by decide⟩
 ·exact⟨Ey _,Jw _⟩
theorem Wc {s:ByteArray} (h:(Az s).2=true):(Az s).1.length≤16∧∀ x∈(Az s).1,0≤x∧x<4294967296:=by
 have hp:=Jm h
 obtain ⟨a,b,c,d⟩:=E9 A8 (Au 44 s) [] (Az s).1 hp List.Pairwise.nil qf
 refine⟨b,fun x hx=>?_⟩
 rcases d x hx with hh | ⟨p,_,hh⟩
 ·cases hh
 ·have h1:=Ey p
  have h2:=Jw p
  rw[hh]at h1 h2
  exact⟨h1,h2⟩
theorem Ie {s:ByteArray} {hi:Int} (h:(listR hi s).2=true):Cs (listR hi s).1 hi=true:=Ais (Jm h)
theorem A3 (hi:Int):Cs [] hi=true:=by simp[Cs,Vf]
theorem zV:(0:Int)≤0∧(0:Int)≤4094:=by decide
theorem zN:(0:Int)≤0∧(0:Int)≤16777215:=by decide
theorem zC:(0:Int)≤0∧(0:Int)≤65535:=by decide
theorem zB:(0:Int)≤0∧(0:Int)≤32:=by decide
theorem zM:(0:Int)≤0∧(0:Int)<18446744073709551616:=by decide
theorem zA:(0:Int)≤0∧(0:Int)<4294967296:=by decide
theorem zS:(⟨#[]⟩:ByteArray).size≤12:=by decide
theorem Aaj {w:List ByteArray} {row:Int} (h:(Ba w row).2=0):LineR (Ba w row).1:=by
 obtain ⟨g1,g2⟩:=Adp h
 rw[g1]
 clear g1 h
 have ez:=Acc
 have o1:∀ {m:Int},0≤m→statB m=true→0≤m∧m<18446744073709551616:=fun a b=>⟨a,by have:=Ln b;omega⟩
 unfold Ap at g2 ⊢
 dsimp only at g2 ⊢
 by_cases h1:kindL (wdT w 0)=1
 ·simp only[if_pos h1,List.mem_cons,List.not_mem_nil,or_false,forall_eq_or_imp,forall_eq,Bool.not_eq_eq_eq_not,Bool.not_false,Bool.and_eq_true]at g2 ⊢
  obtain ⟨b1,b2,b3,b4⟩:=g2
  have c:=Dt b2
  have n1:=Ca b1
  exact⟨by simp[A7,Aq,b1,b4,within_iff.2 c,Dp],⟨o1 (T0 _) b4,zA,by simp[lineZ]⟩,zV,⟨c.1,by have:=c.2;dsimp only;omega⟩,zC,zB,A3 _,A3 _,A3 _,by simp[lineZ],n1,zS,zS,zS,zS⟩
 by_cases h2:kindL (wdT w 0)=2
 ·simp only[if_neg h1,if_pos h2]at g2 ⊢
  have b1:=g2 (!(nameB (wdT w 1)),20) qf
  have b2:=g2 (!(nameB (wdT w 2)),20) qf
  have b3:=g2 (!(numR (wdT w 3) 1 65535).2,21) qf
  have b4:∀ e∈(Bs w).2.2,e.1=false:=fun e he=>g2 e (by simp[he])
  have b5:=g2 (!(membersB (Bs w).1 (Bs w).2.1),21) qf
  simp only[Bool.not_eq_eq_eq_not,Bool.not_false]at b1 b2 b3 b5
  have c:=Dt b3
  have hp:(0≤(Bs w).1∧(Bs w).1≤4094)∧Cs (Bs w).2.1 4094=true:=by
   clear b5 g2
   unfold Bs at b4 ⊢
   split
   ·rename_i e
    rw[if_pos e]at b4
    have:=b4 _ (List.mem_singleton.2 rfl)
    simp only[Bool.not_eq_eq_eq_not,Bool.not_false]at this
    have:=Dt this
    exact⟨⟨by have:=this.1;dsimp only[A1];omega,this.2⟩,A3 _⟩
   ·rename_i e
    rw[if_neg e]at b4
    split
    ·rename_i e2
     rw[if_pos e2]at b4
     split
     ·rename_i e3
      rw[if_pos e3]at b4
      have:=b4 _ (List.mem_singleton.2 rfl)
      simp only[Bool.not_eq_eq_eq_not,Bool.not_false]at this
      exact⟨zV,Ie this⟩
     ·rename_i e3
      rw[if_neg e3]at b4
      have a1:=b4 _ (List.mem_cons_self)
      have a2:=b4 _ (List.mem_cons_of_mem _ (List.mem_singleton.2 rfl))
      simp only[Bool.not_eq_eq_eq_not,Bool.not_false]at a1 a2
      have:=Dt a1
      exact⟨⟨by have:=this.1;dsimp only[A1];omega,this.2⟩,Ie a2⟩
    ·exact⟨zV,A3 _⟩
  generalize Bs w=q at *
  obtain ⟨hv,ht⟩:=hp
  exact⟨by simp[A7,Aq,b1,b2,b5,ht,within_iff.2 c,within_iff.2 hv,Dp],⟨zM,zA,by simp[lineZ]⟩,hv,zN,⟨by have:=c.1;dsimp only;omega,c.2⟩,zB,ht,A3 _,A3 _,by simp[lineZ],Ca b1,Ca b2,zS,zS,zS⟩
 by_cases h3:kindL (wdT w 0)=3
 ·simp only[if_neg h1,if_neg h2,if_pos h3,List.mem_cons,List.not_mem_nil,or_false,forall_eq_or_imp,forall_eq,Bool.not_eq_eq_eq_not,Bool.not_false,Bool.and_eq_true]at g2 ⊢
  obtain ⟨b1,b2,b3,b4⟩:=g2
  exact⟨by simp[A7,Aq,b1,b2,b3,b4,Dp],⟨zM,zA,by simp[lineZ]⟩,zV,zN,zC,zB,A3 _,A3 _,A3 _,by simp[lineZ],Ca b1,Ca b2,Ca b3,Ca b4,zS⟩
 by_cases h4:kindL (wdT w 0)=4
 ·simp only[if_neg h1,if_neg h2,if_neg h3,if_pos h4,List.mem_cons,List.not_mem_nil,or_false,forall_eq_or_imp,forall_eq,Bool.not_eq_eq_eq_not,Bool.not_false,Bool.and_eq_true]at g2 ⊢
  obtain ⟨b1,b2,⟨b3,b4⟩,b5⟩:=g2
  have c:=Dt b2
  exact⟨by simp[A7,Aq,b1,Wi b2 q_,b4,b5,Dp],⟨o1 (T0 _) b4,zA,by simp[lineZ]⟩,⟨by have:=c.1;dsimp only[A1];omega,c.2⟩,zN,zC,zB,A3 _,A3 _,A3 _,by simp[lineZ],Ca b1,Ca b5,zS,zS,zS⟩
 by_cases h5:kindL (wdT w 0)=5
 ·simp only[if_neg h1,if_neg h2,if_neg h3,if_neg h4,if_pos h5,List.mem_cons,List.not_mem_nil,or_false,forall_eq_or_imp,forall_eq,Bool.not_eq_eq_eq_not,Bool.not_false,Bool.and_eq_true,decide_eq_true_eq]at g2 ⊢
  obtain ⟨b1,b2,b3⟩:=g2
  exact⟨by simp[A7,Aq,b1,b3,Dp],⟨zM,⟨Ey _,Jw _⟩,by simp[lineZ]⟩,zV,zN,zC,zB,A3 _,A3 _,A3 _,by simp[lineZ],Ca b1,zS,zS,zS,zS⟩
 by_cases h6:kindL (wdT w 0)=6
 ·simp only[if_neg h1,if_neg h2,if_neg h3,if_neg h4,if_neg h5,if_pos h6,List.mem_cons,List.not_mem_nil,or_false,forall_eq_or_imp,forall_eq,Bool.not_eq_eq_eq_not,Bool.not_false,Bool.and_eq_true]at g2 ⊢
  obtain ⟨b1,b2,b3⟩:=g2
  have c:=Dt b2
  have d:=Dt b3
  exact⟨by simp[A7,Aq,b1,Wi b2 q_,Afk b3 q_,Dp],⟨zM,zA,by simp[lineZ]⟩,⟨by have:=c.1;dsimp only[A1];omega,c.2⟩,⟨by have:=d.1;dsimp only[El];omega,d.2⟩,zC,zB,A3 _,A3 _,A3 _,by simp[lineZ],Ca b1,zS,zS,zS,zS⟩
 by_cases h7:kindL (wdT w 0)=7
 ·simp only[if_neg h1,if_neg h2,if_neg h3,if_neg h4,if_neg h5,if_neg h6,if_pos h7,List.mem_cons,List.not_mem_nil,or_false,forall_eq_or_imp,forall_eq,Bool.not_eq_eq_eq_not,Bool.not_false,Bool.and_eq_true,decide_eq_true_eq]at g2 ⊢
  obtain ⟨b1,b2,b3,b4⟩:=g2
  have d:=Dt b2
  have e:=Wc b3
  exact⟨by simp[A7,Aq,b1,Afk b2 q_,Ah4 (Jm b3) b4,Dp],⟨zM,zA,e.2⟩,zV,⟨by have:=d.1;dsimp only[El];omega,d.2⟩,zC,zB,A3 _,A3 _,A3 _,e.1,Ca b1,zS,zS,zS,zS⟩
 by_cases h8:kindL (wdT w 0)=8
 ·simp only[if_neg h1,if_neg h2,if_neg h3,if_neg h4,if_neg h5,if_neg h6,if_neg h7,if_pos h8,List.mem_cons,List.not_mem_nil,or_false,forall_eq_or_imp,forall_eq,Bool.not_eq_eq_eq_not,Bool.not_false,Bool.and_eq_true]at g2 ⊢
  obtain ⟨b1,b2,b3,b4⟩:=g2
  exact⟨by simp[A7,Aq,b1,b2,Ie b3,Ie b4,Dp],⟨zM,zA,by simp[lineZ]⟩,zV,zN,zC,zB,A3 _,Ie b3,Ie b4,by simp[lineZ],Ca b1,zS,zS,zS,Ca b2⟩
 ·simp only[if_neg h1,if_neg h2,if_neg h3,if_neg h4,if_neg h5,if_neg h6,if_neg h7,if_neg h8,List.mem_cons,List.not_mem_nil,or_false,forall_eq_or_imp,forall_eq,Bool.not_eq_eq_eq_not,Bool.not_false,Bool.and_eq_true]at g2 ⊢
  obtain ⟨b1,b2,b3,b4,b5⟩:=g2
  have c:=Dt b2
  have hb:=J9 b5
  exact⟨by simp[A7,Aq,b1,b3,Wi b2 q_,b5,Dp],⟨zM,Lq _,by simp[lineZ]⟩,⟨by have:=c.1;dsimp only[A1];omega,c.2⟩,zN,zC,⟨by dsimp only;omega,by dsimp only;omega⟩,A3 _,A3 _,A3 _,by simp[lineZ],Ca b1,zS,zS,zS,Ca b3⟩
theorem Aa8 (l:LineM) (r:Int):A7 { l with row:=r }=A7 l:=by
 by_cases h1:l.kind=1
 ·simp[A7,Aq,Hp,h1]
 by_cases h2:l.kind=2
 ·simp[A7,Aq,Hp,h1,h2]
 by_cases h3:l.kind=3
 ·simp[A7,Aq,Hp,h1,h2,h3]
 by_cases h4:l.kind=4
 ·simp[A7,Aq,Hp,h1,h2,h3,h4]
 by_cases h5:l.kind=5
 ·simp[A7,Aq,Hp,h1,h2,h3,h4,h5]
 by_cases h6:l.kind=6
 ·simp[A7,Aq,Hp,h1,h2,h3,h4,h5,h6]
 by_cases h7:l.kind=7
 ·simp[A7,Aq,Hp,h1,h2,h3,h4,h5,h6,h7]
 by_cases h8:l.kind=8
 ·simp[A7,Aq,Hp,h1,h2,h3,h4,h5,h6,h7,h8]
 by_cases h9:l.kind=9
 ·simp[A7,Aq,Hp,h1,h2,h3,h4,h5,h6,h7,h8,h9]
 simp[A7,Aq,Hp,h1,h2,h3,h4,h5,h6,h7,h8,h9]
theorem LineR.row {l:LineM} (h:LineR l) (r:Int):LineR { l with row:=r } :=
 ⟨by rw[Aa8];exact h.right,⟨h.ok.mac,h.ok.addr,h.ok.addrs⟩,h.vlan,h.num,h.cost,h.bits,h.tagged,h.imports,h.exports,h.addrs,h.dev,h.port,h.peer,h.far,h.name⟩
theorem Jf:∀ (rs:List ByteArray) (i:Nat) (out:List LineM),(∀ x∈out,LineR x)→∀ x∈(En i rs out).1,LineR x
 | [],_,_,h=>by rw[En];exact h
 | r::rs,i,out,h=>by
  rw[En]
  split
  ·intro x hx;cases hx
  ·split
   ·exact Jf rs (i+1) out h
   ·split
    ·intro x hx;cases hx
    ·rename_i h3
     refine Jf rs (i+1) _ fun x hx=>?_
     rcases List.mem_append.1 hx with hx | hx
     ·exact h x hx
     ·rw[List.mem_singleton.1 hx]
      exact Aaj j_
theorem S9 (b:List UInt8):∀ x∈(textT b).1,LineR x:=by
 unfold textT
 split
 ·intro x hx;cases hx
 ·exact Jf _ 0 [] qf
def digD (c:UInt8):Int:=if digI c=16 then 0 else digI c
def Dc (s:ByteArray):Nat→Int
 | 0=>0
 | i+1=>if i % 3=2 then Dc s i else Dc s i * 16+digD (Ad s i)
theorem Uf (c:UInt8):0≤digI c∧digI c≤16:=by
 unfold digI
 split
 ·omega
 ·split<;>omega
theorem Mh (c:UInt8):0≤digD c∧digD c≤15:=by
 have:=Uf c
 unfold digD
 split<;>omega
theorem Is (s:ByteArray):∀ i,0≤Dc s i∧Dc s i<16 ^ i
 | 0=>by simp[Dc]
 | i+1=>by
  have ih:=Is s i
  have h:=Mh (Ad s i)
  have e:(16:Int) ^ (i+1)=16 * 16 ^ i:=by rw[Int.pow_succ];omega
  rw[Dc,e]
  split<;>omega
theorem T2 (s:ByteArray):0≤Dc s 17∧Dc s 17<281474976710656:=by
 have h:∀ i,0≤digD (Ad s i)∧digD (Ad s i)≤15:=fun i=>Mh _
 have:=h 0;have:=h 1;have:=h 3;have:=h 4;have:=h 6;have:=h 7;have:=h 9;have:=h 10;have:=h 12;have:=h 13;have:=h 15;have:=h 16
 have e:Dc s 17=((((((((((((0 * 16+digD (Ad s 0)) * 16+digD (Ad s 1)) * 16+digD (Ad s 3)) * 16+digD (Ad s 4)) * 16+digD (Ad s 6)) * 16+digD (Ad s 7)) * 16+digD (Ad s 9)) * 16+digD (Ad s 10)) * 16+digD (Ad s 12)) * 16+digD (Ad s 13)) * 16+digD (Ad s 15)) * 16+digD (Ad s 16)):=rfl
 rw[e]
 omega
theorem Ahj:∀ c:Fin 256,digI (UInt8.ofNat c.1)≤15→B6 (digI (UInt8.ofNat c.1)).toNat=UInt8.ofNat c.1:=by decide +kernel
theorem C8 (c:UInt8) (h:digI c≤15):B6 (digI c).toNat=c:=by
 have:=Ahj ⟨c.toNat,c.toNat_lt⟩
 simp only[UInt8.ofNat_toNat]at this
 exact this h
theorem list17 {l:List UInt8} (h:l.length=17):∃ a b c d e f g i j k m n o p q r s,l=[a,b,c,d,e,f,g,i,j,k,m,n,o,p,q,r,s]:=by
 rcases l with _ | ⟨a,_ | ⟨b,_ | ⟨c,_ | ⟨d,_ | ⟨e,_ | ⟨f,_ | ⟨g,_ | ⟨i,_ | ⟨j,_ | ⟨k,_ | ⟨m,_ | ⟨n,_ | ⟨o,_ | ⟨p,_ | ⟨q,_ | ⟨r,_ | ⟨s,l⟩⟩⟩⟩⟩⟩⟩⟩⟩⟩⟩⟩⟩⟩⟩⟩⟩
 all_goals simp at h
 subst h
 exact⟨_,_,_,_,_,_,_,_,_,_,_,_,_,_,_,_,_,q_⟩
theorem Air {s:ByteArray} (hs:s.size=17) (h:∀ i,i<6→Eb s i=true):Ao (Dc s 17)=s:=by
 have hl:s.data.toList.length=17:=hs
 obtain ⟨a,b,c,d,e,f,g,i,j,k,m,n,o,p,q,r,t,hL⟩:=list17 hl
 obtain rfl:s=mkT [a,b,c,d,e,f,g,i,j,k,m,n,o,p,q,r,t]:=by rw[← Bt s,hL]
 have g0:=h 0 j_;have g1:=h 1 j_;have g2:=h 2 j_;have g3:=h 3 j_;have g4:=h 4 j_;have g5:=h 5 j_
 clear h hs hl hL
 have e0:digI a≤15∧digI b≤15∧c.toNat=58:=by simpa [Eb,Ad,mkT,and_assoc] using g0
 have e1:digI d≤15∧digI e≤15∧f.toNat=58:=by simpa [Eb,Ad,mkT,and_assoc] using g1
 have e2:digI g≤15∧digI i≤15∧j.toNat=58:=by simpa [Eb,Ad,mkT,and_assoc] using g2
 have e3:digI k≤15∧digI m≤15∧n.toNat=58:=by simpa [Eb,Ad,mkT,and_assoc] using g3
 have e4:digI o≤15∧digI p≤15∧q.toNat=58:=by simpa [Eb,Ad,mkT,and_assoc] using g4
 have e5:digI r≤15∧digI t≤15:=by simpa [Eb,Ad,mkT,and_assoc] using g5
 clear g0 g1 g2 g3 g4 g5
 have col:∀ {x:UInt8},x.toNat=58→x=58:=fun hx=>UInt8.toNat_inj.1 hx
 have dd:∀ {x:UInt8},digI x≤15→digD x=digI x:=fun hx=>by unfold digD;rw[if_neg j_]
 have nn:∀ x:UInt8,0≤digI x:=fun x=>(Uf x).1
 have hv:Dc (mkT [a,b,c,d,e,f,g,i,j,k,m,n,o,p,q,r,t]) 17=(((((((((((digI a * 16+digI b) * 16+digI d) * 16+digI e) * 16+digI g) * 16+digI i) * 16+digI k) * 16+digI m) * 16+digI o) * 16+digI p) * 16+digI r) * 16+digI t):=by
  show ((((((((((((0 * 16+digD a) * 16+digD b) * 16+digD d) * 16+digD e) * 16+digD g) * 16+digD i) * 16+digD k) * 16+digD m) * 16+digD o) * 16+digD p) * 16+digD r) * 16+digD t)=_
  rw[dd e0.1,dd e0.2.1,dd e1.1,dd e1.2.1,dd e2.1,dd e2.2.1,dd e3.1,dd e3.2.1,dd e4.1,dd e4.2.1,dd e5.1,dd e5.2]
  omega
 rw[hv]
 have b0:=C8 a e0.1;have b1:=C8 b e0.2.1;have b2:=C8 d e1.1;have b3:=C8 e e1.2.1;have b4:=C8 g e2.1;have b5:=C8 i e2.2.1
 have b6:=C8 k e3.1;have b7:=C8 m e3.2.1;have b8:=C8 o e4.1;have b9:=C8 p e4.2.1;have b10:=C8 r e5.1;have b11:=C8 t e5.2
 have n0:=nn a;have n1:=nn b;have n2:=nn d;have n3:=nn e;have n4:=nn g;have n5:=nn i;have n6:=nn k;have n7:=nn m;have n8:=nn o;have n9:=nn p;have n10:=nn r;have n11:=nn t
 rw[col e0.2.2,col e1.2.2,col e2.2.2,col e3.2.2,col e4.2.2]
 generalize digI a=A at *
 generalize digI b=B at *
 generalize digI d=D at *
 generalize digI e=E at *
 generalize digI g=G' at *
 generalize digI i=I' at *
 generalize digI k=K' at *
 generalize digI m=M' at *
 generalize digI o=O' at *
 generalize digI p=P' at *
 generalize digI r=R' at *
 generalize digI t=T' at *
 generalize hN:(((((((((((A * 16+B) * 16+D) * 16+E) * 16+G') * 16+I') * 16+K') * 16+M') * 16+O') * 16+P') * 16+R') * 16+T')=N
 have y0:byteN N.toNat 0 / 16=A.toNat∧byteN N.toNat 0 % 16=B.toNat:=by
  have:byteN N.toNat 0=N.toNat / 1099511627776 % 256:=rfl
  rw[this];omega
 have y1:byteN N.toNat 1 / 16=D.toNat∧byteN N.toNat 1 % 16=E.toNat:=by
  have:byteN N.toNat 1=N.toNat / 4294967296 % 256:=rfl
  rw[this];omega
 have y2:byteN N.toNat 2 / 16=G'.toNat∧byteN N.toNat 2 % 16=I'.toNat:=by
  have:byteN N.toNat 2=N.toNat / 16777216 % 256:=rfl
  rw[this];omega
 have y3:byteN N.toNat 3 / 16=K'.toNat∧byteN N.toNat 3 % 16=M'.toNat:=by
  have:byteN N.toNat 3=N.toNat / 65536 % 256:=rfl
  rw[this];omega
 have y4:byteN N.toNat 4 / 16=O'.toNat∧byteN N.toNat 4 % 16=P'.toNat:=by
  have:byteN N.toNat 4=N.toNat / 256 % 256:=rfl
  rw[this];omega
 have y5:byteN N.toNat 5 / 16=R'.toNat∧byteN N.toNat 5 % 16=T'.toNat:=by
  have:byteN N.toNat 5=N.toNat / 1 % 256:=rfl
  rw[this];omega
 rw[Ao]
 simp only[Iz]
 rw[y0.1,y0.2,y1.1,y1.2,y2.1,y2.2,y3.1,y3.2,y4.1,y4.2,y5.1,y5.2,b0,b1,b2,b3,b4,b5,b6,b7,b8,b9,b10,b11]
 simp
theorem Aiq (s:ByteArray) (hs:s.size=17):macR s=if Ao (Dc s 17)=s then (Dc s 17,true) else (0,false):=by
 obtain ⟨h0,h1⟩:=T2 s
 split
 ·rename_i e
  obtain ⟨k,hk⟩:∃ k:Nat,Dc s 17=k:=⟨(Dc s 17).toNat,by omega⟩
  rw[hk]at e h1 ⊢
  have:=Yo k j_
  rwa [e]at this
 ·rename_i e
  rw[macR,if_neg]
  rintro ⟨_,hh⟩
  rw[List.all_eq_true]at hh
  exact e (Air hs fun i hi=>hh i (List.mem_range.2 hi))
theorem Ag4 {s:ByteArray} (hs:s.size≠17):macR s=(0,false):=by rw[macR,if_neg (fun h=>hs h.1)]
def digitsD (s:ByteArray):Int:=if s.size=0∨3<s.size∨J5 s=false then 1000 else if Al (D6 s s.size)=s then D6 s s.size else 1000
theorem Mp {s:ByteArray} (h:J5 s=true):∃ n:Nat,D6 s s.size=n∧n<10 ^ s.size:=by
 have hd:∀ i,i<s.size→Cc (Ad s i)=true:=by
  rw[J5,List.all_eq_true]at h
  exact fun i hi=>h i (List.mem_range.2 hi)
 have:=Mq hd
 have e:((10 ^ s.size:Nat):Int)=10 ^ s.size:=by simp
 exact⟨(D6 s s.size).toNat,by omega,by omega⟩
theorem Jb {c:UInt8} (h:48≤c.toNat∧c.toNat≤57) {n:Nat} (hn:n=c.toNat-48):UInt8.ofNat (48+n)=c:=by
 subst hn
 have e:48+(c.toNat-48)=c.toNat:=by omega
 rw[e]
 exact UInt8.ofNat_toNat
theorem L5 {u:Nat} (h:u<10):revDigs u=[UInt8.ofNat (48+u)]:=by rw[revDigs,if_pos h]
theorem L6 {u:Nat} (h:¬ u<10):revDigs u=UInt8.ofNat (48+u % 10)::revDigs (u / 10):=by rw[revDigs,if_neg h]
theorem Agy {s:ByteArray} (h1:s.size≠0) (h2:s.size≤3) (hd:J5 s=true) (h0:¬ (1<s.size∧(Ad s 0).toNat=48)):Al (D6 s s.size)=s:=by
 obtain ⟨n,hn,_⟩:=Mp hd
 have hb:∀ i,i<s.size→48≤(Ad s i).toNat∧(Ad s i).toNat≤57:=by
  rw[J5,List.all_eq_true]at hd
  exact fun i hi=>digB_iff.1 (hd i (List.mem_range.2 hi))
 have hL:s.data.toList.length=s.size:=rfl
 rw[hn,C4]
 have hsz:s.size=1∨s.size=2∨s.size=3:=by omega
 rcases hsz with e | e | e
 ·have b0:=hb 0 j_
  rw[e]at hn hL
  have hv:D6 s 1=10 * 0+(((Ad s 0).toNat:Int)-48):=rfl
  have hn':n=(Ad s 0).toNat-48:=by omega
  match hl:s.data.toList,hL with
  | [a],_ =>
   have:Ad s 0=a:=by simp[Ad,hl]
   rw[this]at hn' b0
   rw[L5 j_,Jb b0 hn',← Bt s,hl]
   rfl
 ·have b0:=hb 0 j_
  have b1:=hb 1 j_
  rw[e]at hn hL
  have hv:D6 s 2=10 * (10 * 0+(((Ad s 0).toNat:Int)-48))+(((Ad s 1).toNat:Int)-48):=rfl
  match hl:s.data.toList,hL with
  | [a,b],_ =>
   have t0:Ad s 0=a:=by simp[Ad,hl]
   have t1:Ad s 1=b:=by simp[Ad,hl]
   rw[t0]at b0 hv h0
   rw[t1]at b1 hv
   have h0':a.toNat≠48:=fun x=>h0 ⟨by omega,x⟩
   rw[L6 j_,L5 j_,Jb b1 j_,Jb b0 j_,← Bt s,hl]
   rfl
 ·have b0:=hb 0 j_
  have b1:=hb 1 j_
  have b2:=hb 2 j_
  rw[e]at hn hL
  have hv:D6 s 3=10 * (10 * (10 * 0+(((Ad s 0).toNat:Int)-48))+(((Ad s 1).toNat:Int)-48))+(((Ad s 2).toNat:Int)-48):=rfl
  match hl:s.data.toList,hL with
  | [a,b,c],_ =>
   have t0:Ad s 0=a:=by simp[Ad,hl]
   have t1:Ad s 1=b:=by simp[Ad,hl]
   have t2:Ad s 2=c:=by simp[Ad,hl]
   rw[t0]at b0 hv h0
   rw[t1]at b1 hv
   rw[t2]at b2 hv
   have h0':a.toNat≠48:=fun x=>h0 ⟨by omega,x⟩
   rw[L6 j_,L6 j_,L5 j_,Jb b2 j_,Jb b1 j_,Jb b0 j_,← Bt s,hl]
   rfl
theorem Oz (s:ByteArray) (most:Int):smallT s most=if digitsD s=1000 then (0,false) else (digitsD s,decide (digitsD s≤most)):=by
 unfold digitsD
 by_cases h:s.size=0∨3<s.size∨J5 s=false
 ·rw[if_pos h,if_pos rfl,smallT,if_pos]
  rcases h with h | h | h
  ·exact .inl h
  ·exact .inr (.inl h)
  ·exact .inr (.inr (.inr h))
 ·rw[if_neg h]
  simp only[not_or,Bool.not_eq_false]at h
  obtain ⟨n,hn,hlt⟩:=Mp h.2.2
  have hn3:n<1000:=Nat.lt_of_lt_of_le hlt (Nat.pow_le_pow_right qe (by omega:s.size≤3))
  by_cases e:Al (D6 s s.size)=s
  ·rw[if_pos e,if_neg j_,hn]
   rw[hn,C4]at e
   have:=L4 n most hn3
   rwa [e]at this
  ·rw[if_neg e,if_pos rfl,smallT,if_pos]
   by_cases h0:1<s.size∧(Ad s 0).toNat=48
   ·exact .inr (.inr (.inl h0))
   ·exact absurd (Agy h.1 j_ h.2.2 h0) e
theorem I4 (s:ByteArray):0≤digitsD s∧digitsD s≤1000:=by
 unfold digitsD
 split
 ·omega
 ·rename_i h
  simp only[not_or,Bool.not_eq_false]at h
  obtain ⟨n,hn,hlt⟩:=Mp h.2.2
  have hn3:n<1000:=Nat.lt_of_lt_of_le hlt (Nat.pow_le_pow_right qe (by omega:s.size≤3))
  split<;>omega
theorem Tu (s:ByteArray):I8 s=decide (digitsD s≤255):=by
 rw[I8,Oz]
 split
 ·rename_i h;rw[h];rfl
 ·rfl
theorem Vn {s:ByteArray} (h:I8 s=true):(smallT s 255).1=digitsD s∧0≤digitsD s∧digitsD s≤255:=by
 rw[Tu]at h
 have h:=of_decide_eq_true h
 rw[Oz,if_neg j_]
 exact⟨q_,(I4 s).1,h⟩
def Ez (l:List ByteArray):Int:=l.foldl (fun a x=>a * 256+digitsD x) 0
theorem J0 (l:List ByteArray) (x:ByteArray):Ez (l++[x])=Ez l * 256+digitsD x:=by
 rw[Ez,List.foldl_append];rfl
theorem Hy:∀ (k:Nat) (l:List ByteArray),l.length=k→(∀ x∈l,I8 x=true)→0≤Ez l∧Ez l<256 ^ k
 | 0,l,hl,_=>by
  rw[List.length_eq_zero_iff.1 hl]
  simp[Ez]
 | k+1,l,hl,h=>by
  have hne:l≠[]:=fun e=>by rw[e]at hl;cases hl
  have e:=List.dropLast_concat_getLast hne
  have h1:=Hy k l.dropLast (by rw[List.length_dropLast];omega) fun c hc=>h c (List.dropLast_subset l hc)
  have h2:=Vn (h _ (List.getLast_mem hne))
  rw[← e,J0,Int.pow_succ]
  omega
theorem We:∀ (k:Nat) (l:List ByteArray),l.length=k→k≤4→(∀ x∈l,I8 x=true)→Kz l=Ez l
 | 0,l,hl,_,_=>by
  rw[List.length_eq_zero_iff.1 hl]
  rfl
 | k+1,l,hl,hk,h=>by
  have hne:l≠[]:=fun e=>by rw[e]at hl;cases hl
  have e:=List.dropLast_concat_getLast hne
  have hld:l.dropLast.length=k:=by rw[List.length_dropLast];omega
  have hsub:∀ c∈l.dropLast,I8 c=true:=fun c hc=>h c (List.dropLast_subset l hc)
  have h1:=We k l.dropLast hld j_ hsub
  have h2:=Vn (h _ (List.getLast_mem hne))
  have h3:=Hy k l.dropLast hld hsub
  have h4:(256:Int) ^ k≤16777216:=by
   have:k=0∨k=1∨k=2∨k=3:=by omega
   rcases this with rfl | rfl | rfl | rfl<;>decide
  obtain ⟨u,hu⟩:∃ u:Nat,Ez l.dropLast=u:=⟨(Ez l.dropLast).toNat,by omega⟩
  obtain ⟨v,hv⟩:∃ v:Nat,digitsD (l.getLast hne)=v:=⟨(digitsD (l.getLast hne)).toNat,by omega⟩
  rw[← e,J0,Jy,h1,h2.1,hu,hv,Jd u v j_ j_]
  rw[Int.natCast_add,Int.natCast_mul]
  rfl
theorem Adz {s:ByteArray} (h1:(Au 46 s).length=4) (h2:∀ x∈Au 46 s,I8 x=true):A8 s=(Ez (Au 46 s),true):=by
 rw[A8,if_pos ⟨h1,List.all_eq_true.2 h2⟩,We 4 _ h1 j_ h2]
theorem Af6 {s:ByteArray} (h:(Au 46 s).length≠4∨∃ x∈Au 46 s,I8 x=false):A8 s=(0,false):=by
 rw[A8,if_neg]
 rintro ⟨a,b⟩
 rcases h with h | ⟨x,hx,h⟩
 ·exact h a
 ·rw[List.all_eq_true.1 b x hx]at h;cases h
theorem L3 (d:UInt8):∀ (r cur:List UInt8),∃ p t,Bf d cur r=mkT (cur++p)::t
 | [],cur=>⟨[],[],by rw[Bf,List.append_nil]⟩
 | c::r,cur=>by
  rw[Bf]
  split
  ·exact⟨[],_,by rw[List.append_nil]⟩
  ·obtain ⟨p,t,e⟩:=L3 d r (cur++[c])
   exact⟨c::p,t,by rw[e,List.append_assoc];rfl⟩
theorem Ag6 {l:List UInt8} (h:3<l.length):I8 (mkT l)=false:=by
 rw[Tu,digitsD,if_pos (.inr (.inl (by rw[Ax];exact h)))]
 rfl
theorem Vx (one:ByteArray→Int × Bool):∀ (ps:List ByteArray) (out r:List Int),Bj one out ps=(r,true)→r=out++ps.map (fun p=>(one p).1)∧∀ p∈ps,(one p).2=true
 | [],out,r,h=>by
  rw[Bj]at h
  simp only[Prod.mk.injEq,and_true]at h
  exact⟨by simp[h],by simp⟩
 | p::ps,out,r,h=>by
  rw[Bj]at h
  split at h
  ·simp at h
  ·rename_i hn
   simp only[not_or,Bool.not_eq_false]at hn
   obtain ⟨a,b⟩:=Vx one ps _ r h
   refine⟨by rw[a,List.append_assoc];rfl,fun q hq=>?_⟩
   rcases List.mem_cons.1 hq with rfl | hq
   ·exact hn.1
   ·exact b q hq
theorem Mf (one:ByteArray→Int × Bool):∀ (ps:List ByteArray) (out:List Int),(Bj one out ps).2=false→Bj one out ps=([],false)
 | [],out,h=>by rw[Bj]at h;cases h
 | p::ps,out,h=>by
  rw[Bj]at h ⊢
  split
  ·rfl
  ·rename_i hn
   rw[if_neg hn]at h
   exact Mf one ps _ h
theorem Vy (one:ByteArray→Int × Bool):∀ (ps:List ByteArray) (out:List Int),(∀ p∈ps,(one p).2=true)→X2 (out++ps.map (fun p=>(one p).1))→(out++ps.map (fun p=>(one p).1)).length≤16→Bj one out ps=(out++ps.map (fun p=>(one p).1),true)
 | [],out,_,_,_=>by rw[Bj,List.map_nil,List.append_nil]
 | p::ps,out,h1,h2,h3=>by
  have e:out++(p::ps).map (fun p=>(one p).1)=(out++[(one p).1])++ps.map (fun p=>(one p).1):=by simp
  rw[Bj,if_neg,Vy one ps _ (fun q hq=>h1 q (by simp[hq])) (by rw[← e];exact h2) (by rw[← e];exact h3),e]
  rintro (hh | hh | ⟨y,hy,hyx⟩)
  ·rw[h1 p qf]at hh;cases hh
  ·simp only[List.length_append,List.length_map,List.length_cons]at h3;omega
  ·have hm:=List.mem_of_getLast? hy
   have:=(List.pairwise_append.1 h2).2.2 y hm (one p).1 qf
   omega
theorem Aey (hi:Int) (s:ByteArray):Cn (fun p=>numR p 1 hi) s=if (∀ p∈Au 44 s,(numR p 1 hi).2=true)∧Cp ((Au 44 s).map fun p=>(numR p 1 hi).1) 1 hi=true then ((Au 44 s).map (fun p=>(numR p 1 hi).1),true) else ([],false):=by
 unfold Cn
 have hne:0<(Au 44 s).length:=by rw[Df];omega
 split
 ·rename_i h
  obtain ⟨h1,h2⟩:=h
  have h3:=rising_iff.1 h2
  rw[Vy _ _ [] h1 (by simpa using h3.1) (by simpa using h3.2.2.2)]
  rfl
 ·rename_i h
  refine Mf _ _ _ ?_
  cases hg:(Bj (fun p=>numR p 1 hi) [] (Au 44 s)).2 with
  | false=>rfl
  | true =>
   exfalso
   have hp:=Jm hg
   obtain ⟨a,b⟩:=Vx _ _ _ _ hp
   obtain ⟨c,d,e,_⟩:=E9 _ _ _ _ hp List.Pairwise.nil qf
   rw[List.nil_append]at a
   rw[a]at c d
   refine h ⟨b,rising_iff.2 ⟨c,fun x hx=>?_,by simpa using hne,d⟩⟩
   obtain ⟨p,hp',rfl⟩:=List.mem_map.1 hx
   exact Dt (b p hp')
end Go.Sy.YtgblchnfjbkipaaGreatDoor
namespace Go.Sy.YtgblchnfjbkipaaGreatDoor
open Go.Proofs
set_option maxHeartbeats 400000
def formD (w:List ByteArray):List UInt8 :=
 if kindL (wdT w 0)=1 then [78,80,77] else if kindL (wdT w 0)=3 then [78,78,78,78] else if kindL (wdT w 0)=4 then [78,86,77,78]
 else if kindL (wdT w 0)=5 then [78,65] else if kindL (wdT w 0)=6 then [78,86,73] else if kindL (wdT w 0)=7 then [78,73,76]
 else if kindL (wdT w 0)=8 then [78,78,82,82] else if kindL (wdT w 0)=9 then [78,86,78,83]
 else if kindL (wdT w 0)=2 then (if w.length=7∧wdT w 4≠accessT then [78,78,67,75,87,84] else if w.length=6∧wdT w 4≠trunkT then [78,78,67,75,86] else [])
 else []
def nameD (s:ByteArray) (at':Nat) (l:LineM):LineM :=
 if at'=0 then { l with dev:=s } else if l.kind=8∨l.kind=9 then { l with name:=s } else if at'=1 then { l with port:=s } else if at'=2 then { l with peer:=s } else if at'=3 then { l with far:=s } else l
def Hw (b:Bool):Int:=if b=true then 0 else 21
def A9 (k:UInt8) (s:ByteArray) (at':Nat) (l:LineM):LineM × Int :=
 if k=78 then (if nameB s=false then (l,20) else (nameD s at' l,0))
 else if k=75 then (l,if s≠accessT∧s≠trunkT then 20 else 0)
 else if k=80 then ({ l with num:=(numR s 0 65535).1 },Hw (numR s 0 65535).2)
 else if k=67 then ({ l with cost:=(numR s 1 65535).1 },Hw (numR s 1 65535).2)
 else if k=77 then ({ l with mac:=(macR s).1 },Hw ((macR s).2 && statB (macR s).1))
 else if k=86 then ({ l with vlan:=(A1 s).1 },Hw (A1 s).2)
 else if k=87 then ({ l with vlan:=(A1 s).1 },Hw ((A1 s).2 || decide (s=dash)))
 else if k=84 then ({ l with tagged:=(listR 4094 s).1 },Hw (listR 4094 s).2)
 else if k=73 then ({ l with num:=(El s).1 },Hw (El s).2)
 else if k=65 then ({ l with addr:=(A8 s).1 },Hw ((A8 s).2 && decide (0<(A8 s).1)))
 else if k=76 then ({ l with addrs:=(Az s).1 },Hw ((Az s).2 && decide (0<(Az s).1.headD 0)))
 else if k=82 then ({ l with imports:=l.exports,exports:=(listR 65535 s).1 },Hw (listR 65535 s).2)
 else if k=83 then ({ l with addr:=(prefixR s).1.1,bits:=(prefixR s).1.2 },Hw ((prefixR s).2 && subnetB (prefixR s).1.1 (prefixR s).1.2))
 else (l,21)
def Hz (row k:Int):LineM:=⟨row,k,⟨#[]⟩,⟨#[]⟩,⟨#[]⟩,⟨#[]⟩,⟨#[]⟩,0,0,0,0,0,0,[],[],[],[]⟩
def Cf:List UInt8→List ByteArray→Nat→LineM→LineM × Int
 | [],_,_,l=>(l,0)
 | _::_,[],_,l=>(l,0)
 | k::f,s::w,at',l=>if (A9 k s at' l).2≠0 then (lineZ,(A9 k s at' l).2) else Cf f w (if k=78 then at'+1 else at') (A9 k s at' l).1
def readD (w:List ByteArray) (row:Int):LineM × Int :=
 if formD w=[]∨w.length≠(formD w).length+1 then (lineZ,22)
 else if (Cf (formD w) (w.drop 1) 0 (Hz row (kindL (wdT w 0)))).2≠0 then (lineZ,(Cf (formD w) (w.drop 1) 0 (Hz row (kindL (wdT w 0)))).2)
 else if kindL (wdT w 0)=2∧membersB (Cf (formD w) (w.drop 1) 0 (Hz row (kindL (wdT w 0)))).1.vlan (Cf (formD w) (w.drop 1) 0 (Hz row (kindL (wdT w 0)))).1.tagged=false then (lineZ,21)
 else ((Cf (formD w) (w.drop 1) 0 (Hz row (kindL (wdT w 0)))).1,0)
theorem Xl (s:ByteArray):0≤kindL s∧kindL s≤9:=by
 unfold kindL
 repeat' split
 all_goals omega
theorem len3 {w:List ByteArray} (h:w.length=3):∃ a b c,w=[a,b,c]:=by match w,h with | [a,b,c],_=>exact⟨a,b,c,rfl⟩
theorem len4 {w:List ByteArray} (h:w.length=4):∃ a b c d,w=[a,b,c,d]:=by match w,h with | [a,b,c,d],_=>exact⟨a,b,c,d,rfl⟩
theorem Ait {w:List ByteArray} (h:w.length=5):∃ a b c d e,w=[a,b,c,d,e]:=by match w,h with | [a,b,c,d,e],_=>exact⟨a,b,c,d,e,rfl⟩
theorem len6 {w:List ByteArray} (h:w.length=6):∃ a b c d e f,w=[a,b,c,d,e,f]:=by match w,h with | [a,b,c,d,e,f],_=>exact⟨a,b,c,d,e,f,rfl⟩
theorem len7 {w:List ByteArray} (h:w.length=7):∃ a b c d e f g,w=[a,b,c,d,e,f,g]:=by match w,h with | [a,b,c,d,e,f,g],_=>exact⟨a,b,c,d,e,f,g,rfl⟩
theorem M7 {w:List ByteArray} {row:Int} (h:formD w=[]∨w.length≠(formD w).length+1):readD w row=(lineZ,22):=by rw[readD,if_pos h]
theorem Wm {w:List ByteArray} {row:Int} (h:manyB (kindL (wdT w 0)) w=false):Ba w row=(lineZ,22):=by rw[Ba,if_pos (.inr h)]
theorem Adn {w:List ByteArray} {row:Int} (hw:w≠[]) (h:manyB (kindL (wdT w 0)) w=true):Ba w row=if At (Ap w row).2≠0 then (lineZ,At (Ap w row).2) else ((Ap w row).1,0):=by
 rw[Ba,if_neg (by simp[hw,h])]
theorem pos_ne (x:Int) (h:0≤x):decide (0<x)=decide (x≠0):=by
 by_cases h0:x=0
 ·subst h0;rfl
 ·rw[decide_eq_true h0,decide_eq_true j_]
theorem Ahl {l:List Int} (h:0<l.length) (hn:∀ x∈l,0≤x):decide (0<l.headD 0)=decide (l.head? ≠ some 0):=by
 match l,h with
 | x::l,_ =>
  have:=hn x qf
  by_cases h0:x=0
  ·subst h0;rfl
  ·rw[List.headD_cons,List.head?_cons,decide_eq_true j_,decide_eq_true (by simpa using h0)]
theorem Z7 (s:ByteArray):((Az s).2 && decide (0<(Az s).1.headD 0))=((Az s).2 && decide ((Az s).1.head? ≠ some 0)):=by
 cases h:(Az s).2 with
 | false=>rfl
 | true =>
  have hp:=Jm h
  obtain ⟨_,_,c,_⟩:=E9 A8 (Au 44 s) [] (Az s).1 hp List.Pairwise.nil qf
  have hl:0<(Az s).1.length:=by rw[c,Df];simp
  rw[Bool.true_and,Bool.true_and,Ahl hl fun x hx=>((Wc h).2 x hx).1]
theorem wkN (s:ByteArray) (n:Nat) (l:LineM):A9 78 s n l=if nameB s=false then (l,20) else (nameD s n l,0):=by simp[A9]
theorem wkK (s:ByteArray) (n:Nat) (l:LineM):A9 75 s n l=(l,if s≠accessT∧s≠trunkT then 20 else 0):=by simp[A9]
theorem wkP (s:ByteArray) (n:Nat) (l:LineM):A9 80 s n l=({ l with num:=(numR s 0 65535).1 },Hw (numR s 0 65535).2):=by simp[A9]
theorem wkC (s:ByteArray) (n:Nat) (l:LineM):A9 67 s n l=({ l with cost:=(numR s 1 65535).1 },Hw (numR s 1 65535).2):=by simp[A9]
theorem wkM (s:ByteArray) (n:Nat) (l:LineM):A9 77 s n l=({ l with mac:=(macR s).1 },Hw ((macR s).2 && statB (macR s).1)):=by simp[A9]
theorem wkV (s:ByteArray) (n:Nat) (l:LineM):A9 86 s n l=({ l with vlan:=(A1 s).1 },Hw (A1 s).2):=by simp[A9]
theorem wkW (s:ByteArray) (n:Nat) (l:LineM):A9 87 s n l=({ l with vlan:=(A1 s).1 },Hw ((A1 s).2 || decide (s=dash))):=by simp[A9]
theorem wkT (s:ByteArray) (n:Nat) (l:LineM):A9 84 s n l=({ l with tagged:=(listR 4094 s).1 },Hw (listR 4094 s).2):=by simp[A9]
theorem wkI (s:ByteArray) (n:Nat) (l:LineM):A9 73 s n l=({ l with num:=(El s).1 },Hw (El s).2):=by simp[A9]
theorem wkA (s:ByteArray) (n:Nat) (l:LineM):A9 65 s n l=({ l with addr:=(A8 s).1 },Hw ((A8 s).2 && decide (0<(A8 s).1))):=by simp[A9]
theorem wkL (s:ByteArray) (n:Nat) (l:LineM):A9 76 s n l=({ l with addrs:=(Az s).1 },Hw ((Az s).2 && decide (0<(Az s).1.headD 0))):=by simp[A9]
theorem wkR (s:ByteArray) (n:Nat) (l:LineM):A9 82 s n l=({ l with imports:=l.exports,exports:=(listR 65535 s).1 },Hw (listR 65535 s).2):=by simp[A9]
theorem wkS (s:ByteArray) (n:Nat) (l:LineM):A9 83 s n l=({ l with addr:=(prefixR s).1.1,bits:=(prefixR s).1.2 },Hw ((prefixR s).2 && subnetB (prefixR s).1.1 (prefixR s).1.2)):=by simp[A9]
theorem wkA' (s:ByteArray) (n:Nat) (l:LineM):A9 65 s n l=({ l with addr:=(A8 s).1 },Hw ((A8 s).2 && decide ((A8 s).1≠0))):=by rw[wkA,pos_ne _ (Ey s)]
theorem wkL' (s:ByteArray) (n:Nat) (l:LineM):A9 76 s n l=({ l with addrs:=(Az s).1 },Hw ((Az s).2 && decide ((Az s).1.head? ≠ some 0))):=by rw[wkL,Z7]
theorem wkW' (s:ByteArray) (n:Nat) (l:LineM) (h:s≠dash):A9 87 s n l=({ l with vlan:=(A1 s).1 },Hw (A1 s).2):=by rw[wkW,decide_eq_false h,Bool.or_false]
def Kl (o:LineM→LineM × Int) (r:LineM × Int):LineM × Int:=if r.2≠0 then (lineZ,r.2) else o r.1
def Aik (l:LineM):LineM × Int:=if membersB l.vlan l.tagged=false then (lineZ,21) else (l,0)
def M9 (L:LineM) (E:List (Bool × Int)):LineM × Int:=if At E≠0 then (lineZ,At E) else (L,0)
theorem Abs (L:LineM) (e:Int) (he:e≠0) (E:List (Bool × Int)):M9 L ((true,e)::E)=(lineZ,e):=by
 have h:At ((true,e)::E)=e:=rfl
 rw[M9,h,if_pos he]
theorem Abt (L:LineM) (e:Int) (E:List (Bool × Int)):M9 L ((false,e)::E)=M9 L E:=rfl
theorem Abr {o:LineM→LineM × Int} {k:UInt8} {f:List UInt8} {s:ByteArray} {w:List ByteArray} {n:Nat} {l:LineM} {e:Int} (he:e≠0) (h:(A9 k s n l).2=e):Kl o (Cf (k::f) (s::w) n l)=(lineZ,e):=by
 rw[Cf,h,if_pos he,Kl,if_pos he]
theorem W8 {o:LineM→LineM × Int} {k:UInt8} {f:List UInt8} {s:ByteArray} {w:List ByteArray} {n n':Nat} {l m:LineM} (h:A9 k s n l=(m,0)) (hn:(if k=78 then n+1 else n)=n'):Kl o (Cf (k::f) (s::w) n l)=Kl o (Cf f w n' m):=by
 subst hn
 rw[Cf,h,if_neg qf]
theorem Hg {o:LineM→LineM × Int} {f:List UInt8} {s:ByteArray} {w:List ByteArray} {n:Nat} {l L:LineM} {E:List (Bool × Int)} (h:Kl o (Cf f w (n+1) (nameD s n l))=M9 L E):Kl o (Cf (78::f) (s::w) n l)=M9 L ((!(nameB s),20)::E):=by
 cases hb:nameB s with
 | false =>
  rw[Bool.not_false,Abs _ _ qe]
  exact Abr qe (by rw[wkN,if_pos hb])
 | true =>
  rw[Bool.not_true,Abt,← h]
  exact W8 (by rw[wkN,if_neg (by simp[hb])]) q_
theorem E6 {o:LineM→LineM × Int} {k:UInt8} {f:List UInt8} {s:ByteArray} {w:List ByteArray} {n:Nat} {l m L:LineM} {b:Bool} {E:List (Bool × Int)} (hk:(if k=78 then n+1 else n)=n) (hw:A9 k s n l=(m,Hw b)) (h:Kl o (Cf f w n m)=M9 L E):Kl o (Cf (k::f) (s::w) n l)=M9 L ((!b,21)::E):=by
 cases b with
 | false =>
  rw[Bool.not_false,Abs _ _ qe]
  exact Abr qe (by rw[hw];rfl)
 | true =>
  rw[Bool.not_true,Abt,← h]
  exact W8 hw hk
theorem Ajf {o:LineM→LineM × Int} {f:List UInt8} {s:ByteArray} {w:List ByteArray} {n:Nat} {l L:LineM} {E:List (Bool × Int)} (h:(s=accessT∨s=trunkT)→Kl o (Cf f w n l)=M9 L E):Kl o (Cf (75::f) (s::w) n l)=M9 L ((decide (s≠accessT) && decide (s≠trunkT),20)::E):=by
 by_cases hs:s≠accessT∧s≠trunkT
 ·rw[decide_eq_true hs.1,decide_eq_true hs.2,Bool.and_true,Abs _ _ qe]
  exact Abr qe (by rw[wkK,if_pos hs])
 ·have hb:(decide (s≠accessT) && decide (s≠trunkT))=false:=by
   rw[Bool.eq_false_iff]
   intro hh
   rw[Bool.and_eq_true,decide_eq_true_eq,decide_eq_true_eq]at hh
   exact hs hh
  rw[hb,Abt,← h (by
   by_cases h1:s=accessT
   ·exact .inl h1
   ·by_cases h2:s=trunkT
    ·exact .inr h2
    ·exact absurd ⟨h1,h2⟩ hs)]
  exact W8 (by rw[wkK,if_neg hs]) q_
theorem Q1 {w:List ByteArray} {n:Nat} {l L:LineM} (h:l=L):Kl (fun l=>(l,0)) (Cf [] w n l)=M9 L []:=by subst h;rfl
theorem Agp {w:List ByteArray} {n:Nat} {l L:LineM} {v:Int} {t:List Int} (h:l=L) (hv:l.vlan=v) (ht:l.tagged=t):Kl Aik (Cf [] w n l)=M9 L [(!(membersB v t),21)]:=by
 subst h hv ht
 show Aik l=_
 unfold Aik
 cases hb:membersB l.vlan l.tagged
 ·rfl
 ·rfl
theorem Af7 {w:List ByteArray} {row:Int} {f:List UInt8} (hf:formD w=f) (h0:f≠[]) (hl:w.length=f.length+1) (hk:kindL (wdT w 0)≠2):readD w row=Kl (fun l=>(l,0)) (Cf f (w.drop 1) 0 (Hz row (kindL (wdT w 0)))):=by
 subst hf
 rw[readD,if_neg (by simp[h0,hl]),Kl]
 congr 1
 rw[if_neg (fun h=>hk h.1)]
theorem Vj {w:List ByteArray} {row:Int} {f:List UInt8} (hf:formD w=f) (h0:f≠[]) (hl:w.length=f.length+1) (hk:kindL (wdT w 0)=2):readD w row=Kl Aik (Cf f (w.drop 1) 0 (Hz row (kindL (wdT w 0)))):=by
 subst hf
 rw[readD,if_neg (by simp[h0,hl]),Kl]
 congr 1
 simp only[hk,true_and]
 rfl
theorem Wl {w:List ByteArray} {row:Int} {L:LineM} {E:List (Bool × Int)} (hw:w≠[]) (h:manyB (kindL (wdT w 0)) w=true) (hs:Ap w row=(L,E)):Ba w row=M9 L E:=by
 rw[Adn hw h,hs];rfl
theorem Hq {w:List ByteArray} {row:Int} {f:List UInt8} {n:Nat} (hf:formD w=f) (hfl:f.length=n) (h0:n≠0) (hk:kindL (wdT w 0)≠2) (hm:manyB (kindL (wdT w 0)) w=decide (w.length=n+1)) (h:w.length=n+1→Kl (fun l=>(l,0)) (Cf f (w.drop 1) 0 (Hz row (kindL (wdT w 0))))=M9 (Ap w row).1 (Ap w row).2):readD w row=Ba w row:=by
 subst hfl
 by_cases hl:w.length=f.length+1
 ·rw[Af7 hf (fun e=>h0 (by rw[e];rfl)) hl hk,Wl (fun e=>by rw[e]at hl;cases hl) (by rw[hm];exact decide_eq_true hl) rfl]
  exact h hl
 ·rw[M7 (.inr (by rw[hf];exact hl)),Wm (by rw[hm];exact decide_eq_false hl)]
theorem Tm (w:List ByteArray) (row:Int):readD w row=Ba w row:=by
 have hk:=Xl (wdT w 0)
 have hcase:kindL (wdT w 0)=0∨kindL (wdT w 0)=1∨kindL (wdT w 0)=2∨kindL (wdT w 0)=3∨kindL (wdT w 0)=4∨kindL (wdT w 0)=5∨kindL (wdT w 0)=6∨kindL (wdT w 0)=7∨kindL (wdT w 0)=8∨kindL (wdT w 0)=9:=by omega
 clear hk
 have ne:∀ {n:Nat},w.length=n+1→w≠[]:=fun h e=>by rw[e]at h;cases h
 rcases hcase with k | k | k | k | k | k | k | k | k | k
 ·rw[M7 (.inl (by simp[formD,k])),Wm (by simp[manyB,k])]
 ·refine Hq (n:=3) (f:=[78,80,77]) (by simp[formD,k]) q_ qe j_ (by simp[manyB,k]) fun hl=>?_
  obtain ⟨a,b,c,d,rfl⟩:=len4 hl
  rw[wd0]at k
  rw[wd0,k]
  unfold Ap
  simp only[wd0,wdS,k]
  refine Hg ?_
  refine E6 q_ (wkP _ _ _) ?_
  refine E6 q_ (wkM _ _ _) ?_
  exact Q1 q_
 ·have hm:manyB (kindL (wdT w 0)) w=(if w.length<6 then false else if wdT w 4=accessT then decide (w.length=6) else if wdT w 4=trunkT then decide (w.length=7) else decide (w.length≤7)):=by simp[manyB,k]
  have hf:formD w=(if w.length=7∧wdT w 4≠accessT then [78,78,67,75,87,84] else if w.length=6∧wdT w 4≠trunkT then [78,78,67,75,86] else []):=by simp[formD,k]
  by_cases g7:w.length=7∧wdT w 4≠accessT
  ·rw[if_pos g7]at hf
   have hm':manyB (kindL (wdT w 0)) w=true:=by
    rw[hm,if_neg j_,if_neg g7.2]
    split<;>simp[g7.1]
   rw[Vj hf qf (by simp[g7.1]) k,Wl (L:=(Ap w row).1) (E:=(Ap w row).2) (ne g7.1) hm' rfl]
   clear hm hm' hf
   obtain ⟨hl,ha⟩:=g7
   obtain ⟨a,b,c,d,e,f,g,rfl⟩:=len7 hl
   rw[wd0]at k
   have ha:e≠accessT:=ha
   rw[wd0,k]
   unfold Ap
   simp only[wd0,wdS,k]
   have hp:Bs [a,b,c,d,e,f,g]=(if e=trunkT then (if f=dash then (0,(listR 4094 g).1,[(!(listR 4094 g).2,21)]) else ((A1 f).1,(listR 4094 g).1,[(!(A1 f).2,21),(!(listR 4094 g).2,21)])) else (0,[],[])):=by
    unfold Bs
    simp only[wd0,wdS]
    exact if_neg ha
   rw[hp]
   refine Hg (Hg (E6 q_ (wkC _ _ _) (Ajf fun ht=>?_)))
   have ht:=ht.resolve_left ha
   rw[if_pos ht]
   by_cases hd:f=dash
   ·rw[if_pos hd]
    have hv:A1 f=(0,false):=by subst hd;decide +kernel
    rw[W8 (m:=_) (by rw[wkW,hv,hd];rfl) rfl]
    exact E6 q_ (wkT _ _ _) (Agp q_ q_ q_)
   ·rw[if_neg hd]
    refine E6 q_ (wkW' _ _ _ hd) ?_
    exact E6 q_ (wkT _ _ _) (Agp q_ q_ q_)
  ·rw[if_neg g7]at hf
   by_cases g6:w.length=6∧wdT w 4≠trunkT
   ·rw[if_pos g6]at hf
    have hm':manyB (kindL (wdT w 0)) w=true:=by
     rw[hm,if_neg j_,if_neg g6.2]
     split<;>simp[g6.1]
    rw[Vj hf qf (by simp[g6.1]) k,Wl (L:=(Ap w row).1) (E:=(Ap w row).2) (ne g6.1) hm' rfl]
    clear hm hm' hf
    obtain ⟨hl,ht⟩:=g6
    obtain ⟨a,b,c,d,e,f,rfl⟩:=len6 hl
    rw[wd0]at k
    have ht:e≠trunkT:=ht
    rw[wd0,k]
    unfold Ap
    simp only[wd0,wdS,k]
    have hp:Bs [a,b,c,d,e,f]=(if e=accessT then ((A1 f).1,[],[(!(A1 f).2,21)]) else (0,[],[])):=by
     unfold Bs
     simp only[wd0,wdS]
     by_cases ha:e=accessT
     ·exact(if_pos ha).trans (if_pos ha).symm
     ·exact(if_neg ha).trans ((if_neg ht).trans (if_neg ha).symm)
    rw[hp]
    refine Hg (Hg (E6 q_ (wkC _ _ _) (Ajf fun ha=>?_)))
    have ha:=ha.resolve_right ht
    rw[if_pos ha]
    exact E6 q_ (wkV _ _ _) (Agp q_ q_ q_)
   ·rw[if_neg g6]at hf
    rw[M7 (.inl hf),Wm]
    rw[hm]
    split
    ·rfl
    ·rename_i hlt
     split
     ·rename_i ha
      have:w.length≠6:=fun h=>g6 ⟨h,by rw[ha];exact Qp⟩
      simp[this]
     ·rename_i ha
      split
      ·rename_i ht
       have:w.length≠7:=fun h=>g7 ⟨h,ha⟩
       simp[this]
      ·rename_i ht
       have h6:w.length≠6:=fun h=>g6 ⟨h,ht⟩
       have h7:w.length≠7:=fun h=>g7 ⟨h,ha⟩
       have:¬ w.length≤7:=by omega
       simp[this]
 ·refine Hq (n:=4) (f:=[78,78,78,78]) (by simp[formD,k]) q_ qe j_ (by simp[manyB,k]) fun hl=>?_
  obtain ⟨a,b,c,d,e',rfl⟩:=Ait hl
  rw[wd0]at k
  rw[wd0,k]
  unfold Ap
  simp only[wd0,wdS,k]
  refine Hg ?_
  refine Hg ?_
  refine Hg ?_
  refine Hg ?_
  exact Q1 q_
 ·refine Hq (n:=4) (f:=[78,86,77,78]) (by simp[formD,k]) q_ qe j_ (by simp[manyB,k]) fun hl=>?_
  obtain ⟨a,b,c,d,e',rfl⟩:=Ait hl
  rw[wd0]at k
  rw[wd0,k]
  unfold Ap
  simp only[wd0,wdS,k]
  refine Hg ?_
  refine E6 q_ (wkV _ _ _) ?_
  refine E6 q_ (wkM _ _ _) ?_
  refine Hg ?_
  exact Q1 q_
 ·refine Hq (n:=2) (f:=[78,65]) (by simp[formD,k]) q_ qe j_ (by simp[manyB,k]) fun hl=>?_
  obtain ⟨a,b,c,rfl⟩:=len3 hl
  rw[wd0]at k
  rw[wd0,k]
  unfold Ap
  simp only[wd0,wdS,k]
  refine Hg ?_
  refine E6 q_ (wkA' _ _ _) ?_
  exact Q1 q_
 ·refine Hq (n:=3) (f:=[78,86,73]) (by simp[formD,k]) q_ qe j_ (by simp[manyB,k]) fun hl=>?_
  obtain ⟨a,b,c,d,rfl⟩:=len4 hl
  rw[wd0]at k
  rw[wd0,k]
  unfold Ap
  simp only[wd0,wdS,k]
  refine Hg ?_
  refine E6 q_ (wkV _ _ _) ?_
  refine E6 q_ (wkI _ _ _) ?_
  exact Q1 q_
 ·refine Hq (n:=3) (f:=[78,73,76]) (by simp[formD,k]) q_ qe j_ (by simp[manyB,k]) fun hl=>?_
  obtain ⟨a,b,c,d,rfl⟩:=len4 hl
  rw[wd0]at k
  rw[wd0,k]
  unfold Ap
  simp only[wd0,wdS,k]
  refine Hg ?_
  refine E6 q_ (wkI _ _ _) ?_
  refine E6 q_ (wkL' _ _ _) ?_
  exact Q1 q_
 ·refine Hq (n:=4) (f:=[78,78,82,82]) (by simp[formD,k]) q_ qe j_ (by simp[manyB,k]) fun hl=>?_
  obtain ⟨a,b,c,d,e',rfl⟩:=Ait hl
  rw[wd0]at k
  rw[wd0,k]
  unfold Ap
  simp only[wd0,wdS,k]
  refine Hg ?_
  refine Hg ?_
  refine E6 q_ (wkR _ _ _) ?_
  refine E6 q_ (wkR _ _ _) ?_
  exact Q1 q_
 ·refine Hq (n:=4) (f:=[78,86,78,83]) (by simp[formD,k]) q_ qe j_ (by simp[manyB,k]) fun hl=>?_
  obtain ⟨a,b,c,d,e',rfl⟩:=Ait hl
  rw[wd0]at k
  rw[wd0,k]
  unfold Ap
  simp only[wd0,wdS,k]
  refine Hg ?_
  refine E6 q_ (wkV _ _ _) ?_
  refine Hg ?_
  refine E6 q_ (wkS _ _ _) ?_
  exact Q1 q_
end Go.Sy.YtgblchnfjbkipaaGreatDoor
namespace Go.Sy.YtgblchnfjbkipaaGreatDoor
open Go.Proofs
attribute [local irreducible] Go.Sy.G Go.Sy.DR
structure Bx (Q:Prop):Prop where out:Q
theorem sE {α:Sort _} {a b:α} {K:Prop} (e:a=b) (h:K):a=b∧K:=⟨e,h⟩
theorem xE {α:Sort _} {a b:α} {K:a=b→Prop} (e:a=b) (h:K e):∃ e:a=b,K e:=⟨e,h⟩
theorem sL {a b:Int} {K:Prop} (e:a≤b) (h:K):a≤b∧K:=⟨e,h⟩
theorem xL {a b:Int} {K:a≤b→Prop} (e:a≤b) (h:K e):∃ e:a≤b,K e:=⟨e,h⟩
theorem sM {a b:Nat} {K:Prop} (e:a≤b) (h:K):a≤b∧K:=⟨e,h⟩
theorem sT {a b:Nat} {K:Prop} (e:a<b) (h:K):a<b∧K:=⟨e,h⟩
theorem xT {a b:Nat} {K:a<b→Prop} (e:a<b) (h:K e):∃ e:a<b,K e:=⟨e,h⟩
theorem sN {a b:Int} {K:Prop} (e:a≠b) (h:K):a≠b∧K:=⟨e,h⟩
theorem sI {a:Int} {K:Prop} (e:I64 a) (h:K):I64 a∧K:=⟨e,h⟩
theorem ct {p q:Prop} {b:Bool} (h:q) (e:b=true→False:=by
 intro _h
 first | exact absurd _h qe | exact Bool.false_ne_true (Eq.trans (Eq.symm (by with_reducible assumption)) _h) | (simp at _h;done) | (simp at _h;omega)):(b=true→p)∧(b=false→q):=⟨fun x=>(e x).elim,fun _=>h⟩
theorem cf {p q:Prop} {b:Bool} (h:p) (e:b=false→False:=by
 intro _h
 first | exact absurd _h qe | exact Bool.false_ne_true (Eq.trans (Eq.symm _h) (by with_reducible assumption)) | (simp at _h;done) | (simp at _h;omega)):(b=true→p)∧(b=false→q):=⟨fun _=>h,fun x=>(e x).elim⟩
theorem S {P Q:Prop} (h:Q) (e:Bx Q→P:=by
 intro hb
 first | refine rg ?_ | refine rd y_ ?_ | skip
 conv=>whnf
 repeat (first
  | ((first | refine aF ?_ | refine aT ?_ | refine ct ?_ | refine cf ?_);(first | refine rg ?_ | refine rd y_ ?_);(conv=>whnf))
  | ((first | refine⟨(by kernel_rfl:Xu _ _=true),?_⟩ | refine sI (by unfold I64;omega) ?_);(conv=>whnf)))
 exact hb.out):P:=e ⟨h⟩
theorem T {P Q:Prop} (h:Q) (e:Bx Q→P:=by
 intro hb
 refine S ?_
 repeat ((first | refine sE (by exact rfl) ?_ | refine sL (by first | omega | decide) ?_ | refine xL (by first | omega | decide) ?_ | refine sT (by first | omega | decide) ?_ | refine xT (by first | omega | decide) ?_ | refine sM (by first | omega | decide) ?_ | refine sN (by first | omega | decide) ?_ | refine xE (by exact rfl) ?_);refine S ?_)
 exact hb.out):P:=e ⟨h⟩
theorem D {P:Prop} (h:P:=by
 apply Bv
 ·exact q_
 ·(repeat (first | exact ResVs.nil | (apply ResVs.cons;(first | exact .tmp | exact .cell rfl rfl rfl rfl))))
 ·exact q_
 ·exact q_):P:=h
theorem U {P:Prop} (h:P:=by
 refine⟨?_,?_,q_,q_⟩
 ·repeat (first | exact trivial | exact rfl | refine⟨rfl,rfl,?_⟩)
 ·repeat (first | exact trivial | refine⟨.inl rfl,rfl,?_⟩ | refine⟨.inr rfl,rfl,?_⟩)):P:=h
theorem doneE {P:Program} {fn:Func} {F:Fr} {R:SV} {H':Obs} {Γ:Go.Sy.Ty P} {n:Nat} {bn:List Nat} {hbn:∀ k,F.k0 k≠.new→k∈bn} {k:List KI} {s:SS} {rs:List ResultVar} (hf:fn.results=rs.toArray) {xs:List SV} (hx:ResVs Γ.get s rs xs)
  (hR:R.ren (A4 [])=U0 xs) (hRn:R.inn (Obs.keys H')=true) (hsub:Sub ⟨P,Γ,F,n,Ll P fn F R H',bn,hbn⟩ s [] [] H'):G ⟨P,Γ,F,n,Ll P fn F R H',bn,hbn⟩ (.code .ret::k) s:=done hf hx [] H' (fun _ h=>h) hR hRn hsub
theorem doneF {P:Program} {fn:Func} {F:Fr} {R:SV} {H':Obs} {Γ:Go.Sy.Ty P} {n:Nat} {bn:List Nat} {hbn:∀ k,F.k0 k≠.new→k∈bn} {s:SS} {rs:List ResultVar} (hf:fn.results=rs.toArray) {xs:List SV} (hx:ResVs Γ.get s rs xs)
  (hR:R.ren (A4 [])=U0 xs) (hRn:R.inn (Obs.keys H')=true) (hsub:Sub ⟨P,Γ,F,n,Ll P fn F R H',bn,hbn⟩ s [] [] H'):G ⟨P,Γ,F,n,Ll P fn F R H',bn,hbn⟩ [] s:=B1 hf hx [] H' (fun _ h=>h) hR hRn hsub
theorem E0 {P:Prop} (h:P:=by
 first | apply doneE | apply doneF
 ·exact q_
 ·(repeat (first | exact ResVs.nil | (apply ResVs.cons;(first | exact .tmp | exact .cell rfl rfl rfl rfl))))
 ·exact q_
 ·exact q_
 ·exact U):P:=h
theorem W {P:Prop} (h:P:=by
 repeat (first | exact trivial | exact rfl | refine⟨rfl,?_⟩)):P:=h
theorem V {P:Prop} (h:P:=by
 repeat (first | exact trivial | refine⟨.inl rfl,?_⟩ | refine⟨.inr rfl,?_⟩)):P:=h
theorem C {P:Program} {f:FuncId} {fn:Func} {c:Code} {A:List SV} {R:SV} {Z Q:Prop} (hs:Sy.Spec P f A [] R []) (hf:Fun P f fn c) (h:Q) (e:Sy.Spec P f A [] R []→Fun P f fn c→Bx Q→Z:=by
 intro hs hf hb
 first | refine Ajg hs hf rfl rfl rfl rfl rfl ?_ | refine Ah1 hs hf rfl rfl rfl y_ rfl ?_
 refine T ?_
 exact hb.out):Z:=e hs hf ⟨h⟩
theorem X {C:Cx} {k:List KI} {s:SS} {all:Array Oper} {o:Oper} {rest:List Oper} {V:Up} {Q:Prop} (hg:Good C.P o s V) (h:Q) (hd:Ly C.n o=true:=by exact rfl) (hw:Dh C.n all o s=some true:=by exact rfl) (e:Bx Q→G C (.ops all rest::k) (s.upd o.dst V):=by
 intro hb
 refine T ?_
 exact hb.out):G C (.ops all (o::rest)::k) s:=Cq hg hd hw (e ⟨h⟩)
theorem Xd {C:Cx} {k:List KI} {s:SS} {all:Array Oper} {done:List Stp} {o:Oper} {rest:List Oper} {V:Up} {Q:Prop} (hg:Good C.P o s V) (h:Q) (hi:all[done.length]? = some o:=by kernel_rfl) (hw:Dh C.n all o s=some true:=by exact rfl) (hn:(Eu o || I1 o)=false:=by exact rfl) (e:Bx Q→DR C k all (done++[⟨done.length,o,V,true⟩]) rest (s.upd o.dst V):=by
 intro hb
 refine T ?_
 exact hb.out):DR C k all done (o::rest) s:=Acu hg hi hw (e ⟨h⟩) hn
theorem Xe {C:Cx} {k:List KI} {s:SS} {all:Array Oper} {done:List Stp} {o:Oper} {rest:List Oper} {V:Up} {Q:Prop} (hg:Good C.P o s V) (h:Q) (hk:KeepL s V.objs:=by exact W) (hi:all[done.length]? = some o:=by kernel_rfl) (hw:Dh C.n all o s=some true:=by exact rfl) (hn:(Eu o || I1 o)=false:=by exact rfl) (e:Bx Q→DR C k all (done++[⟨done.length,o,⟨V.v,V.rd++V.ws,[]⟩,true⟩]) rest (s.upd o.dst ⟨V.v,V.rd++V.ws,[]⟩):=by
 intro hb
 refine T ?_
 exact hb.out):DR C k all done (o::rest) s:=stepD2 hg hk hi hw (e ⟨h⟩) hn
end Go.Sy.YtgblchnfjbkipaaGreatDoor
namespace Go.Sy.YtgblchnfjbkipaaGreatDoor
open Go.Proofs
attribute [local irreducible] Go.Sy.G Go.Sy.DR
set_option maxRecDepth 100000
set_option maxHeartbeats 4000000
theorem Adv {s:ByteArray} (h:s.size=0):s=⟨#[]⟩:=by
 have h2:s.data.toList.length=0:=h
 exact Dm (List.eq_nil_of_length_eq_zero h2)
theorem Aes (s:ByteArray) (hs:s.size≤1000000):Sy.Spec Tryz.prog 178 [Ab s] [] (Af (wordB s)) []:=cT F178 Tryz.ntmps178 fun F hF=>by
 have hsz:s.data.toList.length=s.size:=rfl
 have hw:=wordB.eq_1 s
 obtain ⟨r,hr⟩:∃ r,wordB s=r:=⟨_,rfl⟩
 rw[hr]at hw ⊢
 refine T ?_
 refine B3 s.size (fun j=>J1 (fun _ c=>Mn c) s.data.toList j) (fun j=>[(0,Ab s),(5,Aa s.size),(6,Aa j)]) (fun _=>[]) [] (Cz _ _) U ?_
 intro j hj hI
 refine T ?_
 refine⟨fun h=>?_,fun h=>?_⟩
 ·have hlt:j<s.data.toList.length:=qA h
  have hb:Ad s j=s.data.toList[j]:=Dj hlt
  have hno:=fun h=>@all_at' _ Mn s.data.toList j hlt h
  have hnx:=fun h=>Ce (p:=fun _ c=>Mn c) hI hlt h
  rw[← hb]at hno hnx
  clear h
  have hx:Mn (Ad s j)=(decide (32<(Ad s j).toNat) && decide ((Ad s j).toNat≤126) && decide ((Ad s j).toNat≠35)):=rfl
  by_cases h1:32<(Ad s j).toNat
  ·by_cases h2:(Ad s j).toNat≤126
   ·by_cases h3:(Ad s j).toNat=35
    ·rw[hno (by rw[hx];simp[h3]),Bool.and_false]at hw
     subst hw
     refine T ?_
     exact D
    ·refine T ?_
     exact B5 [] hI j_ (hnx (by rw[hx];simp[h1,h2,h3])) U
   ·rw[hno (by rw[hx];simp[h2]),Bool.and_false]at hw
    subst hw
    refine T ?_
    exact D
  ·rw[hno (by rw[hx];simp[h1]),Bool.and_false]at hw
   subst hw
   refine T ?_
   exact D
 ·have hje:j=s.size:=qB h
  subst hje
  rw[D9 hI (Nat.le_refl _),Bool.and_true]at hw
  clear h
  by_cases h0:s.size=0
  ·have hs:=Adv h0
   have he:(s == (⟨#[]⟩:ByteArray))=true:=(C1 _ _).2 hs
   have hw:r=false:=by rw[hw,h0];rfl
   have he2:(!(s == (⟨#[]⟩:ByteArray)))=false:=by rw[he];rfl
   subst hw
   refine T ?_
   exact D
  ·have he:(s == (⟨#[]⟩:ByteArray))=false:=by
    cases he:(s == (⟨#[]⟩:ByteArray))
    ·rfl
    ·exact absurd (by rw[(C1 _ _).1 he];rfl) h0
   have he2:(!(s == (⟨#[]⟩:ByteArray)))=true:=by rw[he];rfl
   by_cases h4:s.size≤40
   ·have hw:r=true:=by rw[hw];simp[h4];omega
    subst hw
    refine T ?_
    refine Bv q_ (.cons .tmp .nil) (congrArg Af ?_) q_
    exact(decide_eq_true j_).symm
   ·have hw:r=false:=by rw[hw];simp[h4]
    subst hw
    refine T ?_
    refine Bv q_ (.cons .tmp .nil) (congrArg Af ?_) q_
    exact(decide_eq_false j_).symm
abbrev strO (row:ByteArray) (f:Nat) (l:List ByteArray):Obs:=[(1,.box [Aa f]),(2,.box [.osl 3]),(3,.row 1 Ab l),(4,.box [Ab row])]
abbrev strN (row:ByteArray) (f:Nat) (l:List ByteArray):Obs:=[(1,.box [Aa f]),(2,.box [.osl 5]),(3,.non),(5,.row 1 Ab l),(4,.box [Ab row])]
theorem Afu (row:ByteArray) (f i:Nat) (l:List ByteArray) (hfi:f≤i) (hi:i≤row.size) (hs:row.size≤1000000) (hl:l.length≤1000000) :
  Sy.Spec Tryz.prog 234 [Aa i,.ptr 1 0,.ptr 2 0,.ptr 4 0] (strO row f l) (.tup []) (strN row (i+1) (l++Ch ((row.data.toList.take i).drop f))):=cT F234 Tryz.ntmps234 fun F hF=>by
 have hsz:row.data.toList.length=row.size:=rfl
 have hx:row.extract f i=mkT ((row.data.toList.take i).drop f):=by rw[← Bu,Bt]
 refine T ?_
 refine⟨fun h=>?_,fun h=>?_⟩
 ·have h1:f<i:=qA h
  have hne:(row.data.toList.take i).drop f≠[]:=fun e=>by
   have:=congrArg List.length e
   rw[List.length_drop,List.length_take]at this
   simp at this;omega
  rw[Ch,if_neg hne,← hx]
  refine T ?_
  refine⟨⟨by omega,by omega,by omega⟩,?_⟩
  refine T ?_
  refine Xd (Ai Γ.toTy 14 q_ q_ q_ q_ q_ (.row q_) (.lit (e:=Ab) (l:=[row.extract f i]) q_ q_) qf (by simp;omega) (by simp;omega)) ?_
  refine T ?_
  exact B1 q_ .nil [(5,14)] (strN row (i+1) (l++[row.extract f i])) (fun _ h=>h) q_ q_ U
 ·have h1:¬ f<i:=qB h
  have he:(row.data.toList.take i).drop f=[]:=List.drop_eq_nil_of_le (by rw[List.length_take];omega)
  rw[he,Ch,if_pos rfl,List.append_nil]
  refine Ah6 3 1000 q_ q_ qe ?_
  refine T ?_
  exact B1 q_ .nil [(5,1000)] (strN row (i+1) l) (fun _ h=>h) q_ q_ U
theorem Aai (row:ByteArray) (hs:row.size≤100000):Sy.Spec Tryz.prog 177 [Ab row] [] (.sl 1 Ab (B7 [] row.data.toList)) []:=cT F177 Tryz.ntmps177 fun F hF=>by
 have hsz:row.data.toList.length=row.size:=rfl
 refine T ?_
 refine Aac 3 0 1000 1 Ab q_ q_ q_ q_ ?_
 refine T ?_
 refine Av (fun x:List ByteArray × Nat × Nat=>B7 [] row.data.toList=x.1++B7 ((row.data.toList.take x.2.2).drop x.2.1) (row.data.toList.drop x.2.2)∧x.2.1≤x.2.2∧x.2.2≤row.size∧x.1.length≤x.2.2)
  (fun x=>[(1,.ptr 1 0),(3,.ptr 3 0),(5,.clo (.func 234) [] [.ptr 4 0,.ptr 3 0,.ptr 1 0]),(6,Aa x.2.2)]) (fun x=>[(1,.box [Ab row]),(3,.box [.osl 1000]),(4,.box [Aa x.2.1]),(1000,.row 1 Ab x.1)]) (fun x=>row.size-x.2.2) ([],0,0) [] ⟨rfl,by simp,by simp,by simp⟩ U ?_
 rintro ⟨l,f,i⟩ ⟨hI,hfi,his,hlen⟩
 dsimp only at hI hfi his hlen ⊢
 have q:=fun i hfi hi=>Afu row f i l hfi hi j_ j_
 refine T ?_
 refine⟨fun h=>?_,fun h=>?_⟩
 ·have hlt:i<row.size:=qA h
  have hlt':i<row.data.toList.length:=hlt
  have hb:Ad row i=row.data.toList[i]:=Dj hlt'
  have hdr:row.data.toList.drop i=row.data.toList[i]::row.data.toList.drop (i+1):=List.drop_eq_getElem_cons hlt'
  have htk:(row.data.toList.take (i+1)).drop f=(row.data.toList.take i).drop f++[row.data.toList[i]]:=by
   rw[List.take_succ_eq_append_getElem hlt',List.drop_append_of_le_length (by rw[List.length_take];omega)]
  rw[← hb]at hdr htk
  have q:=q i hfi j_
  clear h
  rw[hdr,B7]at hI
  have hlf:(l++Ch ((row.data.toList.take i).drop f)).length≤i+1:=by
   rw[Ch];split<;>simp<;>omega
  have e0:(row.data.toList.take (i+1)).drop (i+1)=[]:=List.drop_eq_nil_of_le (by rw[List.length_take];omega)
  have h35:Ad row i=35↔(Ad row i).toNat=35:=⟨fun e=>by rw[e];rfl,fun e=>UInt8.toNat_inj.1 e⟩
  have h32:Ad row i=32↔(Ad row i).toNat=32:=⟨fun e=>by rw[e];rfl,fun e=>UInt8.toNat_inj.1 e⟩
  have h9:Ad row i=9↔(Ad row i).toNat=9:=⟨fun e=>by rw[e];rfl,fun e=>UInt8.toNat_inj.1 e⟩
  by_cases c1:(Ad row i).toNat=35
  ·rw[if_pos (h35.2 c1)]at hI
   rw[hI]
   refine T ?_
   refine X (Ar [(1,4),(2,3),(3,1000),(4,1),(5,900)] (As q_ q_ F234) q q_ W q_ V) ?_
   refine A5 900 q_ ?_
   refine T ?_
   exact D
  ·rw[if_neg (fun e=>c1 (h35.1 e))]at hI
   by_cases c2:(Ad row i).toNat=32∨(Ad row i).toNat=9
   ·rw[if_pos (c2.elim (fun e=>.inl (h32.2 e)) (fun e=>.inr (h9.2 e)))]at hI
    by_cases c3:(Ad row i).toNat=32
    ·refine T ?_
     refine X (Ar [(1,4),(2,3),(3,1000),(4,1),(5,900)] (As q_ q_ F234) q q_ W q_ V) ?_
     refine Ag (l++Ch ((row.data.toList.take i).drop f),i+1,i+1) [(1000,900)] ⟨?_,Nat.le_refl _,hlt,hlf⟩ (by dsimp only;omega) U
     dsimp only
     rw[hI,List.append_assoc,e0]
    ·refine T ?_
     refine X (Ar [(1,4),(2,3),(3,1000),(4,1),(5,900)] (As q_ q_ F234) q q_ W q_ V) ?_
     refine Ag (l++Ch ((row.data.toList.take i).drop f),i+1,i+1) [(1000,900)] ⟨?_,Nat.le_refl _,hlt,hlf⟩ (by dsimp only;omega) U
     dsimp only
     rw[hI,List.append_assoc,e0]
   ·simp only[not_or]at c2
    rw[if_neg (by rw[h32,h9];omega)]at hI
    refine T ?_
    refine Ag (l,f,i+1) [] ⟨?_,by dsimp only;omega,hlt,by dsimp only;omega⟩ (by dsimp only;omega) U
    dsimp only
    rw[hI,htk]
 ·have hie:i=row.size:=qB h
  subst hie
  have q:=q row.size hfi j_
  have hdl:row.data.toList.drop row.size=[]:=by rw[← hsz,List.drop_length]
  rw[hdl,B7]at hI
  rw[hI]
  clear h
  refine T ?_
  refine X (Ar [(1,4),(2,3),(3,1000),(4,1),(5,900)] (As q_ q_ F234) q q_ W q_ V) ?_
  refine A5 900 q_ ?_
  refine T ?_
  exact D
theorem Il:∀ (l cur:List UInt8),(B7 cur l).length≤l.length+1
 | [],cur=>by rw[B7,Ch];split<;>simp
 | c::l,cur=>by
  rw[B7]
  have h1:=Il l []
  have h2:=Il l (cur++[c])
  have h3:(Ch cur).length≤1:=by rw[Ch];split<;>simp
  split
  ·simp;omega
  ·split
   ·simp;omega
   ·simp;omega
theorem Je:∀ (l cur:List UInt8),∀ s∈B7 cur l,s.size≤cur.length+l.length
 | [],cur,s,hs=>by
  rw[B7,Ch]at hs
  split at hs
  ·cases hs
  ·simp at hs;rw[hs,Ax];simp
 | c::l,cur,s,hs=>by
  have h3:∀ s∈Ch cur,s.size≤cur.length:=fun s hs=>by
   rw[Ch]at hs
   split at hs
   ·cases hs
   ·simp at hs;rw[hs,Ax];exact Nat.le_refl _
  rw[B7]at hs
  split at hs
  ·have:=h3 s hs;omega
  ·split at hs
   ·rcases List.mem_append.1 hs with hs | hs
    ·have:=h3 s hs;omega
    ·have:=Je l [] s hs
     simp at this ⊢;omega
   ·have:=Je l (cur++[c]) s hs
    simp at this ⊢;omega
theorem Ab2 (row:ByteArray) (hs:row.size≤100000):Sy.Spec Tryz.prog 110 [Ab row] [] (.tup [.sl 1 Ab (wordsT row).1,Aa (wordsT row).2]) []:=cT F110 Tryz.ntmps110 fun F hF=>by
 have q:=Aai row hs
 have hres:=wordsT.eq_1 row
 have hlen:=Il row.data.toList []
 have hsz:=Je row.data.toList []
 have hrs:row.data.toList.length=row.size:=rfl
 generalize wordsT row=res at *
 generalize B7 [] row.data.toList=l at *
 refine T ?_
 refine C q F177 ?_
 refine B3 l.length (fun j=>J1 (fun _ s=>wordB s) l j) (fun j=>[(4,.sl 1 Ab l),(9,.sl 1 Ab l),(10,Aa l.length),(11,Aa j)]) (fun _=>[]) [] (Cz _ _) U ?_
 intro j hj hI
 refine T ?_
 refine⟨fun h=>?_,fun h=>?_⟩
 ·have hlt:j<l.length:=qA h
  have hlt0:((j:Nat):Int).toNat<l.length:=hlt
  have hno:=fun h=>@all_at' _ wordB l j hlt h
  have hnx:=fun h=>Ce (p:=fun _ s=>wordB s) hI hlt h
  have hsj:=hsz l[j] (List.getElem_mem hlt)
  clear h
  refine T ?_
  refine C (Aes (l[((j:Nat):Int).toNat]'hlt0) (by rw[show l[((j:Nat):Int).toNat]'hlt0=l[j] from q_];simp at hsj;omega)) F178 ?_
  refine⟨fun h=>?_,fun h=>?_⟩
  ·have hf:wordB l[j]=false:=by simpa using h
   rw[if_neg (by rw[hno hf];simp)]at hres
   subst hres
   refine T ?_
   refine Bm 2 1 Ab q_ ?_
   refine T ?_
   exact D
  ·have ht:wordB l[j]=true:=by simpa using h
   refine T ?_
   exact B5 [] hI j_ (hnx ht) U
 ·have hje:j=l.length:=qB h
  subst hje
  rw[if_pos (D9 hI (Nat.le_refl _))]at hres
  subst hres
  refine T ?_
  exact D
theorem Agj (s:ByteArray) (hs:s.size≤1000000):Sy.Spec Tryz.prog 196 [Ab s] [] (Af (wordB s)) []:=cT F196 Tryz.ntmps196 fun F hF=>by
 have hsz:s.data.toList.length=s.size:=rfl
 have hw:=wordB.eq_1 s
 obtain ⟨r,hr⟩:∃ r,wordB s=r:=⟨_,rfl⟩
 rw[hr]at hw ⊢
 by_cases h0:s.size<1
 ·have f0:decide ((s.size:Int)<1)=true:=decide_eq_true j_
  have e:r=false:=by rw[hw,decide_eq_false (by omega:¬ 0<s.size)];rfl
  subst e
  refine T ?_
  exact D
 have f0:decide ((s.size:Int)<1)=false:=decide_eq_false j_
 by_cases h1:s.size>40
 ·have f1:decide ((s.size:Int)>40)=true:=decide_eq_true j_
  have e:r=false:=by rw[hw,decide_eq_false (by omega:¬ s.size≤40),Bool.and_false];rfl
  subst e
  refine T ?_
  exact D
 have f1:decide ((s.size:Int)>40)=false:=decide_eq_false j_
 rw[decide_eq_true (by omega:0<s.size),decide_eq_true (by omega:s.size≤40),Bool.true_and,Bool.true_and]at hw
 refine T ?_
 refine B3 s.size (fun j=>J1 (fun _ c=>Mn c) s.data.toList j) (fun j=>[(0,Ab s),(3,Aa j)]) (fun _=>[]) [] (Cz _ _) U ?_
 intro j hj hI
 refine T ?_
 refine⟨fun h=>?_,fun h=>?_⟩
 ·have hlt:j<s.data.toList.length:=qA h
  have hb:Ad s j=s.data.toList[j]:=Dj hlt
  have hno:=fun h=>@all_at' _ Mn s.data.toList j hlt h
  have hnx:=fun h=>Ce (p:=fun _ c=>Mn c) hI hlt h
  rw[← hb]at hno hnx
  clear h
  have hx:Mn (Ad s j)=(decide (32<(Ad s j).toNat) && decide ((Ad s j).toNat≤126) && decide ((Ad s j).toNat≠35)):=rfl
  have ej:Ad s ((j:Nat):Int).toNat=Ad s j:=rfl
  by_cases k1:(Ad s j).toNat<33
  ·have g1:decide (((Ad s ((j:Nat):Int).toNat).toNat:Int)<33)=true:=decide_eq_true (by rw[ej];omega)
   have e:r=false:=by rw[hw,hno (by rw[hx,decide_eq_false (by omega:¬ 32<(Ad s j).toNat)];rfl)]
   subst e
   refine T ?_
   exact D
  have g1:decide (((Ad s ((j:Nat):Int).toNat).toNat:Int)<33)=false:=decide_eq_false (by rw[ej];omega)
  by_cases k2:(Ad s j).toNat>126
  ·have g2:decide (((Ad s ((j:Nat):Int).toNat).toNat:Int)>126)=true:=decide_eq_true (by rw[ej];omega)
   have e:r=false:=by rw[hw,hno (by rw[hx,decide_eq_false (by omega:¬ (Ad s j).toNat≤126),Bool.and_false];rfl)]
   subst e
   refine T ?_
   exact D
  have g2:decide (((Ad s ((j:Nat):Int).toNat).toNat:Int)>126)=false:=decide_eq_false (by rw[ej];omega)
  by_cases k3:(Ad s j).toNat=35
  ·have g3:(((Ad s ((j:Nat):Int).toNat).toNat:Int) == 35)=true:=by rw[ej,beq_iff_eq];omega
   have e:r=false:=by rw[hw,hno (by rw[hx];simp[k3])]
   subst e
   refine T ?_
   exact D
  have g3:(((Ad s ((j:Nat):Int).toNat).toNat:Int) == 35)=false:=by rw[ej,beq_eq_false_iff_ne];omega
  refine T ?_
  exact B5 [] hI j_ (hnx (by rw[hx];simp[k3];omega)) U
 ·have hjs:j=s.size:=qB h
  subst hjs
  rw[D9 hI (Nat.le_refl _)]at hw
  subst hw
  clear h
  refine T ?_
  exact D
theorem Agk (b:List UInt8) (hb:b.length≤1000000):Sy.Spec Tryz.prog 113 [.sl 1 Ak b] [] (.tup [.sl 1 Ab (rowsT b).1,Aa (rowsT b).2]) []:=cT F113 Tryz.ntmps113 fun F hF=>by
 have hres:=rowsT.eq_1 b
 generalize rowsT b=res at *
 by_cases c0:20000<b.length
 ·rw[if_pos c0]at hres
  have f0:decide ((b.length:Int)>20000)=true:=decide_eq_true j_
  subst hres
  refine T ?_
  refine Bm 2 1 Ab q_ ?_
  refine T ?_
  exact D
 rw[if_neg c0]at hres
 have f0:decide ((b.length:Int)>20000)=false:=decide_eq_false j_
 refine T ?_
 refine Ct 4 1000 1 Ab q_ q_ ?_
 refine T ?_
 refine Av (fun x:Nat × Nat × List ByteArray=>x.2.1≤x.1∧x.1≤b.length∧x.2.2.length≤x.1∧Cm [] b=x.2.2++Cm ((b.take x.1).drop x.2.1) (b.drop x.1)) (fun x=>[(0,.sl 1 Ak b),(4,.osl 1000),(5,Aa x.2.1),(6,Aa x.1)]) (fun x=>[(1000,.row 1 Ab x.2.2)]) (fun x=>b.length-x.1) (0,0,[]) [] ⟨by simp,by simp,by simp,by simp⟩ U ?_
 rintro ⟨i,st,out⟩ ⟨h1,h2,h3,hI⟩
 dsimp only at h1 h2 h3 hI ⊢
 refine T ?_
 refine⟨fun h=>?_,fun h=>?_⟩
 ·have hlt:i<b.length:=qA h
  have hlt0:((i:Nat):Int).toNat<b.length:=hlt
  clear h
  have hcur:(b.take (i+1)).drop st=(b.take i).drop st++[b[i]]:=by
   rw[List.take_succ_eq_append_getElem hlt,List.drop_append_of_le_length (by rw[List.length_take];omega)]
  rw[List.drop_eq_getElem_cons hlt,Cm]at hI
  by_cases hc:b[i]=10
  ·have f1:(((b[((i:Nat):Int).toNat]'hlt0).toNat:Int) == 10)=true:=by
    simp only[Int.toNat_natCast]
    rw[hc];rfl
   rw[if_pos hc]at hI
   refine T ?_
   refine X (Cw (lo:=st) (hi:=i) Γ.toTy ((b.take i).drop st) q_ q_ q_ q_ (.inr ⟨_,_,q_,q_⟩) (.inr ⟨_,_,q_,q_⟩) h1 h2 q_) ?_
   refine X (Bk Γ.toTy (bs:=(b.take i).drop st) q_ q_ q_ q_ q_ q_ q_ .sl) ?_
   refine X (Ai Γ.toTy 28 q_ q_ q_ q_ q_ (.row q_) (.lit (e:=Ab) (l:=[mkT ((b.take i).drop st)]) q_ q_) qf (by simp only[List.length_singleton];omega) (by simp only[List.length_singleton];omega)) ?_
   refine Ag (i+1,i+1,out++[mkT ((b.take i).drop st)]) [(1000,28)] ⟨Nat.le_refl _,hlt,by simp only[List.length_append,List.length_singleton];omega,?_⟩ (by dsimp only;omega) U
   dsimp only
   rw[hI,show (b.take (i+1)).drop (i+1)=[] from List.drop_eq_nil_of_le (by rw[List.length_take];omega)]
   simp
  ·have f1:(((b[((i:Nat):Int).toNat]'hlt0).toNat:Int) == 10)=false:=by
    simp only[Int.toNat_natCast]
    rw[beq_eq_false_iff_ne]
    intro e
    exact hc (UInt8.toNat_inj.1 (by show _=10;omega))
   rw[if_neg hc]at hI
   refine T ?_
   refine Ag (i+1,st,out) [] ⟨by dsimp only;omega,hlt,by dsimp only;omega,?_⟩ (by dsimp only;omega) U
   dsimp only
   rw[hI,hcur]
 ·have hie:i=b.length:=qB h
  subst hie
  clear h
  rw[List.drop_length,List.take_length,Cm]at hI
  by_cases c1:st<b.length
  ·have f1:decide ((st:Int)<(b.length:Int))=true:=decide_eq_true j_
   have hne:b.drop st≠[]:=fun e=>by have:=congrArg List.length e;rw[List.length_drop]at this;simp at this;omega
   rw[if_neg hne]at hI
   have hol:(out++[mkT (b.drop st)]).length=out.length+1:=by simp
   by_cases c2:400<(Cm [] b).length
   ·rw[if_pos c2]at hres
    rw[hI]at c2
    have f2:decide (((out++[mkT (b.drop st)]).length:Int)>400)=true:=decide_eq_true j_
    subst hres
    refine T ?_
    refine X (Cw (lo:=st) (hi:=b.length) Γ.toTy (b.drop st) q_ q_ q_ q_ (.inr ⟨_,_,q_,q_⟩) (.inl ⟨q_,q_⟩) h1 (Nat.le_refl _) (by rw[List.take_length])) ?_
    refine X (Bk Γ.toTy (bs:=b.drop st) q_ q_ q_ q_ q_ q_ q_ .sl) ?_
    refine X (Ai Γ.toTy 41 q_ q_ q_ q_ q_ (.row q_) (.lit (e:=Ab) (l:=[mkT (b.drop st)]) q_ q_) qf (by simp only[List.length_singleton];omega) (by simp only[List.length_singleton];omega)) ?_
    refine Bm 2 1 Ab q_ ?_
    refine T ?_
    exact D
   ·rw[if_neg c2]at hres
    rw[hI]at c2 hres
    have f2:decide (((out++[mkT (b.drop st)]).length:Int)>400)=false:=decide_eq_false j_
    subst hres
    refine T ?_
    refine X (Cw (lo:=st) (hi:=b.length) Γ.toTy (b.drop st) q_ q_ q_ q_ (.inr ⟨_,_,q_,q_⟩) (.inl ⟨q_,q_⟩) h1 (Nat.le_refl _) (by rw[List.take_length])) ?_
    refine X (Bk Γ.toTy (bs:=b.drop st) q_ q_ q_ q_ q_ q_ q_ .sl) ?_
    refine X (Ai Γ.toTy 41 q_ q_ q_ q_ q_ (.row q_) (.lit (e:=Ab) (l:=[mkT (b.drop st)]) q_ q_) qf (by simp only[List.length_singleton];omega) (by simp only[List.length_singleton];omega)) ?_
    refine A5 41 q_ ?_
    refine T ?_
    exact D
  ·have f1:decide ((st:Int)<(b.length:Int))=false:=decide_eq_false j_
   rw[if_pos (List.drop_eq_nil_of_le j_),List.append_nil]at hI
   by_cases c2:400<(Cm [] b).length
   ·rw[if_pos c2]at hres
    rw[hI]at c2
    have f2:decide ((out.length:Int)>400)=true:=decide_eq_true j_
    subst hres
    refine T ?_
    refine Bm 2 1 Ab q_ ?_
    refine T ?_
    exact D
   ·rw[if_neg c2]at hres
    rw[hI]at c2 hres
    have f2:decide ((out.length:Int)>400)=false:=decide_eq_false j_
    subst hres
    refine T ?_
    refine A5 1000 q_ ?_
    refine T ?_
    exact D
theorem Ii (a b:ByteArray):(a++b).data.toList=a.data.toList++b.data.toList:=by
 rw[ByteArray.data_append,Array.toList_append]
theorem T9 (l:List ByteArray) (x sep:ByteArray) (h:l≠[]):Bn (l++[x]) sep=Bn l sep++sep++x:=by
 apply Dm
 rw[Ii,Ii]
 cases l with
 | nil=>exact absurd rfl h
 | cons y r =>
  simp only[Bn,List.cons_append,List.map_cons,List.map_append,List.map_nil,Lib.join_cons,Lib.joinTail,List.flatten_append,List.flatten_cons,List.flatten_nil,List.append_nil,List.append_assoc]
theorem Aex (x sep:ByteArray):Bn [x] sep=x:=by
 apply Dm
 simp[Bn,Lib.join_one]
theorem Agl (l:List ByteArray) (h0:l.length≤100000) (h1:Ea l≤10000000000):Sy.Spec Tryz.prog 202 [.sl 1 Ab l] [] (Ab (Bn l space)) []:=cT F202 Tryz.ntmps202 fun F hF=>by
 have hspl:space.size=1:=rfl
 have hsz:∀ j,(Bn (l.take j) space).size≤10000000000+100000:=fun j=>by
  have a1:=Eo (l.take j) space
  have a2:Ea (l.take j)≤Ea l:=by
   have:Ea l=Ea (l.take j)+Ea (l.drop j):=by
    unfold Ea
    rw[← List.sum_append,← List.map_append,List.take_append_drop]
   omega
  have a3:(l.take j).length≤l.length:=by rw[List.length_take];omega
  rw[hspl]at a1
  omega
 have hmem:∀ x∈l,x.size≤10000000000:=fun x hx=>by
  obtain ⟨a,b,rfl⟩:=List.append_of_mem hx
  simp only[Ea,List.map_append,List.map_cons,List.sum_append,List.sum_cons]at h1
  omega
 refine T ?_
 refine Av (fun j:Nat=>j≤l.length) (fun j=>[(0,.sl 1 Ab l),(3,Ab (Bn (l.take j) space)),(4,Aa j)]) (fun _=>[]) (fun j=>l.length-j) 0 [] qf ⟨⟨q_,q_,q_,q_,q_,q_,z_⟩,z_,q_,q_⟩ ?_
 intro j hj
 refine T ?_
 refine⟨fun h=>?_,fun h=>?_⟩
 ·have hlt:j<l.length:=qA h
  have hlt0:((j:Nat):Int).toNat<l.length:=hlt
  clear h
  have hs1:=hsz j
  have hm:=hmem (l[((j:Nat):Int).toNat]'hlt0) (List.getElem_mem _)
  have htk:l.take (j+1)=l.take j++[l[((j:Nat):Int).toNat]'hlt0]:=List.take_succ_eq_append_getElem hlt
  by_cases hj0:j=0
  ·subst hj0
   have hnx:Bn (l.take 1) space=Bn (l.take 0) space++(l[((0:Nat):Int).toNat]'hlt0):=by
    rw[htk,List.take_zero,List.nil_append,Aex]
    apply Dm
    rw[Ii];rfl
   have f1:decide (((0:Nat):Int)>0)=false:=rfl
   refine T ?_
   exact Ag 1 [] hlt j_ ⟨⟨q_,q_,congrArg Ab hnx,q_,q_,q_,z_⟩,z_,q_,q_⟩
  ·have hne:l.take j≠[]:=fun e=>by have:=congrArg List.length e;rw[List.length_take,List.length_nil]at this;omega
   have hnx:Bn (l.take (j+1)) space=Bn (l.take j) space++space++(l[((j:Nat):Int).toNat]'hlt0):=by rw[htk,T9 _ _ _ hne]
   have f1:decide (((j:Nat):Int)>0)=true:=decide_eq_true j_
   have hz2:(Bn (l.take j) space++space).size=(Bn (l.take j) space).size+1:=by rw[ByteArray.size_append,hspl]
   have g1:(Bn (l.take j) space).size+(⟨#[32]⟩:ByteArray).size≤9223372036854775807:=by rw[show (⟨#[32]⟩:ByteArray).size=1 from rfl];omega
   have g2:(Bn (l.take j) space++(⟨#[32]⟩:ByteArray)).size+(l[((j:Nat):Int).toNat]'hlt0).size≤9223372036854775807:=by show (Bn (l.take j) space++space).size+_≤_;omega
   refine T ?_
   exact Ag (j+1) [] hlt j_ ⟨⟨q_,q_,congrArg Ab hnx,q_,q_,q_,z_⟩,z_,q_,q_⟩
 ·have hje:j=l.length:=qB h
  subst hje
  clear h
  rw[List.take_length]
  refine T ?_
  exact D
theorem Sw:(!(mkT [] == ⟨#[]⟩))=false:=rfl
theorem Sv {l:List UInt8} (h:l≠[]):(!(mkT l == ⟨#[]⟩))=true:=by
 cases hb:(mkT l == ⟨#[]⟩)
 ·rfl
 ·exfalso
  have e:=beq_iff_eq.1 hb
  exact h (by have:=congrArg (fun b:ByteArray=>b.data.toList) e;simpa [mkT] using this)
def WordI (s:List UInt8) (x:ByteArray × Nat × List UInt8 × List ByteArray):Prop :=
 x.2.1≤x.1.size+1∧x.2.2.2.length≤x.2.1∧x.2.2.1.length≤x.2.1∧x.1.size≤1000000 ∧
 (x.2.1≤x.1.size→B7 [] s=x.2.2.2++B7 x.2.2.1 (x.1.data.toList.drop x.2.1))∧(x.1.size<x.2.1→B7 [] s=x.2.2.2∧x.2.2.1=[])
theorem Iv:∀ (l cur:List UInt8),∀ w∈B7 cur l,w.size≤cur.length+l.length
 | [],cur,w,hw=>by
  rw[B7,Ch]at hw
  split at hw
  ·cases hw
  ·rw[List.mem_singleton]at hw;subst hw;rw[Ax];omega
 | c::r,cur,w,hw=>by
  rw[B7]at hw
  have hf:∀ w∈Ch cur,w.size≤cur.length:=fun w hw=>by
   rw[Ch]at hw
   split at hw
   ·cases hw
   ·rw[List.mem_singleton]at hw;subst hw;rw[Ax];omega
  rw[List.length_cons]
  split at hw
  ·have:=hf w hw;omega
  ·split at hw
   ·rcases List.mem_append.1 hw with h | h
    ·have:=hf w h;omega
    ·have:=Iv r [] w h;rw[List.length_nil]at this;omega
   ·have:=Iv r (cur++[c]) w hw
    rw[List.length_append,List.length_singleton]at this
    omega
theorem Aeg (s:ByteArray) (hs:s.size≤1000000):Sy.Spec Tryz.prog 114 [Ab s] [] (.tup [.sl 1 Ab (wordsT s).1,Aa (wordsT s).2]) []:=cT F114 Tryz.ntmps114 fun F hF=>by
 have hres:=wordsT.eq_1 s
 generalize wordsT s=res at *
 refine T ?_
 refine Ct 4 1000 1 Ab q_ q_ ?_
 refine T ?_
 refine Av (WordI s.data.toList) (fun x=>[(0,Ab x.1),(4,.osl 1000),(5,Ab (mkT x.2.2.1)),(6,Aa x.2.1)]) (fun x=>[(1000,.row 1 Ab x.2.2.2)]) (fun x=>2000000-x.2.1) (s,0,[],[]) [] ⟨by simp,by simp,by simp,hs,fun _=>by simp,fun h=>by simp at h⟩ U ?_
 rintro ⟨rw0,i,cur,out⟩ ⟨h1,h2,h3,h4,h5,h6⟩
 dsimp only at h1 h2 h3 h4 h5 h6 ⊢
 refine T ?_
 refine⟨fun h=>?_,fun h=>?_⟩
 ·have hle:i≤rw0.size:=qA h
  have hI:=h5 hle
  clear h h5 h6
  by_cases a1:i<rw0.size
  ·have f1:decide ((i:Int)<(rw0.size:Int))=true:=decide_eq_true j_
   have hlt:i<rw0.data.toList.length:=a1
   have hb:Ad rw0 i=rw0.data.toList[i]:=Dj hlt
   have ej:Ad rw0 ((i:Nat):Int).toNat=Ad rw0 i:=rfl
   rw[List.drop_eq_getElem_cons hlt,B7,← hb]at hI
   by_cases k1:Ad rw0 i=35
   ·have g1:(((Ad rw0 ((i:Nat):Int).toNat).toNat:Int) == 35)=true:=by rw[ej,k1];rfl
    rw[if_pos k1]at hI
    have hR:(rw0.extract (0:Int).toNat ((i:Nat):Int).toNat).size=i:=by
     rw[ByteArray.size_extract]
     show min i rw0.size-0=i
     omega
    have g2:decide ((i:Int)<((rw0.extract (0:Int).toNat ((i:Nat):Int).toNat).size:Int))=false:=decide_eq_false j_
    by_cases he:cur=[]
    ·subst he
     rw[show Ch []=[] from rfl,List.append_nil]at hI
     have ge:=Sw
     refine T ?_
     refine⟨⟨by omega,by omega,by omega⟩,?_⟩
     refine T ?_
     exact Ag (rw0.extract (0:Int).toNat ((i:Nat):Int).toNat,i+1,([]:List UInt8),out) [] ⟨by dsimp only;omega,by dsimp only;omega,by simp,by dsimp only;omega,fun h=>by dsimp only at h;omega,fun _=>⟨hI,q_⟩⟩ (by dsimp only;omega) U
    ·have ge:=Sv he
     rw[show Ch cur=[mkT cur] from if_neg he]at hI
     refine T ?_
     refine⟨⟨by omega,by omega,by omega⟩,?_⟩
     refine T ?_
     refine X (Ai Γ.toTy 55 q_ q_ q_ q_ q_ (.row q_) (.lit (e:=Ab) (l:=[mkT cur]) q_ q_) qf (by simp only[List.length_singleton];omega) (by simp only[List.length_singleton];omega)) ?_
     exact Ag (rw0.extract (0:Int).toNat ((i:Nat):Int).toNat,i+1,([]:List UInt8),out++[mkT cur]) [(1000,55)] ⟨by dsimp only;omega,by simp only[List.length_append,List.length_singleton];omega,by simp,by dsimp only;omega,fun h=>by dsimp only at h;omega,fun _=>⟨hI,q_⟩⟩ (by dsimp only;omega) U
   have g1:(((Ad rw0 ((i:Nat):Int).toNat).toNat:Int) == 35)=false:=by
    rw[ej,beq_eq_false_iff_ne]
    intro e
    exact k1 (UInt8.toNat_inj.1 (by show _=35;omega))
   rw[if_neg k1]at hI
   have u8f:∀ (v:Nat) (w:UInt8),w.toNat=v→Ad rw0 i≠w→(((Ad rw0 ((i:Nat):Int).toNat).toNat:Int) != (v:Int))=true:=fun v w hw hn=>by
    rw[ej,bne_iff_ne]
    intro e
    exact hn (UInt8.toNat_inj.1 j_)
   by_cases k2:Ad rw0 i=32
   ·have g2:(((Ad rw0 ((i:Nat):Int).toNat).toNat:Int) != 32)=false:=by rw[ej,k2];rfl
    rw[if_pos (.inl k2)]at hI
    by_cases he:cur=[]
    ·subst he
     rw[show Ch []=[] from rfl,List.nil_append]at hI
     have ge:=Sw
     refine T ?_
     exact Ag (rw0,i+1,([]:List UInt8),out) [] ⟨by dsimp only;omega,by dsimp only;omega,by simp,h4,fun _=>hI,fun h=>by dsimp only at h;omega⟩ (by dsimp only;omega) U
    ·have ge:=Sv he
     rw[show Ch cur=[mkT cur] from if_neg he,← List.append_assoc]at hI
     refine T ?_
     refine X (Ai Γ.toTy 55 q_ q_ q_ q_ q_ (.row q_) (.lit (e:=Ab) (l:=[mkT cur]) q_ q_) qf (by simp only[List.length_singleton];omega) (by simp only[List.length_singleton];omega)) ?_
     exact Ag (rw0,i+1,([]:List UInt8),out++[mkT cur]) [(1000,55)] ⟨by dsimp only;omega,by simp only[List.length_append,List.length_singleton];omega,by simp,h4,fun _=>hI,fun h=>by dsimp only at h;omega⟩ (by dsimp only;omega) U
   have g2:(((Ad rw0 ((i:Nat):Int).toNat).toNat:Int) != 32)=true:=u8f 32 32 rfl k2
   by_cases k3:Ad rw0 i=9
   ·have g3:(((Ad rw0 ((i:Nat):Int).toNat).toNat:Int) != 9)=false:=by rw[ej,k3];rfl
    rw[if_pos (.inr k3)]at hI
    by_cases he:cur=[]
    ·subst he
     rw[show Ch []=[] from rfl,List.nil_append]at hI
     have ge:=Sw
     refine T ?_
     exact Ag (rw0,i+1,([]:List UInt8),out) [] ⟨by dsimp only;omega,by dsimp only;omega,by simp,h4,fun _=>hI,fun h=>by dsimp only at h;omega⟩ (by dsimp only;omega) U
    ·have ge:=Sv he
     rw[show Ch cur=[mkT cur] from if_neg he,← List.append_assoc]at hI
     refine T ?_
     refine X (Ai Γ.toTy 55 q_ q_ q_ q_ q_ (.row q_) (.lit (e:=Ab) (l:=[mkT cur]) q_ q_) qf (by simp only[List.length_singleton];omega) (by simp only[List.length_singleton];omega)) ?_
     exact Ag (rw0,i+1,([]:List UInt8),out++[mkT cur]) [(1000,55)] ⟨by dsimp only;omega,by simp only[List.length_append,List.length_singleton];omega,by simp,h4,fun _=>hI,fun h=>by dsimp only at h;omega⟩ (by dsimp only;omega) U
   have g3:(((Ad rw0 ((i:Nat):Int).toNat).toNat:Int) != 9)=true:=u8f 9 9 rfl k3
   rw[if_neg (by simp[k2,k3])]at hI
   have hx:mkT (cur++[Ad rw0 i])=mkT cur++rw0.extract ((i:Nat):Int).toNat (((i:Nat):Int)+1).toNat:=by
    apply Dm
    rw[Ii,A2,A2,← Bt rw0,Bu,A2]
    have e1:(((i:Nat):Int)+1).toNat=i+1:=by omega
    simp only[e1,Int.toNat_natCast,Bt]
    rw[List.take_succ_eq_append_getElem hlt,List.drop_append_of_le_length (by rw[List.length_take];omega),List.drop_eq_nil_of_le (by rw[List.length_take];omega),← hb]
    rfl
   have hz1:(mkT cur).size=cur.length:=Ax cur
   have hz2:(rw0.extract ((i:Nat):Int).toNat (((i:Nat):Int)+1).toNat).size≤1:=by rw[ByteArray.size_extract];omega
   have g4:(mkT cur).size+(rw0.extract ((i:Nat):Int).toNat (((i:Nat):Int)+1).toNat).size≤9223372036854775807:=by omega
   refine T ?_
   refine⟨⟨by omega,by omega,by omega⟩,?_⟩
   refine T ?_
   exact Ag (rw0,i+1,cur++[Ad rw0 i],out) [] ⟨by dsimp only;omega,by dsimp only;omega,by simp only[List.length_append,List.length_singleton];omega,h4,fun _=>hI,fun h=>by dsimp only at h;omega⟩ (by dsimp only;omega) ⟨⟨q_,q_,q_,q_,congrArg Ab hx,q_,q_,q_,z_⟩,⟨.inl q_,q_,z_⟩,q_,q_⟩
  ·have f1:decide ((i:Int)<(rw0.size:Int))=false:=decide_eq_false j_
   have hie:i=rw0.size:=by omega
   have hdr:rw0.data.toList.drop i=[]:=List.drop_eq_nil_of_le (by show rw0.size≤i;omega)
   rw[hdr,B7]at hI
   by_cases he:cur=[]
   ·subst he
    rw[show Ch []=[] from rfl,List.append_nil]at hI
    have ge:=Sw
    refine T ?_
    exact Ag (rw0,i+1,([]:List UInt8),out) [] ⟨by dsimp only;omega,by dsimp only;omega,by simp,h4,fun h=>by dsimp only at h;omega,fun _=>⟨hI,q_⟩⟩ (by dsimp only;omega) U
   ·have ge:=Sv he
    rw[show Ch cur=[mkT cur] from if_neg he]at hI
    refine T ?_
    refine X (Ai Γ.toTy 55 q_ q_ q_ q_ q_ (.row q_) (.lit (e:=Ab) (l:=[mkT cur]) q_ q_) qf (by simp only[List.length_singleton];omega) (by simp only[List.length_singleton];omega)) ?_
    exact Ag (rw0,i+1,([]:List UInt8),out++[mkT cur]) [(1000,55)] ⟨by dsimp only;omega,by simp only[List.length_append,List.length_singleton];omega,by simp,h4,fun h=>by dsimp only at h;omega,fun _=>⟨hI,q_⟩⟩ (by dsimp only;omega) U
 ·have hgt:rw0.size<i:=qB h
  have hI:=(h6 hgt).1
  have hsm:∀ w∈out,w.size≤1000000:=fun w hw=>by
   have:=Iv s.data.toList [] w (by rw[hI];exact hw)
   have e:s.data.toList.length=s.size:=rfl
   rw[List.length_nil,e]at this
   omega
  rw[hI]at hres
  clear h h5 h6 hI
  refine A5 1000 q_ ?_
  refine T ?_
  refine Av (fun k:Nat=>k≤out.length∧J1 (fun _ w=>wordB w) out k) (fun k=>[(4,.sl 1 Ab out),(7,Aa k)]) (fun _=>[]) (fun k=>out.length-k) 0 [] ⟨by simp,Cz _ _⟩ U ?_
  rintro k ⟨hk,hU⟩
  refine T ?_
  refine⟨fun h=>?_,fun h=>?_⟩
  ·have hlt:k<out.length:=qA h
   have hlt0:((k:Nat):Int).toNat<out.length:=hlt
   clear h
   have q:=Agj (out[((k:Nat):Int).toNat]'hlt0) (hsm _ (List.getElem_mem _))
   have hno:=fun h=>@all_at' _ wordB out k hlt h
   have hnx:=fun h=>Ce (p:=fun _ w=>wordB w) hU hlt h
   cases hw:wordB (out[((k:Nat):Int).toNat]'hlt0) with
   | true =>
    rw[hw]at q
    refine T ?_
    refine C q F196 ?_
    exact Ag (k+1) [] ⟨hlt,hnx hw⟩ j_ U
   | false =>
    rw[hw]at q
    rw[hno hw,if_neg qf]at hres
    subst hres
    refine T ?_
    refine C q F196 ?_
    refine Bm 2 1 Ab q_ ?_
    refine T ?_
    exact D
  ·have hje:out.length≤k:=qB h
   rw[D9 hU hje,if_pos rfl]at hres
   subst hres
   refine T ?_
   exact D
end Go.Sy.YtgblchnfjbkipaaGreatDoor
namespace Go.Sy.YtgblchnfjbkipaaGreatDoor
open Go.Proofs
theorem K4 (l:List LineM):(Ic l).length=l.length:=by simp[Ic]
theorem Lo (l:List LineM):(Bp l).length=l.length:=by rw[Bp,K4,Dl]
def Hr (l:List LineM):Bool:=(List.range (l.length-1)).all fun j=>!(Dd (l.getD (j+1) ⟨0,0,⟨#[]⟩,⟨#[]⟩,⟨#[]⟩,⟨#[]⟩,⟨#[]⟩,0,0,0,0,0,0,[],[],[],[]⟩) (l.getD j ⟨0,0,⟨#[]⟩,⟨#[]⟩,⟨#[]⟩,⟨#[]⟩,⟨#[]⟩,0,0,0,0,0,0,[],[],[],[]⟩))
theorem W9 {l:List LineM} (h:∀ j (hj:j+1<l.length),Dd l[j+1] l[j]=false):Hr l=true:=by
 unfold Hr
 rw[List.all_eq_true]
 intro j hj
 have hj:j+1<l.length:=by have:=List.mem_range.1 hj;omega
 rw[List.getD_eq_getElem?_getD,List.getD_eq_getElem?_getD,List.getElem?_eq_getElem hj,List.getElem?_eq_getElem (by omega:j<l.length)]
 simp[h j hj]
theorem Y1 {l:List LineM} {j:Nat} (hj:j+1<l.length) (h:Dd l[j+1] l[j]=true):Hr l=false:=by
 unfold Hr
 rw[List.all_eq_false]
 refine⟨j,by rw[List.mem_range];omega,?_⟩
 rw[List.getD_eq_getElem?_getD,List.getD_eq_getElem?_getD,List.getElem?_eq_getElem hj,List.getElem?_eq_getElem (by omega:j<l.length)]
 simp[h]
end Go.Sy.YtgblchnfjbkipaaGreatDoor
namespace Go.Sy.YtgblchnfjbkipaaGreatDoor
open Go.Proofs
attribute [local irreducible] Go.Sy.G Go.Sy.DR
set_option maxRecDepth 100000
set_option maxHeartbeats 4000000
theorem H7 (a:ByteArray):Sy.Spec Tryz.prog 230 [Ab a] [] (Af false) []:=cT F230 Tryz.ntmps230 fun F hF=>by
 refine T ?_
 exact Bv q_ (.cons .tmp .nil) (congrArg Af qf) q_
theorem H6 (a:Int):Sy.Spec Tryz.prog 232 [A0 a] [] (Af false) []:=cT F232 Tryz.ntmps232 fun F hF=>by
 refine T ?_
 exact Bv q_ (.cons .tmp .nil) (congrArg Af qf) q_
theorem Hx (a b:ByteArray):Sy.Spec Tryz.prog 171 [Ab a,Ab b] [] (Aa (Ho a b)) []:=cT F171 Tryz.ntmps171 fun F hF=>by
 have l1:=Oe a.data.toList b.data.toList
 have l2:=Oe b.data.toList a.data.toList
 have han:=cmpB_ok.anti a b
 have han2:=cmpB_ok.anti b a
 have hv:=Ahz (a:=a.data.toList) (b:=b.data.toList)
 have hc:Aw Lk a.data.toList b.data.toList=Ho a b:=rfl
 have hc2:Aw Lk b.data.toList a.data.toList=Ho b a:=rfl
 rw[hc]at l1 hv
 rw[hc2]at l2
 rw[← Lib.toList_data,← Lib.toList_data]at l1 l2 hv
 by_cases h1:Ho a b<0
 ·have f1:Op.bytesLess a.toList b.toList=true:=by rw[l1];exact decide_eq_true h1
  have hr:Ho a b=-1:=by rw[hv,if_pos f1]
  rw[hr]
  refine T ?_
  refine C (H7 a) F230 ?_
  refine C (H7 b) F230 ?_
  exact D
 ·have f1:Op.bytesLess a.toList b.toList=false:=by rw[l1];exact decide_eq_false h1
  rw[f1,if_neg qf]at hv
  by_cases h2:0<Ho a b
  ·have hne:(a == b)=false:=by
    cases hx:(a == b)
    ·rfl
    ·have e:=(C1 _ _).1 hx
     rw[e,if_pos rfl]at hv
     rw[e]at h2;omega
   have f2:(!(Op.bytesLess a.toList b.toList || a == b))=true:=by rw[f1,hne];rfl
   have hr:Ho a b=1:=by
    rw[hv]
    split
    ·rename_i e
     rw[if_pos e]at hv;omega
    ·rfl
   rw[hr]
   refine T ?_
   refine C (H7 a) F230 ?_
   refine C (H7 b) F230 ?_
   exact D
  ·have hr:Ho a b=0:=by omega
   have f2:(!(Op.bytesLess a.toList b.toList || a == b))=false:=by rw[(C1 _ _).2 (Afa hr)];simp
   rw[hr]
   refine T ?_
   refine C (H7 a) F230 ?_
   refine C (H7 b) F230 ?_
   exact D
theorem Sg (a b:Int):Sy.Spec Tryz.prog 173 [A0 a,A0 b] [] (Aa (Bd a b)) []:=cT F173 Tryz.ntmps173 fun F hF=>by
 by_cases h1:a<b
 ·have hr:Bd a b=-1:=by rw[Bd,if_pos h1]
  have f1:decide (a<b)=true:=decide_eq_true h1
  rw[hr]
  refine T ?_
  refine C (H6 a) F232 ?_
  refine C (H6 b) F232 ?_
  exact D
 ·have f1:decide (a<b)=false:=decide_eq_false h1
  by_cases h2:a>b
  ·have hr:Bd a b=1:=by rw[Bd,if_neg h1,if_pos h2]
   have f2:decide (a>b)=true:=decide_eq_true h2
   rw[hr]
   refine T ?_
   refine C (H6 a) F232 ?_
   refine C (H6 b) F232 ?_
   exact D
  ·have hr:Bd a b=0:=by rw[Bd,if_neg h1,if_neg h2]
   have f2:decide (a>b)=false:=decide_eq_false h2
   rw[hr]
   refine T ?_
   refine C (H6 a) F232 ?_
   refine C (H6 b) F232 ?_
   exact D
theorem Uh (y:Int):Bd y y=0:=by simp[Bd]
theorem Mk:∀ {j:Nat} {l m:List Int},j≤l.length→j≤m.length→l.take j=m.take j→Aw Bd l m=Aw Bd (l.drop j) (m.drop j)
 | 0,l,m,_,_,_=>by rw[List.drop_zero,List.drop_zero]
 | j+1,[],m,h,_,_=>by simp at h
 | j+1,x::l,[],_,h,_=>by simp at h
 | j+1,x::l,y::m,h1,h2,h=>by
  simp only[List.take_succ_cons,List.cons.injEq]at h
  rw[Aw,List.drop_succ_cons,List.drop_succ_cons,← Mk (by simpa using h1) (by simpa using h2) h.2,h.1,Uh]
  rfl
theorem E4 (l m:List Int) (hl:l.length≤1000000) (hm1:m.length≤1000000):Sy.Spec Tryz.prog 174 [.sl 1 Aa l,.sl 1 Aa m] [] (Aa (Aw Bd l m)) []:=cT F174 Tryz.ntmps174 fun F hF=>by
 refine T ?_
 refine B3 l.length (fun j=>j≤m.length∧l.take j=m.take j) (fun j=>[(0,.sl 1 Aa l),(1,.sl 1 Aa m),(9,.sl 1 Aa l),(10,Aa l.length),(11,Aa j)]) (fun _=>[]) [] ⟨by simp,q_⟩ U ?_
 intro j hj hI
 have hsk:=Mk hj hI.1 hI.2
 refine T ?_
 refine⟨fun h=>?_,fun h=>?_⟩
 ·have hlt:j<l.length:=qA h
  have hlt0:((j:Nat):Int).toNat<l.length:=hlt
  clear h
  rw[List.drop_eq_getElem_cons hlt]at hsk
  by_cases hjm:j<m.length
  ·have hjm0:((j:Nat):Int).toNat<m.length:=hjm
   rw[List.drop_eq_getElem_cons hjm,Aw]at hsk
   have q:=Ex (l[((j:Nat):Int).toNat]'hlt0) (m[((j:Nat):Int).toNat]'hjm0)
   have hx:Bd (l[((j:Nat):Int).toNat]'hlt0) (m[((j:Nat):Int).toNat]'hjm0)=Bd l[j] m[j]:=rfl
   by_cases h0:Bd l[j] m[j]=0
   ·have f0:(Bd (l[((j:Nat):Int).toNat]'hlt0) (m[((j:Nat):Int).toNat]'hjm0) != 0)=false:=by rw[hx,h0];rfl
    refine T ?_
    refine C q F103 ?_
    refine B5 [] hI j_ ⟨hjm,?_⟩ U
    rw[List.take_succ_eq_append_getElem hlt,List.take_succ_eq_append_getElem hjm,hI.2,Lc h0]
   ·have f0:(Bd (l[((j:Nat):Int).toNat]'hlt0) (m[((j:Nat):Int).toNat]'hjm0) != 0)=true:=by rw[hx,bne_iff_ne];exact h0
    rw[hsk,C0,if_pos h0,← hx]
    refine T ?_
    refine C q F103 ?_
    exact D
  ·rw[List.drop_eq_nil_of_le (by omega:m.length≤j)]at hsk
   have hr:Aw Bd l m=1:=hsk
   rw[hr]
   refine T ?_
   exact D
 ·have hje:j=l.length:=qB h
  subst hje
  clear h
  rw[List.drop_length]at hsk
  by_cases h1:l.length<m.length
  ·rw[List.drop_eq_getElem_cons h1]at hsk
   have hr:Aw Bd l m=-1:=hsk
   rw[hr]
   refine T ?_
   exact D
  ·rw[List.drop_eq_nil_of_le j_]at hsk
   have hr:Aw Bd l m=0:=hsk
   rw[hr]
   refine T ?_
   exact D
theorem Mz (l m:List Int) (hl:l.length≤1000000) (hm1:m.length≤1000000):Sy.Spec Tryz.prog 175 [.sl 1 A0 l,.sl 1 A0 m] [] (Aa (Aw Bd l m)) []:=cT F175 Tryz.ntmps175 fun F hF=>by
 refine T ?_
 refine B3 l.length (fun j=>j≤m.length∧l.take j=m.take j) (fun j=>[(0,.sl 1 A0 l),(1,.sl 1 A0 m),(9,.sl 1 A0 l),(10,Aa l.length),(11,Aa j)]) (fun _=>[]) [] ⟨by simp,q_⟩ U ?_
 intro j hj hI
 have hsk:=Mk hj hI.1 hI.2
 refine T ?_
 refine⟨fun h=>?_,fun h=>?_⟩
 ·have hlt:j<l.length:=qA h
  have hlt0:((j:Nat):Int).toNat<l.length:=hlt
  clear h
  rw[List.drop_eq_getElem_cons hlt]at hsk
  by_cases hjm:j<m.length
  ·have hjm0:((j:Nat):Int).toNat<m.length:=hjm
   rw[List.drop_eq_getElem_cons hjm,Aw]at hsk
   have q:=Sg (l[((j:Nat):Int).toNat]'hlt0) (m[((j:Nat):Int).toNat]'hjm0)
   have hx:Bd (l[((j:Nat):Int).toNat]'hlt0) (m[((j:Nat):Int).toNat]'hjm0)=Bd l[j] m[j]:=rfl
   by_cases h0:Bd l[j] m[j]=0
   ·have f0:(Bd (l[((j:Nat):Int).toNat]'hlt0) (m[((j:Nat):Int).toNat]'hjm0) != 0)=false:=by rw[hx,h0];rfl
    refine T ?_
    refine C q F173 ?_
    refine B5 [] hI j_ ⟨hjm,?_⟩ U
    rw[List.take_succ_eq_append_getElem hlt,List.take_succ_eq_append_getElem hjm,hI.2,Lc h0]
   ·have f0:(Bd (l[((j:Nat):Int).toNat]'hlt0) (m[((j:Nat):Int).toNat]'hjm0) != 0)=true:=by rw[hx,bne_iff_ne];exact h0
    rw[hsk,C0,if_pos h0,← hx]
    refine T ?_
    refine C q F173 ?_
    exact D
  ·rw[List.drop_eq_nil_of_le (by omega:m.length≤j)]at hsk
   have hr:Aw Bd l m=1:=hsk
   rw[hr]
   refine T ?_
   exact D
 ·have hje:j=l.length:=qB h
  subst hje
  clear h
  rw[List.drop_length]at hsk
  by_cases h1:l.length<m.length
  ·rw[List.drop_eq_getElem_cons h1]at hsk
   have hr:Aw Bd l m=-1:=hsk
   rw[hr]
   refine T ?_
   exact D
  ·rw[List.drop_eq_nil_of_le j_]at hsk
   have hr:Aw Bd l m=0:=hsk
   rw[hr]
   refine T ?_
   exact D
theorem Tq (k:Int):Sy.Spec Tryz.prog 104 [Aa k] [] (Aa (stepI k)) []:=cT F104 Tryz.ntmps104 fun F hF=>by
 have hs:=stepI.eq_1 k
 generalize stepI k=r at *
 by_cases c1:k=1
 ·rw[if_pos c1]at hs
  subst hs c1
  refine T ?_
  exact D
 rw[if_neg c1]at hs
 have b1:(k == 1)=false:=by simpa using c1
 by_cases c5:k=5
 ·rw[if_pos c5]at hs
  subst hs c5
  refine T ?_
  exact D
 rw[if_neg c5]at hs
 have b5:(k == 5)=false:=by simpa using c5
 by_cases c2:k=2
 ·rw[if_pos c2]at hs
  subst hs c2
  refine T ?_
  exact D
 rw[if_neg c2]at hs
 have b2:(k == 2)=false:=by simpa using c2
 by_cases c3:k=3
 ·rw[if_pos c3]at hs
  subst hs c3
  refine T ?_
  exact D
 rw[if_neg c3]at hs
 have b3:(k == 3)=false:=by simpa using c3
 by_cases c4:k=4
 ·rw[if_pos c4]at hs
  subst hs c4
  refine T ?_
  exact D
 rw[if_neg c4]at hs
 have b4:(k == 4)=false:=by simpa using c4
 by_cases c6:k=6
 ·rw[if_pos c6]at hs
  subst hs c6
  refine T ?_
  exact D
 rw[if_neg c6]at hs
 have b6:(k == 6)=false:=by simpa using c6
 by_cases c7:k=7
 ·rw[if_pos c7]at hs
  subst hs c7
  refine T ?_
  exact D
 rw[if_neg c7]at hs
 have b7:(k == 7)=false:=by simpa using c7
 by_cases c8:k=8
 ·rw[if_pos c8]at hs
  subst hs c8
  refine T ?_
  exact D
 rw[if_neg c8]at hs
 have b8:(k == 8)=false:=by simpa using c8
 by_cases c9:k=9
 ·rw[if_pos c9]at hs
  subst hs c9
  refine T ?_
  exact D
 rw[if_neg c9]at hs
 have b9:(k == 9)=false:=by simpa using c9
 subst hs
 refine T ?_
 exact D
theorem Y3 (a b:LineM):Sy.Spec Tryz.prog 105 [Ac a,Ac b] [] (Aa (Tz a b)) []:=cT F105 Tryz.ntmps105 fun F hF=>by
 refine T ?_
 refine C (Hx a.dev b.dev) F171 ?_
 refine C (Hx a.port b.port) F171 ?_
 refine C (Hx a.peer b.peer) F171 ?_
 refine C (Hx a.far b.far) F171 ?_
 refine C (Hx a.name b.name) F171 ?_
 refine Xz [30] (orS [Ho a.dev b.dev,Ho a.port b.port,Ho a.peer b.peer,Ho a.far b.far,Ho a.name b.name] (by simp[Ec])) F102 q_ (.cons (.lit q_ q_ q_) .nil) q_ y_ q_ ?_
 refine T ?_
 exact D
theorem Uu (a b:LineM):Sy.Spec Tryz.prog 106 [Ac a,Ac b] [] (Aa (Kn a b)) []:=cT F106 Tryz.ntmps106 fun F hF=>by
 refine T ?_
 refine C (Ex a.vlan b.vlan) F103 ?_
 refine C (Ex a.num b.num) F103 ?_
 refine C (Z2 a.mac b.mac) F172 ?_
 refine C (Sg a.addr b.addr) F173 ?_
 refine C (Ex a.bits b.bits) F103 ?_
 refine C (Ex a.cost b.cost) F103 ?_
 refine Xz [35] (orS [Bd a.vlan b.vlan,Bd a.num b.num,Bd a.mac b.mac,Bd a.addr b.addr,Bd a.bits b.bits,Bd a.cost b.cost] (by simp[Ec])) F102 q_ (.cons (.lit q_ q_ q_) .nil) q_ y_ q_ ?_
 refine T ?_
 exact D
structure LineFin (l:LineM):Prop where
 t:l.tagged.length≤100000
 i:l.imports.length≤100000
 e:l.exports.length≤100000
 a:l.addrs.length≤100000
theorem Y4 (a b:LineM) (ha:LineFin a) (hb:LineFin b):Sy.Spec Tryz.prog 107 [Ac a,Ac b] [] (Aa (T3 a b)) []:=cT F107 Tryz.ntmps107 fun F hF=>by
 have ht:=ha.t;have hi:=ha.i;have he:=ha.e;have haa:=ha.a
 have ht2:=hb.t;have hi2:=hb.i;have he2:=hb.e;have haa2:=hb.a
 refine T ?_
 refine C (E4 a.tagged b.tagged j_ j_) F174 ?_
 refine C (E4 a.imports b.imports j_ j_) F174 ?_
 refine C (E4 a.exports b.exports j_ j_) F174 ?_
 refine C (Mz a.addrs b.addrs j_ j_) F175 ?_
 refine Xz [25] (orS [Aw Bd a.tagged b.tagged,Aw Bd a.imports b.imports,Aw Bd a.exports b.exports,Aw Bd a.addrs b.addrs] (by simp[Ec])) F102 q_ (.cons (.lit q_ q_ q_) .nil) q_ y_ q_ ?_
 refine T ?_
 exact D
theorem Iy (a b:LineM) (ha:LineFin a) (hb:LineFin b):Sy.Spec Tryz.prog 38 [Ac a,Ac b] [] (Aa (Kq a b)) []:=cT F38 Tryz.ntmps38 fun F hF=>by
 refine T ?_
 refine C (Tq a.kind) F104 ?_
 refine C (Tq b.kind) F104 ?_
 refine C (Ex (stepI a.kind) (stepI b.kind)) F103 ?_
 refine C (Y3 a b) F105 ?_
 refine C (Uu a b) F106 ?_
 refine C (Y4 a b ha hb) F107 ?_
 refine Xz [21] (orS [Bd (stepI a.kind) (stepI b.kind),Tz a b,Kn a b,T3 a b] (by simp[Ec])) F102 q_ (.cons (.lit q_ q_ q_) .nil) q_ y_ q_ ?_
 refine T ?_
 exact D
theorem Abv (a b:LineM) (ha:LineFin a) (hb:LineFin b):Sy.Spec Tryz.prog 19 [Ac a,Ac b] [] (Af (Dd a b)) []:=cT F19 Tryz.ntmps19 fun F hF=>by
 refine T ?_
 refine C (Iy a b ha hb) F38 ?_
 exact D
theorem Y2 (a b:LineM) (ha:LineFin a) (hb:LineFin b):Sy.Spec Tryz.prog 37 [Ac a,Ac b] [] (Aa (Kq a b)) []:=cT F37 Tryz.ntmps37 fun F hF=>by
 refine T ?_
 refine C (Iy a b ha hb) F38 ?_
 exact D
theorem Cr (a b:Int):Sy.Spec Tryz.prog 40 [Aa a,Aa b] [] (Aa (Bd a b)) []:=cT F40 Tryz.ntmps40 fun F hF=>by
 by_cases h1:a<b
 ·have f1:decide (a<b)=true:=decide_eq_true h1
  rw[show Bd a b=-1 from if_pos h1]
  refine T ?_
  exact D
 ·have f1:decide (a<b)=false:=decide_eq_false h1
  by_cases h2:a>b
  ·have f2:decide (a>b)=true:=decide_eq_true h2
   rw[show Bd a b=1 from (if_neg h1).trans (if_pos h2)]
   refine T ?_
   exact D
  ·have f2:decide (a>b)=false:=decide_eq_false h2
   rw[show Bd a b=0 from (if_neg h1).trans (if_neg h2)]
   refine T ?_
   exact D
theorem Agw (a b:Int):Sy.Spec Tryz.prog 43 [Bh a,Bh b] [] (Aa (Bd a b)) []:=cT F43 Tryz.ntmps43 fun F hF=>by
 by_cases h1:a<b
 ·have f1:decide (a<b)=true:=decide_eq_true h1
  rw[show Bd a b=-1 from if_pos h1]
  refine T ?_
  exact D
 ·have f1:decide (a<b)=false:=decide_eq_false h1
  by_cases h2:a>b
  ·have f2:decide (a>b)=true:=decide_eq_true h2
   rw[show Bd a b=1 from (if_neg h1).trans (if_pos h2)]
   refine T ?_
   exact D
  ·have f2:decide (a>b)=false:=decide_eq_false h2
   rw[show Bd a b=0 from (if_neg h1).trans (if_neg h2)]
   refine T ?_
   exact D
theorem Y6 (k:Int):Sy.Spec Tryz.prog 41 [Aa k] [] (Aa (stepI k)) []:=cT F41 Tryz.ntmps41 fun F hF=>by
 by_cases h1:k<1
 ·have f1:decide (k<1)=true:=decide_eq_true h1
  have e:stepI k=10:=by unfold stepI;repeat' split<;>try omega
  rw[e]
  refine T ?_
  exact D
 have f1:decide (k<1)=false:=decide_eq_false h1
 by_cases h2:k>9
 ·have f2:decide (k>9)=true:=decide_eq_true h2
  have e:stepI k=10:=by unfold stepI;repeat' split<;>try omega
  rw[e]
  refine T ?_
  exact D
 have f2:decide (k>9)=false:=decide_eq_false h2
 have h3:k.toNat<10:=by omega
 have h0:0≤k:=by omega
 have hl:([10,1,3,4,5,2,6,7,8,9]:List Int).length=10:=rfl
 have hk:k=1∨k=2∨k=3∨k=4∨k=5∨k=6∨k=7∨k=8∨k=9:=by omega
 clear f1 f2
 rcases hk with rfl | rfl | rfl | rfl | rfl | rfl | rfl | rfl | rfl
 all_goals refine T ?_
 all_goals exact D
theorem Kw {α:Type} {c:α→α→Int} (hs:∀ x,c x x=0):∀ {j:Nat} {l m:List α},j≤l.length→j≤m.length→l.take j=m.take j→Aw c l m=Aw c (l.drop j) (m.drop j)
 | 0,l,m,_,_,_=>by rw[List.drop_zero,List.drop_zero]
 | j+1,[],m,h,_,_=>by simp at h
 | j+1,x::l,[],_,h,_=>by simp at h
 | j+1,x::l,y::m,h1,h2,h=>by
  simp only[List.take_succ_cons,List.cons.injEq]at h
  rw[Aw,List.drop_succ_cons,List.drop_succ_cons,← Kw hs (by simpa using h1) (by simpa using h2) h.2,h.1,hs]
  rfl
theorem Lb {α:Type} {c:α→α→Int} {j:Nat} {l m:List α} (h1:j≤l.length) (h2:j≤m.length) (h:j=l.length∨j=m.length):Aw c (l.drop j) (m.drop j)=Bd (l.length:Int) (m.length:Int):=by
 unfold Bd
 by_cases a1:l.length<m.length
 ·have e:j=l.length:=by omega
  subst e
  rw[List.drop_length,List.drop_eq_getElem_cons a1,if_pos j_]
  rfl
 ·by_cases a2:m.length<l.length
  ·have e:j=m.length:=by omega
   subst e
   rw[List.drop_length,List.drop_eq_getElem_cons a2,if_neg j_,if_pos j_]
   rfl
  ·have e1:j=l.length:=by omega
   rw[if_neg j_,if_neg j_,List.drop_eq_nil_of_le j_,List.drop_eq_nil_of_le j_]
   rfl
theorem Oa (l m:List Int) (hl:l.length≤1000000) (hm1:m.length≤1000000):Sy.Spec Tryz.prog 44 [.sl 1 Aa l,.sl 1 Aa m] [] (Aa (Aw Bd l m)) []:=cT F44 Tryz.ntmps44 fun F hF=>by
 refine T ?_
 refine Av (fun j:Nat=>j≤l.length∧j≤m.length∧l.take j=m.take j) (fun j=>[(0,.sl 1 Aa l),(1,.sl 1 Aa m),(5,Aa j)]) (fun _=>[]) (fun j=>l.length-j) 0 [] ⟨by simp,by simp,q_⟩ U ?_
 rintro j ⟨h1,h2,h3⟩
 have hsk:=Kw (c:=Bd) (fun x=>Uh x) h1 h2 h3
 by_cases a1:j<l.length
 ·have f1:decide ((j:Int)<(l.length:Int))=true:=decide_eq_true j_
  by_cases a2:j<m.length
  ·have f2:decide ((j:Int)<(m.length:Int))=true:=decide_eq_true j_
   have b1:((j:Nat):Int).toNat<l.length:=a1
   have b2:((j:Nat):Int).toNat<m.length:=a2
   by_cases h0:l[j]=m[j]
   ·have f3:(l[((j:Nat):Int).toNat]'b1 != m[((j:Nat):Int).toNat]'b2)=false:=by
     simp only[Int.toNat_natCast]
     rw[h0];simp
    clear hsk
    refine T ?_
    refine Ag (j+1) [] ⟨a1,a2,?_⟩ j_ U
    rw[List.take_succ_eq_append_getElem a1,List.take_succ_eq_append_getElem a2,h3,h0]
   ·have f3:(l[((j:Nat):Int).toNat]'b1 != m[((j:Nat):Int).toNat]'b2)=true:=by
     simp only[Int.toNat_natCast]
     rw[bne_iff_ne];exact h0
    have q:=Cr (l[((j:Nat):Int).toNat]'b1) (m[((j:Nat):Int).toNat]'b2)
    rw[List.drop_eq_getElem_cons a1,List.drop_eq_getElem_cons a2,Aw,C0,if_pos (fun e=>h0 (Lc e))]at hsk
    rw[hsk]
    refine T ?_
    refine C q F40 ?_
    exact D
  ·have f2:decide ((j:Int)<(m.length:Int))=false:=decide_eq_false j_
   rw[hsk,Lb h1 h2 (.inr j_)]
   have q:=Cr (l.length:Int) (m.length:Int)
   refine T ?_
   refine C q F40 ?_
   exact D
 ·have f1:decide ((j:Int)<(l.length:Int))=false:=decide_eq_false j_
  rw[hsk,Lb h1 h2 (.inl j_)]
  have q:=Cr (l.length:Int) (m.length:Int)
  refine T ?_
  refine C q F40 ?_
  exact D
theorem wrap_u8 (x:UInt8):IntKind.i64.wrap (x.toNat:Int)=(x.toNat:Int):=by
 have:=x.toNat_lt
 rw[IntKind.wrap_i64];omega
theorem Km (a b:ByteArray) (ha:a.size≤1000000) (hb:b.size≤1000000):Sy.Spec Tryz.prog 42 [Ab a,Ab b] [] (Aa (Ho a b)) []:=cT F42 Tryz.ntmps42 fun F hF=>by
 have ea:a.data.toList.length=a.size:=rfl
 have eb:b.data.toList.length=b.size:=rfl
 have hC:Ho a b=Aw Lk a.data.toList b.data.toList:=rfl
 rw[hC]
 refine T ?_
 refine Av (fun j:Nat=>j≤a.size∧j≤b.size∧a.data.toList.take j=b.data.toList.take j) (fun j=>[(0,Ab a),(1,Ab b),(5,Aa j)]) (fun _=>[]) (fun j=>a.size-j) 0 [] ⟨by simp,by simp,q_⟩ U ?_
 rintro j ⟨h1,h2,h3⟩
 have hsk:=Kw (c:=Lk) (fun x=>cmpU_ok.self x) (j:=j) (l:=a.data.toList) (m:=b.data.toList) h1 h2 h3
 by_cases a1:j<a.size
 ·have f1:decide ((j:Int)<(a.size:Int))=true:=decide_eq_true j_
  by_cases a2:j<b.size
  ·have f2:decide ((j:Int)<(b.size:Int))=true:=decide_eq_true j_
   have g1:j<a.data.toList.length:=a1
   have g2:j<b.data.toList.length:=a2
   have i1:=Dj g1
   have i2:=Dj g2
   have q:=Cr (IntKind.i64.wrap ((Ad a j).toNat:Int)) (IntKind.i64.wrap ((Ad b j).toNat:Int))
   rw[show Bd (IntKind.i64.wrap ((Ad a j).toNat:Int)) (IntKind.i64.wrap ((Ad b j).toNat:Int))=Bd ((Ad a j).toNat:Int) ((Ad b j).toNat:Int) by rw[wrap_u8,wrap_u8]]at q
   have w1:=wrap_u8 (Ad a j)
   have w2:=wrap_u8 (Ad b j)
   have hcu:Lk (Ad a j) (Ad b j)=Bd ((Ad a j).toNat:Int) ((Ad b j).toNat:Int):=rfl
   by_cases h0:Ad a j=Ad b j
   ·have f3:(((Ad a ((j:Nat):Int).toNat).toNat:Int) != ((Ad b ((j:Nat):Int).toNat).toNat:Int))=false:=by simp only[Int.toNat_natCast];rw[h0];simp
    clear hsk
    refine T ?_
    refine Ag (j+1) [] ⟨a1,a2,?_⟩ j_ U
    rw[List.take_succ_eq_append_getElem g1,List.take_succ_eq_append_getElem g2,h3,← i1,← i2,h0]
   ·have f3:(((Ad a ((j:Nat):Int).toNat).toNat:Int) != ((Ad b ((j:Nat):Int).toNat).toNat:Int))=true:=by
     simp only[Int.toNat_natCast]
     rw[bne_iff_ne];intro e;exact h0 (UInt8.toNat_inj.1 j_)
    rw[List.drop_eq_getElem_cons g1,List.drop_eq_getElem_cons g2,Aw,← i1,← i2,C0,if_pos (fun e=>h0 (Qk e)),hcu]at hsk
    rw[hsk]
    refine T ?_
    refine C q F40 ?_
    exact D
  ·have f2:decide ((j:Int)<(b.size:Int))=false:=decide_eq_false j_
   rw[hsk,Lb h1 h2 (.inr j_),ea,eb]
   have q:=Cr (a.size:Int) (b.size:Int)
   refine T ?_
   refine C q F40 ?_
   exact D
 ·have f1:decide ((j:Int)<(a.size:Int))=false:=decide_eq_false j_
  rw[hsk,Lb h1 h2 (.inl j_),ea,eb]
  have q:=Cr (a.size:Int) (b.size:Int)
  refine T ?_
  refine C q F40 ?_
  exact D
theorem wrap_u32 {x:Int} (h:0≤x∧x<4294967296):IntKind.i64.wrap x=x:=by
 rw[IntKind.wrap_i64];omega
theorem Vo (l:List Int) (hl:l.length≤1000000) (hr:∀ x∈l,0≤x∧x<4294967296):Sy.Spec Tryz.prog 45 [.sl 1 A0 l] [] (.sl 1 Aa l) []:=cT F45 Tryz.ntmps45 fun F hF=>by
 refine T ?_
 refine Ct 3 1000 1 Aa q_ q_ ?_
 refine T ?_
 refine Av (fun j:Nat=>j≤l.length) (fun j=>[(0,.sl 1 A0 l),(3,.osl 1000),(4,Aa j)]) (fun j=>[(1000,.row 1 Aa (l.take j))]) (fun j=>l.length-j) 0 [] qf U ?_
 intro j hj
 refine T ?_
 refine⟨fun h2=>?_,fun h2=>?_⟩
 ·have hlt:j<l.length:=by have:=of_decide_eq_true h2;omega
  have hlt0:((j:Nat):Int).toNat<l.length:=hlt
  clear h2
  have hnx:l.take (j+1)=l.take j++[IntKind.i64.wrap (l[((j:Nat):Int).toNat]'hlt0)]:=by
   rw[List.take_succ_eq_append_getElem hlt,wrap_u32 (hr _ (List.getElem_mem _))]
   rfl
  have hql:(l.take j).length=j:=by rw[List.length_take];omega
  generalize l.take j=P at *
  refine T ?_
  refine X (Ai Γ.toTy 18 q_ q_ q_ q_ q_ (.row q_) (.lit (e:=Aa) (l:=[IntKind.i64.wrap (l[((j:Nat):Int).toNat]'hlt0)]) q_ q_) qf (by simp;omega) (by simp;omega)) ?_
  exact Ag (j+1) [(1000,18)] hlt j_ ⟨⟨q_,q_,q_,q_,q_,q_,z_⟩,⟨.inl (congrArg (Ob.row 1 Aa) hnx),q_,z_⟩,q_,q_⟩
 ·have hje:j=l.length:=by have:=of_decide_eq_false h2;omega
  subst hje
  clear h2
  rw[List.take_length]
  refine A5 1000 q_ ?_
  refine T ?_
  exact D
theorem Xb:∀ (l m:List Int),orI (l++m)=C0 (orI l) (orI m)
 | [],m=>by simp[orI,C0]
 | x::l,m=>by
  rw[List.cons_append,E7,E7,Xb l m]
  unfold C0
  by_cases h:x≠0
  ·rw[if_pos h,if_pos h,if_pos h]
  ·rw[if_neg h,if_neg h]
def c1L (a b:LineM):List Int:=[Bd (stepI a.kind) (stepI b.kind),Ho a.dev b.dev,Ho a.port b.port,Ho a.peer b.peer,Ho a.far b.far,Ho a.name b.name]
def c2L (a b:LineM):List Int:=[Bd a.vlan b.vlan,Bd a.num b.num,Bd a.mac b.mac,Bd a.addr b.addr,Bd a.bits b.bits,Bd a.cost b.cost]
def c3L (a b:LineM):List Int:=[Aw Bd a.tagged b.tagged,Aw Bd a.imports b.imports,Aw Bd a.exports b.exports,Aw Bd a.addrs b.addrs]
theorem Ab3 (a b:LineM):orI (c1L a b++c2L a b++c3L a b)=Kq a b:=by
 have e1:orI (c1L a b)=C0 (Bd (stepI a.kind) (stepI b.kind)) (Tz a b):=E7 _ _
 have e2:orI (c2L a b)=Kn a b:=rfl
 have e3:orI (c3L a b)=T3 a b:=rfl
 have e0:∀ x:Int,C0 x 0=x:=fun x=>by unfold C0;split<;>simp_all
 rw[Xb,Xb,e1,e2,e3,Kq]
 rw[E7,E7,E7,E7]
 show _=C0 _ (C0 _ (C0 _ (C0 _ 0)))
 rw[e0]
 have as4:∀ x y z:Int,C0 (C0 x y) z=C0 x (C0 y z):=fun x y z=>by
  unfold C0
  by_cases h:x≠0
  ·rw[if_pos h,if_pos h,if_pos h]
  ·rw[if_neg h,if_neg h]
 rw[as4,as4]
structure LineF (l:LineM):Prop where
 fin:LineFin l
 ok:LineOK l
 dev:l.dev.size≤100000
 port:l.port.size≤100000
 peer:l.peer.size≤100000
 far:l.far.size≤100000
 name:l.name.size≤100000
theorem Agx (a b:LineM) (ha:LineF a) (hb:LineF b):Sy.Spec Tryz.prog 20 [Ac a,Ac b] [] (Af (Dd a b)) []:=cT F20 Tryz.ntmps20 fun F hF=>by
 have hB:Dd a b=decide (orI (c1L a b++c2L a b++c3L a b)<0):=by rw[Ab3];rfl
 rw[hB]
 have w1:=wrap_u32 ha.ok.addr
 have w2:=wrap_u32 hb.ok.addr
 have qa:=Cr (IntKind.i64.wrap a.addr) (IntKind.i64.wrap b.addr)
 rw[show Bd (IntKind.i64.wrap a.addr) (IntKind.i64.wrap b.addr)=Bd a.addr b.addr by rw[w1,w2]]at qa
 have z1:=ha.fin.t;have z2:=ha.fin.i;have z3:=ha.fin.e;have z4:=ha.fin.a
 have y1:=hb.fin.t;have y2:=hb.fin.i;have y3:=hb.fin.e;have y4:=hb.fin.a
 have z5:=ha.dev;have z6:=ha.port;have z7:=ha.peer;have z8:=ha.far;have z9:=ha.name
 have y5:=hb.dev;have y6:=hb.port;have y7:=hb.peer;have y8:=hb.far;have y9:=hb.name
 refine T ?_
 refine C (Y6 a.kind) F41 ?_
 refine C (Y6 b.kind) F41 ?_
 refine C (Cr (stepI a.kind) (stepI b.kind)) F40 ?_
 refine C (Km a.dev b.dev j_ j_) F42 ?_
 refine C (Km a.port b.port j_ j_) F42 ?_
 refine C (Km a.peer b.peer j_ j_) F42 ?_
 refine C (Km a.far b.far j_ j_) F42 ?_
 refine C (Km a.name b.name j_ j_) F42 ?_
 refine C (Cr a.vlan b.vlan) F40 ?_
 refine C (Cr a.num b.num) F40 ?_
 refine C (Agw a.mac b.mac) F43 ?_
 refine C qa F40 ?_
 refine C (Cr a.bits b.bits) F40 ?_
 refine C (Cr a.cost b.cost) F40 ?_
 refine Xd (Ai Γ.toTy 74 q_ q_ q_ q_ q_ (.lit (e:=Aa) (l:=c1L a b) q_ q_) (.lit (e:=Aa) (l:=c2L a b) q_ q_) qf (by simp[c1L,c2L]) (by simp[c1L,c2L])) ?_
 refine C (Oa a.tagged b.tagged j_ j_) F44 ?_
 refine C (Oa a.imports b.imports j_ j_) F44 ?_
 refine C (Oa a.exports b.exports j_ j_) F44 ?_
 refine C (Vo a.addrs j_ ha.ok.addrs) F45 ?_
 refine C (Vo b.addrs j_ hb.ok.addrs) F45 ?_
 refine C (Oa a.addrs b.addrs j_ j_) F44 ?_
 refine Xd (Ai Γ.toTy 99 q_ q_ q_ q_ q_ (.row q_) (.lit (e:=Aa) (l:=c3L a b) q_ q_) qf (by simp[c1L,c2L,c3L]) (by simp[c1L,c2L,c3L])) ?_
 have hlen:(c1L a b++c2L a b++c3L a b).length=16:=rfl
 generalize c1L a b++c2L a b++c3L a b=L at *
 refine A5 99 q_ ?_
 refine T ?_
 refine Av (fun j:Nat=>j≤16∧orI L=orI (L.drop j)) (fun j=>[(5,.sl 1 Aa L),(6,Aa j)]) (fun _=>[]) (fun j=>16-j) 0 [] ⟨by simp,q_⟩ U ?_
 rintro j ⟨hj,hI⟩
 refine T ?_
 refine⟨fun h2=>?_,fun h2=>?_⟩
 ·have hlt:j<L.length:=by have:=of_decide_eq_true h2;omega
  have hlt0:((j:Nat):Int).toNat<L.length:=hlt
  clear h2
  rw[List.drop_eq_getElem_cons hlt,E7,C0]at hI
  by_cases h0:L[j]=0
  ·have f3:(L[((j:Nat):Int).toNat]'hlt0 != 0)=false:=by
    simp only[Int.toNat_natCast]
    rw[h0];rfl
   rw[if_neg (by simpa using h0)]at hI
   refine T ?_
   exact Ag (j+1) [] ⟨by omega,hI⟩ j_ U
  ·have f3:(L[((j:Nat):Int).toNat]'hlt0 != 0)=true:=by
    simp only[Int.toNat_natCast]
    rw[bne_iff_ne];exact h0
   rw[if_pos h0]at hI
   have e:L[j]=L[((j:Nat):Int).toNat]'hlt0:=rfl
   rw[hI,e]
   refine T ?_
   exact D
 ·have hje:16≤j:=by have:=of_decide_eq_false h2;omega
  rw[List.drop_eq_nil_of_le j_]at hI
  rw[show decide (orI L<0)=false from by rw[hI];rfl]
  refine T ?_
  exact D
end Go.Sy.YtgblchnfjbkipaaGreatDoor
namespace Go.Sy.YtgblchnfjbkipaaGreatDoor
open Go.Proofs
attribute [local irreducible] Go.Sy.G Go.Sy.DR
set_option maxRecDepth 20000
set_option maxHeartbeats 8000000
theorem Af5 (a:Nat) (bits:Int) (ha:a<4294967296):Sy.Spec Tryz.prog 314 [B8 a bits] [] (A0 (lastI a bits)) []:=cT F314 Tryz.ntmps314 fun F hF=>by
 have hr:=Iw a bits
 have hl:=lastI.eq_1 a bits
 by_cases hb:0≤bits∧bits≤32
 ·have hf:=Vi a bits ha
  have hs:=Yl a bits hb
  have hle:=Ae4 a bits ⟨by omega,by omega⟩
  have hll:=Ag9 a bits ⟨by omega,by omega⟩
  rw[decide_eq_true hb]at hr
  rw[if_pos hb]at hl
  obtain ⟨k,hk,hk2⟩:∃ k:Nat,(32-bits).toNat=k∧k≤32:=⟨_,rfl,by omega⟩
  have h1:=Nat.one_le_two_pow (n:=k)
  have hp:2 ^ k≤2 ^ 32:=Nat.pow_le_pow_right qe hk2
  have e32:(2:Nat) ^ 32=4294967296:=rfl
  rw[e32]at hp
  rw[hk]at hs hl
  rw[show (2:Int) ^ k=((2 ^ k:Nat):Int) by rw[Int.natCast_pow];rfl]at hl
  generalize 2 ^ k=q at *
  generalize Ef a bits=f at *
  generalize lastI a bits=l at *
  conv=>whnf
  refine Aab 1 2 (B8 a bits) q_ q_ q_ ?_
  refine oO ?_
  refine c0 hr F337 ?_
  refine oF ?_
  refine cD hf F313 ?_
  refine oD ?_
  refine cD hs F359 ?_
  refine oD ?_
  rw[Ae1 hle.1 j_]
  refine iW ?_
  refine iW ?_
  refine kW ?_
  refine Bv q_ (.cons .tmp .nil) (congrArg (fun z=>SV.val (.int .u32 z)) ?_) q_
  rw[IntKind.wrap_u32]
  omega
 ·rw[if_neg hb]at hl
  rw[hl]
  rw[decide_eq_false hb]at hr
  conv=>whnf
  refine Aab 1 2 (B8 a bits) q_ q_ q_ ?_
  refine oO ?_
  refine c0 hr F337 ?_
  refine oT ?_
  exact dN
end Go.Sy.YtgblchnfjbkipaaGreatDoor
namespace Go.Sy.YtgblchnfjbkipaaGreatDoor
open Go.Proofs
attribute [local irreducible] Go.Sy.G Go.Sy.DR
set_option maxRecDepth 100000
set_option maxHeartbeats 4000000
theorem Ov {a b:ByteArray} (h:a=b):(!(a == b))=false:=by rw[(C1 a b).2 h];rfl
theorem Ou {a b:ByteArray} (h:a≠b):(!(a == b))=true:=by
 cases hb:(a == b)
 ·rfl
 ·exact absurd ((C1 a b).1 hb) h
theorem Vk (s:ByteArray):Sy.Spec Tryz.prog 311 [Ab s] [] (Aa (digitsD s)) []:=cT F311 Tryz.ntmps311 fun F hF=>by
 have hres:=digitsD.eq_1 s
 generalize digitsD s=res at *
 by_cases h0:s.size=0
 ·have f0:((s.size:Int) == 0)=true:=by rw[beq_iff_eq];omega
  rw[if_pos (.inl h0)]at hres
  subst hres
  refine T ?_
  exact D
 have f0:((s.size:Int) == 0)=false:=by rw[beq_eq_false_iff_ne];omega
 by_cases h3:3<s.size
 ·have f1:decide ((s.size:Int)>3)=true:=decide_eq_true j_
  rw[if_pos (.inr (.inl h3))]at hres
  subst hres
  refine T ?_
  exact D
 have f1:decide ((s.size:Int)>3)=false:=decide_eq_false j_
 refine T ?_
 refine B3 s.size (fun j=>∀ i,i<j→Cc (Ad s i)=true) (fun j=>[(0,Ab s),(3,Aa (D6 s j)),(4,Aa j)]) (fun _=>[]) [] qf U ?_
 intro j hj hI
 have hv:0≤D6 s j∧D6 s j<1000:=by
  have h1:=Mq hI
  have h2:j=0∨j=1∨j=2∨j=3:=by omega
  rcases h2 with rfl | rfl | rfl | rfl<;>omega
 have hsu:D6 s (j+1)=10 * D6 s j+((Ad s j).toNat-48):=rfl
 refine T ?_
 refine⟨fun h=>?_,fun h=>?_⟩
 ·have hlt:j<s.size:=qA h
  clear h
  have ej:Ad s ((j:Nat):Int).toNat=Ad s j:=rfl
  have hc:=(Ad s j).toNat_lt
  by_cases k1:(Ad s j).toNat<48
  ·have g1:decide (((Ad s ((j:Nat):Int).toNat).toNat:Int)<48)=true:=decide_eq_true (by rw[ej];omega)
   rw[if_pos (.inr (.inr (Ja hlt (by rw[Cc,decide_eq_false j_];rfl))))]at hres
   subst hres
   refine T ?_
   exact D
  have g1:decide (((Ad s ((j:Nat):Int).toNat).toNat:Int)<48)=false:=decide_eq_false (by rw[ej];omega)
  by_cases k2:57<(Ad s j).toNat
  ·have g2:decide (((Ad s ((j:Nat):Int).toNat).toNat:Int)>57)=true:=decide_eq_true (by rw[ej];omega)
   rw[if_pos (.inr (.inr (Ja hlt (by rw[Cc,decide_eq_false (by omega:¬ (Ad s j).toNat≤57),Bool.and_false]))))]at hres
   subst hres
   refine T ?_
   exact D
  have g2:decide (((Ad s ((j:Nat):Int).toNat).toNat:Int)>57)=false:=decide_eq_false (by rw[ej];omega)
  have w1:IntKind.i64.wrap ((Ad s ((j:Nat):Int).toNat).toNat:Int)=((Ad s j).toNat:Int):=wrap_u8 _
  generalize D6 s j=v at *
  refine T ?_
  exact B5 [] hI j_ (fun i hi=>by
   by_cases e:i=j
   ·subst e;rw[Cc,decide_eq_true j_,decide_eq_true j_];rfl
   ·exact hI i j_) ⟨⟨q_,q_,congrArg Aa j_,q_,q_,q_,z_⟩,z_,q_,q_⟩
 ·have hje:j=s.size:=qB h
  subst hje
  clear h
  have hdg:=K9 hI
  obtain ⟨n,hn,hnl⟩:=Mp hdg
  rw[if_neg (by simp[h0,hdg];omega),hn]at hres
  rw[hn]at hv ⊢
  have q:=Hj n j_
  by_cases hx:Al (n:Int)=s
  ·have g:=Ov hx
   rw[if_pos hx]at hres
   subst hres
   refine T ?_
   refine C q F358 ?_
   exact D
  ·have g:=Ou hx
   rw[if_neg hx]at hres
   subst hres
   refine T ?_
   refine C q F358 ?_
   exact D
def AddrI (s:ByteArray) (x:Nat × List ByteArray × List UInt8):Prop :=
 x.1≤s.size+1∧x.2.1.length≤4∧(∀ p∈x.2.1,I8 p=true)∧x.2.2.length≤3 ∧
 (x.1≤s.size→Au 46 s=x.2.1++Bf 46 x.2.2 (s.data.toList.drop x.1))∧(s.size<x.1→Au 46 s=x.2.1)
theorem Ws (s:ByteArray) (hs:s.size≤1000000):Sy.Spec Tryz.prog 262 [Ab s] [] (.tup [A0 (A8 s).1,Af (A8 s).2]) []:=cT F262 Tryz.ntmps262 fun F hF=>by
 have hno:((Au 46 s).length≠4∨∃ x∈Au 46 s,I8 x=false)→A8 s=(0,false):=Af6
 have hyes:(Au 46 s).length=4→(∀ x∈Au 46 s,I8 x=true)→A8 s=(Ez (Au 46 s),true):=Adz
 generalize A8 s=res at *
 refine T ?_
 refine Av (AddrI s) (fun x=>[(0,Ab s),(4,Aa (Ez x.2.1)),(5,Aa x.2.1.length),(6,Ab (mkT x.2.2)),(7,Aa x.1)]) (fun _=>[]) (fun x=>2000000-x.1) (0,[],[]) [] ⟨by simp,by simp,by simp,by simp,fun _=>by rw[Hh];rfl,fun h=>by dsimp only at h;omega⟩ U ?_
 rintro ⟨i,P,cur⟩ ⟨h1,h2,h3,h4,h5,h6⟩
 dsimp only at h1 h2 h3 h4 h5 h6 ⊢
 have hA:=Hy P.length P rfl h3
 have hA4:(256:Int) ^ P.length≤4294967296:=by
  have h:P.length=0∨P.length=1∨P.length=2∨P.length=3∨P.length=4:=by omega
  rcases h with h | h | h | h | h<;>rw[h]<;>decide
 have hAd:0≤Ez P∧Ez P<4294967296:=⟨hA.1,by omega⟩
 clear hA hA4
 refine T ?_
 refine⟨fun h=>?_,fun h=>?_⟩
 ·have hle:i≤s.size:=qA h
  have hI:=h5 hle
  clear h h5 h6
  have hz1:(mkT cur).size=cur.length:=Ax cur
  have qd:=Vk (mkT cur)
  have hdr:=I4 (mkT cur)
  have hoc:=Tu (mkT cur)
  by_cases a1:i<s.size
  ·have f1:decide ((i:Int)<(s.size:Int))=true:=decide_eq_true j_
   have hlt:i<s.data.toList.length:=a1
   have hb:Ad s i=s.data.toList[i]:=Dj hlt
   have ej:Ad s ((i:Nat):Int).toNat=Ad s i:=rfl
   rw[List.drop_eq_getElem_cons hlt,Bf,← hb]at hI
   by_cases k1:Ad s i=46
   ·have g1:(((Ad s ((i:Nat):Int).toNat).toNat:Int) != 46)=false:=by rw[ej,k1];rfl
    rw[if_pos k1]at hI
    by_cases k2:255<digitsD (mkT cur)
    ·have g2:decide (digitsD (mkT cur)>255)=true:=decide_eq_true k2
     have e:=hno (.inr ⟨mkT cur,by rw[hI];simp,by rw[hoc];exact decide_eq_false j_⟩)
     subst e
     refine T ?_
     refine C qd F311 ?_
     exact D
    have g2:decide (digitsD (mkT cur)>255)=false:=decide_eq_false k2
    have hoc1:=hoc.trans (decide_eq_true j_)
    by_cases k3:3<P.length
    ·have g3:decide ((P.length:Int)>3)=true:=decide_eq_true j_
     have e:=hno (.inl (by
      rw[hI,List.length_append,List.length_cons]
      obtain ⟨p,t,ht⟩:=L3 46 (s.data.toList.drop (i+1)) []
      rw[ht,List.length_cons];omega))
     subst e
     refine T ?_
     refine C qd F311 ?_
     exact D
    have g3:decide ((P.length:Int)>3)=false:=decide_eq_false j_
    have hsn:=J0 P (mkT cur)
    have hln:(P++[mkT cur]).length=P.length+1:=by simp
    have hP3:Ez P<16777216:=by
     have h:=Hy P.length P rfl h3
     have h':P.length=0∨P.length=1∨P.length=2∨P.length=3:=by omega
     rcases h' with h' | h' | h' | h'<;>rw[h']at h<;>omega
    have hx:Au 46 s=(P++[mkT cur])++Bf 46 [] (s.data.toList.drop (i+1)):=by rw[hI];simp
    clear hno hyes hI
    generalize Ez P=v at *
    generalize digitsD (mkT cur)=d at *
    refine T ?_
    refine C qd F311 ?_
    refine C qd F311 ?_
    refine Ag (i+1,P++[mkT cur],([]:List UInt8)) [] ⟨by dsimp only;omega,by dsimp only;omega,fun p hp=>?_,by simp,fun _=>hx,fun h=>by dsimp only at h;omega⟩ (by dsimp only;omega) ⟨⟨q_,q_,congrArg Aa hsn,q_,congrArg Aa (by rw[hln];rfl),q_,q_,q_,q_,q_,z_⟩,z_,q_,q_⟩
    rcases List.mem_append.1 hp with hp | hp
    ·exact h3 p hp
    ·rw[List.mem_singleton.1 hp];exact hoc1
   ·have g1:(((Ad s ((i:Nat):Int).toNat).toNat:Int) != 46)=true:=by
     rw[ej,bne_iff_ne]
     intro e
     exact k1 (UInt8.toNat_inj.1 (by show _=46;omega))
    rw[if_neg k1]at hI
    have hx:mkT (cur++[Ad s i])=mkT cur++s.extract ((i:Nat):Int).toNat (((i:Nat):Int)+1).toNat:=by
     apply Dm
     rw[Ii,A2,A2,← Bt s,Bu,A2]
     have e1:(((i:Nat):Int)+1).toNat=i+1:=by omega
     simp only[e1,Int.toNat_natCast,Bt]
     rw[List.take_succ_eq_append_getElem hlt,List.drop_append_of_le_length (by rw[List.length_take];omega),List.drop_eq_nil_of_le (by rw[List.length_take];omega),← hb]
     rfl
    have hz2:(s.extract ((i:Nat):Int).toNat (((i:Nat):Int)+1).toNat).size=1:=by rw[ByteArray.size_extract];omega
    have hz3:(mkT cur++s.extract ((i:Nat):Int).toNat (((i:Nat):Int)+1).toNat).size=cur.length+1:=by rw[← hx,Ax];simp
    have g4:(mkT cur).size+(s.extract ((i:Nat):Int).toNat (((i:Nat):Int)+1).toNat).size≤9223372036854775807:=by omega
    clear qd hdr hoc
    by_cases k2:3<cur.length+1
    ·have g2:decide (((mkT cur++s.extract ((i:Nat):Int).toNat (((i:Nat):Int)+1).toNat).size:Int)>3)=true:=decide_eq_true j_
     obtain ⟨p,t,ht⟩:=L3 46 (s.data.toList.drop (i+1)) (cur++[Ad s i])
     have e:=hno (.inr ⟨mkT ((cur++[Ad s i])++p),by rw[hI,ht];simp,Ag6 (by simp;omega)⟩)
     subst e
     refine T ?_
     refine⟨⟨by omega,by omega,by omega⟩,?_⟩
     refine T ?_
     exact D
    have g2:decide (((mkT cur++s.extract ((i:Nat):Int).toNat (((i:Nat):Int)+1).toNat).size:Int)>3)=false:=decide_eq_false j_
    clear hno hyes
    refine T ?_
    refine⟨⟨by omega,by omega,by omega⟩,?_⟩
    refine T ?_
    exact Ag (i+1,P,cur++[Ad s i]) [] ⟨by dsimp only;omega,h2,h3,by simp;omega,fun _=>hI,fun h=>by dsimp only at h;omega⟩ (by dsimp only;omega) ⟨⟨q_,q_,q_,q_,q_,q_,congrArg Ab hx,q_,q_,q_,z_⟩,z_,q_,q_⟩
  ·have f1:decide ((i:Int)<(s.size:Int))=false:=decide_eq_false j_
   have hie:i=s.size:=by omega
   have hdp:s.data.toList.drop i=[]:=List.drop_eq_nil_of_le (by show s.size≤i;omega)
   rw[hdp,Bf]at hI
   by_cases k2:255<digitsD (mkT cur)
   ·have g2:decide (digitsD (mkT cur)>255)=true:=decide_eq_true k2
    have e:=hno (.inr ⟨mkT cur,by rw[hI];simp,by rw[hoc];exact decide_eq_false j_⟩)
    subst e
    refine T ?_
    refine C qd F311 ?_
    exact D
   have g2:decide (digitsD (mkT cur)>255)=false:=decide_eq_false k2
   have hoc1:=hoc.trans (decide_eq_true j_)
   by_cases k3:3<P.length
   ·have g3:decide ((P.length:Int)>3)=true:=decide_eq_true j_
    have e:=hno (.inl (by rw[hI,List.length_append,List.length_singleton];omega))
    subst e
    refine T ?_
    refine C qd F311 ?_
    exact D
   have g3:decide ((P.length:Int)>3)=false:=decide_eq_false j_
   have hsn:=J0 P (mkT cur)
   have hln:(P++[mkT cur]).length=P.length+1:=by simp
   have hP3:Ez P<16777216:=by
    have h:=Hy P.length P rfl h3
    have h':P.length=0∨P.length=1∨P.length=2∨P.length=3:=by omega
    rcases h' with h' | h' | h' | h'<;>rw[h']at h<;>omega
   clear hno hyes
   generalize Ez P=v at *
   generalize digitsD (mkT cur)=d at *
   refine T ?_
   refine C qd F311 ?_
   refine C qd F311 ?_
   refine Ag (i+1,P++[mkT cur],([]:List UInt8)) [] ⟨by dsimp only;omega,by dsimp only;omega,fun p hp=>?_,by simp,fun h=>by dsimp only at h;omega,fun _=>hI⟩ (by dsimp only;omega) ⟨⟨q_,q_,congrArg Aa hsn,q_,congrArg Aa (by rw[hln];rfl),q_,q_,q_,q_,q_,z_⟩,z_,q_,q_⟩
   rcases List.mem_append.1 hp with hp | hp
   ·exact h3 p hp
   ·rw[List.mem_singleton.1 hp];exact hoc1
 ·have hgt:s.size<i:=qB h
  have hI:=h6 hgt
  clear h h5 h6
  rw[hI]at hno hyes
  by_cases k:P.length=4
  ·have g:((P.length:Int) != 4)=false:=by rw[bne_eq_false_iff_eq];omega
   have e:=hyes k h3
   have w:IntKind.u32.wrap (Ez P)=Ez P:=by rw[IntKind.wrap_u32];omega
   rw[← w]at e
   subst e
   refine T ?_
   exact D
  ·have g:((P.length:Int) != 4)=true:=by rw[bne_iff_ne];omega
   have e:=hno (.inl k)
   subst e
   refine T ?_
   exact D
theorem Aem {s:ByteArray} (h:s.size≠0):(((Ad s (0:Int).toNat).toNat:Int) == 45)=Mb s:=by
 unfold Mb
 have hl:s.data.toList.length=s.size:=rfl
 match hs:s.data.toList with
 | []=>rw[hs]at hl;exact absurd hl.symm h
 | c::r =>
  have e:Ad s (0:Int).toNat=c:=by show Ad s 0=c;simp[Ad,hs]
  rw[e,List.head?_cons]
  by_cases hc:c=45
  ·subst hc;rfl
  ·have h1:(((c.toNat:Int)) == 45)=false:=by
    rw[beq_eq_false_iff_ne]
    intro e
    exact hc (UInt8.toNat_inj.1 (by show _=45;omega))
   rw[h1]
   symm
   rw[beq_eq_false_iff_ne]
   intro e
   exact hc (Option.some.inj e)
theorem K6 (s:ByteArray) (lo hi:Int) (h0:0≤lo) (hs:s.size≤1000000):Sy.Spec Tryz.prog 258 [Ab s,Aa lo,Aa hi] [] (.tup [Aa (numR s lo hi).1,Af (numR s lo hi).2]) []:=cT F258 Tryz.ntmps258 fun F hF=>by
 have hres:=numR.eq_1 s lo hi
 generalize numR s lo hi=res at *
 have hnv:=numV.eq_1 s
 have hng:=@neg_digs s
 have hps:=@pos_digs s
 generalize numV s=nv at *
 generalize hD:Ew s=dg at *
 by_cases e0:s.size=0
 ·have f0:decide ((s.size:Int)>0)=false:=decide_eq_false j_
  have hn0:Mb s=false:=by
   unfold Mb
   rw[List.length_eq_zero_iff.1 (show s.data.toList.length=0 from e0)]
   rfl
  have hl:=(hps hn0).1
  rw[if_pos (.inl j_)]at hres
  subst hres
  have f1:decide ((s.size:Int)-0<1)=true:=decide_eq_true j_
  refine T ?_
  exact D
 have f0:decide ((s.size:Int)>0)=true:=decide_eq_true j_
 have hg:=Aem e0
 cases hn:Mb s
 ·rw[hn]at hg hnv
  obtain ⟨hL,hB⟩:=hps hn
  by_cases h1:dg.length<1∨10<dg.length
  ·rw[if_pos h1]at hres
   subst hres
   by_cases h2:dg.length<1
   ·exact absurd h2 j_
   ·have f1:decide ((s.size:Int)-0<1)=false:=decide_eq_false j_
    have f2:decide ((s.size:Int)-0>10)=true:=decide_eq_true j_
    refine T ?_
    exact D
  rw[if_neg h1]at hres
  have f1:decide ((s.size:Int)-0<1)=false:=decide_eq_false j_
  have f2:decide ((s.size:Int)-0>10)=false:=decide_eq_false j_
  refine T ?_
  refine B3 dg.length (fun j=>J1 (fun _ c=>Cc c) dg j) (fun j=>[(0,Ab s),(1,Aa lo),(2,Aa hi),(8,Aa 0),(9,Aa (Ei (dg.take j))),(10,Aa ((j:Nat)))]) (fun _=>[]) [] (Cz _ _) U ?_
  intro j hj hI
  have hv:=Xx (l:=dg.take j) (by rw[List.length_take];omega) (S6 hI)
  refine T ?_
  refine⟨fun h=>?_,fun h=>?_⟩
  ·have hlt:j<dg.length:=qA h
   clear h
   have hbx:=hB j hlt
   have hno:=fun h=>@all_at' _ Cc dg j hlt h
   have hnx:=fun h=>Ce (p:=fun _ c=>Cc c) hI hlt h
   have hsucc:Ei (dg.take (j+1))=10 * Ei (dg.take j)+((dg[j].toNat:Int)-48):=by rw[List.take_succ_eq_append_getElem hlt,Hn]
   have ej:Ad s (((j:Nat):Int)).toNat=dg[j]:=by
    have e1:Ad s (((j:Nat):Int)).toNat=Ad s j:=by rfl
    rw[e1,hbx]
    simp[hlt]
   rw[← ej]at hno hnx hsucc
   have w1:IntKind.i64.wrap ((Ad s (((j:Nat):Int)).toNat).toNat:Int)=((Ad s (((j:Nat):Int)).toNat).toNat:Int):=wrap_u8 _
   have hc2:=(Ad s (((j:Nat):Int)).toNat).toNat_lt
   generalize Ei (dg.take j)=v at *
   have hx:Cc (Ad s (((j:Nat):Int)).toNat)=(decide (48≤(Ad s (((j:Nat):Int)).toNat).toNat) && decide ((Ad s (((j:Nat):Int)).toNat).toNat≤57)):=rfl
   by_cases k1:(Ad s (((j:Nat):Int)).toNat).toNat<48
   ·have g1:decide (((Ad s (((j:Nat):Int)).toNat).toNat:Int)<48)=true:=decide_eq_true j_
    rw[if_pos (hno (by rw[hx,decide_eq_false j_];rfl))]at hres
    subst hres
    refine T ?_
    exact D
   have g1:decide (((Ad s (((j:Nat):Int)).toNat).toNat:Int)<48)=false:=decide_eq_false j_
   by_cases k2:57<(Ad s (((j:Nat):Int)).toNat).toNat
   ·have g2:decide (((Ad s (((j:Nat):Int)).toNat).toNat:Int)>57)=true:=decide_eq_true j_
    rw[if_pos (hno (by rw[hx,decide_eq_false (by omega:¬ (Ad s (((j:Nat):Int)).toNat).toNat≤57),Bool.and_false]))]at hres
    subst hres
    refine T ?_
    exact D
   have g2:decide (((Ad s (((j:Nat):Int)).toNat).toNat:Int)>57)=false:=decide_eq_false j_
   have hdgt:Cc (Ad s (((j:Nat):Int)).toNat)=true:=by rw[hx,decide_eq_true j_,decide_eq_true j_];rfl
   refine T ?_
   exact B5 [] hI j_ (hnx hdgt) ⟨⟨q_,q_,q_,q_,q_,q_,q_,q_,congrArg Aa j_,q_,q_,q_,z_⟩,z_,q_,q_⟩
  ·have hje:j=dg.length:=qB h
   subst hje
   clear h
   rw[if_neg (by rw[D9 hI (Nat.le_refl _)];simp)]at hres
   rw[List.take_length]at hv ⊢
   rw[if_neg qf]at hnv
   subst hnv
   obtain ⟨m,hm⟩:∃ m:Nat,Ei dg=m:=⟨(Ei dg).toNat,by omega⟩
   have q:=Iq m j_
   rw[← hm]at q
   generalize Ei dg=v at *
   by_cases k1:v<lo
   ·have g1:decide (v<lo)=true:=decide_eq_true k1
    rw[if_pos (.inl k1)]at hres
    subst hres
    refine T ?_
    exact D
   have g1:decide (v<lo)=false:=decide_eq_false k1
   by_cases k2:hi<v
   ·have g2:decide (v>hi)=true:=decide_eq_true k2
    rw[if_pos (.inr k2)]at hres
    subst hres
    refine T ?_
    exact D
   have g2:decide (v>hi)=false:=decide_eq_false k2
   rw[if_neg j_]at hres
   by_cases k3:Al v=s
   ·have g3:=Ov k3
    rw[if_pos ((C1 _ _).2 k3)]at hres
    subst hres
    refine T ?_
    refine C q F306 ?_
    exact D
   ·have g3:=Ou k3
    rw[if_neg (fun h=>k3 ((C1 _ _).1 h))]at hres
    subst hres
    refine T ?_
    refine C q F306 ?_
    exact D
 ·rw[hn]at hg hnv
  obtain ⟨hL,hB⟩:=hng hn
  by_cases h1:dg.length<1∨10<dg.length
  ·rw[if_pos h1]at hres
   subst hres
   by_cases h2:dg.length<1
   ·have f1:decide ((s.size:Int)-1<1)=true:=decide_eq_true j_
    refine T ?_
    exact D
   ·have f1:decide ((s.size:Int)-1<1)=false:=decide_eq_false j_
    have f2:decide ((s.size:Int)-1>10)=true:=decide_eq_true j_
    refine T ?_
    exact D
  rw[if_neg h1]at hres
  have f1:decide ((s.size:Int)-1<1)=false:=decide_eq_false j_
  have f2:decide ((s.size:Int)-1>10)=false:=decide_eq_false j_
  refine T ?_
  refine B3 dg.length (fun j=>J1 (fun _ c=>Cc c) dg j) (fun j=>[(0,Ab s),(1,Aa lo),(2,Aa hi),(8,Aa 1),(9,Aa (Ei (dg.take j))),(10,Aa ((j+1:Nat)))]) (fun _=>[]) [] (Cz _ _) U ?_
  intro j hj hI
  have hv:=Xx (l:=dg.take j) (by rw[List.length_take];omega) (S6 hI)
  refine T ?_
  refine⟨fun h=>?_,fun h=>?_⟩
  ·have hlt:j<dg.length:=qA h
   clear h
   have hbx:=hB j hlt
   have hno:=fun h=>@all_at' _ Cc dg j hlt h
   have hnx:=fun h=>Ce (p:=fun _ c=>Cc c) hI hlt h
   have hsucc:Ei (dg.take (j+1))=10 * Ei (dg.take j)+((dg[j].toNat:Int)-48):=by rw[List.take_succ_eq_append_getElem hlt,Hn]
   have ej:Ad s (((j+1:Nat):Int)).toNat=dg[j]:=by
    have e1:Ad s (((j+1:Nat):Int)).toNat=Ad s (1+j):=by rw[Nat.add_comm 1 j];rfl
    rw[e1,hbx]
    simp[hlt]
   rw[← ej]at hno hnx hsucc
   have w1:IntKind.i64.wrap ((Ad s (((j+1:Nat):Int)).toNat).toNat:Int)=((Ad s (((j+1:Nat):Int)).toNat).toNat:Int):=wrap_u8 _
   have hc2:=(Ad s (((j+1:Nat):Int)).toNat).toNat_lt
   generalize Ei (dg.take j)=v at *
   have hx:Cc (Ad s (((j+1:Nat):Int)).toNat)=(decide (48≤(Ad s (((j+1:Nat):Int)).toNat).toNat) && decide ((Ad s (((j+1:Nat):Int)).toNat).toNat≤57)):=rfl
   by_cases k1:(Ad s (((j+1:Nat):Int)).toNat).toNat<48
   ·have g1:decide (((Ad s (((j+1:Nat):Int)).toNat).toNat:Int)<48)=true:=decide_eq_true j_
    rw[if_pos (hno (by rw[hx,decide_eq_false j_];rfl))]at hres
    subst hres
    refine T ?_
    exact D
   have g1:decide (((Ad s (((j+1:Nat):Int)).toNat).toNat:Int)<48)=false:=decide_eq_false j_
   by_cases k2:57<(Ad s (((j+1:Nat):Int)).toNat).toNat
   ·have g2:decide (((Ad s (((j+1:Nat):Int)).toNat).toNat:Int)>57)=true:=decide_eq_true j_
    rw[if_pos (hno (by rw[hx,decide_eq_false (by omega:¬ (Ad s (((j+1:Nat):Int)).toNat).toNat≤57),Bool.and_false]))]at hres
    subst hres
    refine T ?_
    exact D
   have g2:decide (((Ad s (((j+1:Nat):Int)).toNat).toNat:Int)>57)=false:=decide_eq_false j_
   have hdgt:Cc (Ad s (((j+1:Nat):Int)).toNat)=true:=by rw[hx,decide_eq_true j_,decide_eq_true j_];rfl
   refine T ?_
   exact B5 [] hI j_ (hnx hdgt) ⟨⟨q_,q_,q_,q_,q_,q_,q_,q_,congrArg Aa j_,q_,q_,q_,z_⟩,z_,q_,q_⟩
  ·have hje:j=dg.length:=qB h
   subst hje
   clear h
   rw[if_neg (by rw[D9 hI (Nat.le_refl _)];simp)]at hres
   rw[List.take_length]at hv ⊢
   rw[if_pos rfl]at hnv
   subst hnv
   have q:Sy.Spec Tryz.prog 306 [Aa 0] [] (Ab (Al 0)) []:=Iq 0 qe
   have hd0:(Al 0 == s)=false:=by
    cases hb:(Al 0 == s)
    ·rfl
    ·exfalso
     have e:=(C1 _ _).1 hb
     rw[← e]at hn
     exact absurd hn (by decide +kernel)
   generalize Ei dg=v at *
   by_cases k1:0-v<lo
   ·have g1:decide (0-v<lo)=true:=decide_eq_true k1
    rw[if_pos (.inl k1)]at hres
    subst hres
    refine T ?_
    exact D
   have g1:decide (0-v<lo)=false:=decide_eq_false k1
   by_cases k2:hi<0-v
   ·have g2:decide (0-v>hi)=true:=decide_eq_true k2
    rw[if_pos (.inr k2)]at hres
    subst hres
    refine T ?_
    exact D
   have g2:decide (0-v>hi)=false:=decide_eq_false k2
   rw[if_neg j_]at hres
   obtain rfl:v=0:=by omega
   rw[show (0-0:Int)=0 from rfl,hd0,if_neg qf]at hres
   subst hres
   have g3:(!(Al 0 == s))=true:=by rw[hd0];rfl
   refine T ?_
   refine C q F306 ?_
   exact D
theorem Yp (s:ByteArray) (hs:s.size≤1000000):Sy.Spec Tryz.prog 312 [Ab s] [] (.sl 1 Ab (Au 44 s)) []:=cT F312 Tryz.ntmps312 fun F hF=>by
 rw[Hh]
 refine T ?_
 refine C7 5 Ab [⟨#[]⟩] q_ q_ ?_
 refine T ?_
 refine Av (fun x:Nat × List ByteArray × List UInt8=>x.1≤s.size∧x.2.1.length≤x.1∧x.2.2.length≤x.1∧Bf 44 [] s.data.toList=x.2.1++Bf 44 x.2.2 (s.data.toList.drop x.1)) (fun x=>[(0,Ab s),(3,.osl 1000),(4,Aa x.1)]) (fun x=>[(1000,.row 1 Ab (x.2.1++[mkT x.2.2]))]) (fun x=>s.size-x.1) (0,[],[]) [(1000,5)] ⟨by simp,by simp,by simp,by simp⟩ U ?_
 rintro ⟨i,P,cur⟩ ⟨h1,h2,h3,hI⟩
 dsimp only at h1 h2 h3 hI ⊢
 refine T ?_
 refine⟨fun h=>?_,fun h=>?_⟩
 ·have hlt0:i<s.size:=qA h
  have hlt:i<s.data.toList.length:=hlt0
  clear h
  have hb:Ad s i=s.data.toList[i]:=Dj hlt
  have ej:Ad s ((i:Nat):Int).toNat=Ad s i:=rfl
  have hln:(P++[mkT cur]).length=P.length+1:=by simp
  rw[List.drop_eq_getElem_cons hlt,Bf,← hb]at hI
  by_cases k1:Ad s i=44
  ·have g1:(((Ad s ((i:Nat):Int).toNat).toNat:Int) == 44)=true:=by rw[ej,k1];rfl
   rw[if_pos k1]at hI
   refine T ?_
   refine X (Ai Γ.toTy 18 q_ q_ q_ q_ q_ (.row q_) (.lit (e:=Ab) (l:=[⟨#[]⟩]) q_ q_) qf (by simp only[List.length_singleton];omega) (by simp only[List.length_singleton];omega)) ?_
   exact Ag (i+1,P++[mkT cur],([]:List UInt8)) [(1000,18)] ⟨hlt0,by dsimp only;omega,by simp,by rw[hI];simp⟩ (by dsimp only;omega) U
  ·have g1:(((Ad s ((i:Nat):Int).toNat).toNat:Int) == 44)=false:=by
    rw[ej,beq_eq_false_iff_ne]
    intro e
    exact k1 (UInt8.toNat_inj.1 (by show _=44;omega))
   rw[if_neg k1]at hI
   have hx:mkT (cur++[Ad s i])=mkT cur++s.extract ((i:Nat):Int).toNat (((i:Nat):Int)+1).toNat:=by
    apply Dm
    rw[Ii,A2,A2,← Bt s,Bu,A2]
    have e1:(((i:Nat):Int)+1).toNat=i+1:=by omega
    simp only[e1,Int.toNat_natCast,Bt]
    rw[List.take_succ_eq_append_getElem hlt,List.drop_append_of_le_length (by rw[List.length_take];omega),List.drop_eq_nil_of_le (by rw[List.length_take];omega),← hb]
    rfl
   have hz1:(mkT cur).size=cur.length:=Ax cur
   have hz2:(s.extract ((i:Nat):Int).toNat (((i:Nat):Int)+1).toNat).size≤1:=by rw[ByteArray.size_extract];omega
   have hlst:∀ (h:(((P++[mkT cur]).length:Int)-1).toNat<(P++[mkT cur]).length),(P++[mkT cur])[(((P++[mkT cur]).length:Int)-1).toNat]'h=mkT cur:=fun h=>by
    have e:(((P++[mkT cur]).length:Int)-1).toNat=P.length:=by omega
    simp only[e]
    simp
   have hset:∀ y,(P++[mkT cur]).set (((P++[mkT cur]).length:Int)-1).toNat y=P++[y]:=fun y=>by
    have e:(((P++[mkT cur]).length:Int)-1).toNat=P.length:=by omega
    rw[e,List.set_append_right _ _ (Nat.le_refl _),Nat.sub_self]
    rfl
   generalize hR:P++[mkT cur]=R at *
   have b1:(((R.length:Int))-1).toNat<R.length:=by omega
   have hl0:=hlst b1
   have g4:(R[(((R.length:Int))-1).toNat]'b1).size+(s.extract ((i:Nat):Int).toNat (((i:Nat):Int)+1).toNat).size≤9223372036854775807:=by rw[hl0];omega
   refine T ?_
   refine⟨⟨by omega,by omega,by omega⟩,?_⟩
   refine T ?_
   refine⟨(R[(((R.length:Int))-1).toNat]'b1)++s.extract ((i:Nat):Int).toNat (((i:Nat):Int)+1).toNat,q_,q_,?_⟩
   refine T ?_
   refine Ag (i+1,P,cur++[Ad s i]) [] ⟨hlt0,by dsimp only;omega,by simp;omega,hI⟩ (by dsimp only;omega) ⟨⟨q_,q_,q_,q_,q_,q_,z_⟩,⟨.inl (congrArg (Ob.row 1 Ab) ?_),q_,z_⟩,q_,q_⟩
   dsimp only
   rw[hset,hl0,hx]
 ·have hie:i=s.size:=qB h
  subst hie
  clear h
  have hdp:s.data.toList.drop s.size=[]:=List.drop_eq_nil_of_le (Nat.le_refl _)
  rw[hdp,Bf]at hI
  rw[hI]
  refine A5 1000 q_ ?_
  refine T ?_
  exact D
theorem Kb (d:UInt8):∀ (l cur:List UInt8),∀ w∈Bf d cur l,w.size≤cur.length+l.length
 | [],cur,w,hw=>by
  rw[Bf,List.mem_singleton]at hw
  subst hw;rw[Ax];omega
 | c::r,cur,w,hw=>by
  rw[Bf]at hw
  rw[List.length_cons]
  split at hw
  ·rcases List.mem_cons.1 hw with h | h
   ·subst h;rw[Ax];omega
   ·have:=Kb d r [] w h;rw[List.length_nil]at this;omega
  ·have:=Kb d r (cur++[c]) w hw
   rw[List.length_append,List.length_singleton]at this
   omega
theorem Oy (d:UInt8):∀ (l cur:List UInt8),(Bf d cur l).length≤l.length+1
 | [],cur=>by rw[Bf];simp
 | c::r,cur=>by
  rw[Bf]
  split
  ·have:=Oy d r [];simp only[List.length_cons];omega
  ·have:=Oy d r (cur++[c]);rw[List.length_cons];omega
theorem Mv (d:UInt8) (s:ByteArray):(∀ w∈Au d s,w.size≤s.size)∧(Au d s).length≤s.size+1:=by
 rw[Hh]
 have e:s.data.toList.length=s.size:=rfl
 exact⟨fun w hw=>by have:=Kb d _ _ w hw;rw[List.length_nil,e]at this;omega,by have:=Oy d s.data.toList [];omega⟩
theorem Yq (s:ByteArray) (hi:Int) (hs:s.size≤1000000):Sy.Spec Tryz.prog 310 [Ab s,Aa 1,Aa hi] [] (.tup [.sl 1 Aa (Cn (fun p=>numR p 1 hi) s).1,Af (Cn (fun p=>numR p 1 hi) s).2]) []:=cT F310 Tryz.ntmps310 fun F hF=>by
 have qs:=Yp s hs
 have hsp:=Mv 44 s
 have hres:=Aey hi s
 generalize Cn (fun p=>numR p 1 hi) s=res at *
 generalize Au 44 s=P at *
 refine T ?_
 refine C qs F312 ?_
 refine Ct 9 1000 1 Aa q_ q_ ?_
 refine T ?_
 refine Av (fun j:Nat=>j≤P.length∧J1 (fun _ p=>(numR p 1 hi).2) P j) (fun j=>[(1,Aa 1),(2,Aa hi),(8,.sl 1 Ab P),(9,.osl 1000),(10,Aa j)]) (fun j=>[(1000,.row 1 Aa ((P.take j).map fun p=>(numR p 1 hi).1))]) (fun j=>P.length-j) 0 [] ⟨by simp,Cz _ _⟩ U ?_
 rintro j ⟨hj,hU⟩
 refine T ?_
 refine⟨fun h=>?_,fun h=>?_⟩
 ·have hlt:j<P.length:=qA h
  have hlt0:((j:Nat):Int).toNat<P.length:=hlt
  clear h
  have q:=K6 (P[((j:Nat):Int).toNat]'hlt0) 1 hi qe (by have:=hsp.1 _ (List.getElem_mem hlt0);omega)
  have hno:=fun h=>@all_at' _ (fun p=>(numR p 1 hi).2) P j hlt h
  have hnx:=fun h=>Ce (p:=fun _ p=>(numR p 1 hi).2) hU hlt h
  have hmp:((P.take (j+1)).map fun p=>(numR p 1 hi).1)=((P.take j).map fun p=>(numR p 1 hi).1)++[(numR (P[((j:Nat):Int).toNat]'hlt0) 1 hi).1]:=by
   rw[List.take_succ_eq_append_getElem hlt,List.map_append];rfl
  have hml:((P.take j).map fun p=>(numR p 1 hi).1).length=j:=by rw[List.length_map,List.length_take];omega
  cases hb:(numR (P[((j:Nat):Int).toNat]'hlt0) 1 hi).2 with
  | false =>
   have hno:=hno hb
   rw[if_neg (fun hh=>by rw[List.all_eq_true.2 hh.1]at hno;cases hno)]at hres
   subst hres
   rw[hb]at q
   refine T ?_
   refine C q F258 ?_
   refine Bm 6 1 Aa q_ ?_
   refine T ?_
   exact D
  | true =>
   rw[hb]at q
   have hnx:=hnx hb
   generalize (P.take j).map (fun p=>(numR p 1 hi).1)=R at *
   generalize (numR (P[((j:Nat):Int).toNat]'hlt0) 1 hi).1=v at *
   refine T ?_
   refine C q F258 ?_
   refine X (Ai Γ.toTy 36 q_ q_ q_ q_ q_ (.row q_) (.lit (e:=Aa) (l:=[v]) q_ q_) qf (by simp only[List.length_singleton];omega) (by simp only[List.length_singleton];omega)) ?_
   exact Ag (j+1) [(1000,36)] ⟨hlt,hnx⟩ j_ ⟨⟨q_,q_,q_,q_,q_,q_,q_,q_,q_,q_,z_⟩,⟨.inl (congrArg (Ob.row 1 Aa) hmp),q_,z_⟩,q_,q_⟩
 ·have hje:j=P.length:=qB h
  subst hje
  clear h
  have hall:=List.all_eq_true.1 (D9 hU (Nat.le_refl _))
  rw[List.take_length]
  have q:=Aba (P.map fun p=>(numR p 1 hi).1) 1 hi (by unfold Ec;rw[List.length_map];omega)
  refine A5 1000 q_ ?_
  cases hb:Cp (P.map fun p=>(numR p 1 hi).1) 1 hi with
  | false =>
   rw[hb,if_neg (fun hh=>by cases hh.2)]at hres
   rw[hb]at q
   subst hres
   refine T ?_
   refine C q F338 ?_
   refine Bm 6 1 Aa q_ ?_
   refine T ?_
   exact D
  | true =>
   rw[hb,if_pos ⟨hall,rfl⟩]at hres
   rw[hb]at q
   subst hres
   refine T ?_
   refine C q F338 ?_
   exact D
theorem Wq (s:ByteArray) (hs:s.size≤1000000):Sy.Spec Tryz.prog 263 [Ab s] [] (.tup [.sl 1 A0 (Az s).1,Af (Az s).2]) []:=cT F263 Tryz.ntmps263 fun F hF=>by
 have qs:=Yp s hs
 have hsp:=Mv 44 s
 have hres:Az s=Bj A8 [] (Au 44 s):=rfl
 generalize Az s=res at *
 generalize Au 44 s=P at *
 refine T ?_
 refine C qs F312 ?_
 refine Ct 5 1000 1 A0 q_ q_ ?_
 refine T ?_
 refine Av (fun x:Nat × List Int=>x.1≤P.length∧x.2.length=x.1∧x.1≤16∧res=Bj A8 x.2 (P.drop x.1)) (fun x=>[(4,.sl 1 Ab P),(5,.osl 1000),(6,Aa x.1)]) (fun x=>[(1000,.row 1 A0 x.2)]) (fun x=>P.length-x.1) (0,[]) [] ⟨by simp,by simp,by simp,by simpa using hres⟩ U ?_
 clear hres
 rintro ⟨j,R⟩ ⟨hj,hR,h16,hres⟩
 dsimp only at hj hR h16 hres ⊢
 refine T ?_
 refine⟨fun h=>?_,fun h=>?_⟩
 ·have hlt:j<P.length:=qA h
  have hlt0:((j:Nat):Int).toNat<P.length:=hlt
  clear h
  have q:=Ws (P[((j:Nat):Int).toNat]'hlt0) (by have:=hsp.1 _ (List.getElem_mem hlt0);omega)
  have hPj:P[j]=P[((j:Nat):Int).toNat]'hlt0:=rfl
  rw[List.drop_eq_getElem_cons hlt,Bj,hPj]at hres
  generalize A8 (P[((j:Nat):Int).toNat]'hlt0)=rt at *
  obtain ⟨v,b⟩:=rt
  dsimp only at hres q
  cases b with
  | false =>
   rw[if_pos (.inl rfl)]at hres
   subst hres
   refine T ?_
   refine C q F262 ?_
   refine Bm 2 1 A0 q_ ?_
   refine T ?_
   exact D
  | true =>
   by_cases k1:j=16
   ·have g1:decide ((j:Int)≥16)=true:=decide_eq_true j_
    rw[if_pos (.inr (.inl j_))]at hres
    subst hres
    refine T ?_
    refine C q F262 ?_
    refine Bm 2 1 A0 q_ ?_
    refine T ?_
    exact D
   have g1:decide ((j:Int)≥16)=false:=decide_eq_false j_
   by_cases k2:j=0
   ·have g2:decide ((j:Int)>0)=false:=decide_eq_false j_
    obtain rfl:R=[]:=List.length_eq_zero_iff.1 j_
    rw[if_neg qf]at hres
    refine T ?_
    refine C q F262 ?_
    refine X (Ai Γ.toTy 47 q_ q_ q_ q_ q_ (.row q_) (.lit (e:=A0) (l:=[v]) q_ q_) qf (by simp only[List.length_singleton];omega) (by simp only[List.length_singleton];simp)) ?_
    exact Ag (j+1,[]++[v]) [(1000,47)] ⟨hlt,by simp;omega,by dsimp only;omega,hres⟩ (by dsimp only;omega) U
   have g2:decide ((j:Int)>0)=true:=decide_eq_true j_
   have b1:((j:Int)-1).toNat<R.length:=by omega
   have hlast:R.getLast? = some (R[((j:Int)-1).toNat]'b1):=by
    rw[List.getLast?_eq_getElem?,List.getElem?_eq_getElem j_]
    have e:R.length-1=((j:Int)-1).toNat:=by omega
    simp only[e]
   by_cases k3:v≤R[((j:Int)-1).toNat]'b1
   ·have g3:decide (R[((j:Int)-1).toNat]'b1≥v)=true:=decide_eq_true k3
    rw[if_pos (.inr (.inr ⟨_,hlast,k3⟩))]at hres
    subst hres
    refine T ?_
    refine C q F262 ?_
    refine Bm 2 1 A0 q_ ?_
    refine T ?_
    exact D
   have g3:decide (R[((j:Int)-1).toNat]'b1≥v)=false:=decide_eq_false k3
   rw[if_neg (by
    rintro (hh | hh | ⟨x,hx,hxv⟩)
    ·cases hh
    ·omega
    ·rw[hlast]at hx
     rw[← Option.some.inj hx]at hxv
     exact k3 hxv)]at hres
   refine T ?_
   refine C q F262 ?_
   refine X (Ai Γ.toTy 47 q_ q_ q_ q_ q_ (.row q_) (.lit (e:=A0) (l:=[v]) q_ q_) qf (by simp only[List.length_singleton];omega) (by simp only[List.length_singleton];omega)) ?_
   exact Ag (j+1,R++[v]) [(1000,47)] ⟨hlt,by simp;omega,by dsimp only;omega,hres⟩ (by dsimp only;omega) U
 ·have hje:j=P.length:=qB h
  subst hje
  clear h
  rw[List.drop_length,Bj]at hres
  subst hres
  refine A5 1000 q_ ?_
  refine T ?_
  exact D
theorem Aih (s:ByteArray) (hs:s.size≤1000000):Sy.Spec Tryz.prog 256 [Ab s] [] (Af (nameB s)) []:=cT F256 Tryz.ntmps256 fun F hF=>by
 have hw:=nameB.eq_1 s
 obtain ⟨r,hr⟩:∃ r,nameB s=r:=⟨_,rfl⟩
 rw[hr]at hw ⊢
 have hL:s.data.toList.length=s.size:=rfl
 by_cases h0:s.size<1
 ·have f0:decide ((s.size:Int)<1)=true:=decide_eq_true j_
  have e:r=false:=by rw[hw,List.length_eq_zero_iff.1 (show s.data.toList.length=0 by omega)];rfl
  subst e
  refine T ?_
  exact D
 have f0:decide ((s.size:Int)<1)=false:=decide_eq_false j_
 by_cases h1:s.size>12
 ·have f1:decide ((s.size:Int)>12)=true:=decide_eq_true j_
  have e:r=false:=by rw[hw,decide_eq_false (by omega:¬ s.size≤12),Bool.and_false]
  subst e
  refine T ?_
  exact D
 have f1:decide ((s.size:Int)>12)=false:=decide_eq_false j_
 have hN:r=(letB (Ad s (0:Int).toNat) && s.data.toList.all fun c=>letB c || Cc c):=by
  rw[hw,decide_eq_true (by omega:s.size≤12),Bool.and_true]
  match hs:s.data.toList,hL with
  | [],hL=>simp at hL;omega
  | c::t,_ =>
   have e:Ad s (0:Int).toNat=c:=by show Ad s 0=c;simp[Ad,hs]
   rw[e,Ag1,List.all_cons]
   cases letB c<;>simp
 clear hw
 have hx0:letB (Ad s (0:Int).toNat)=(decide (97≤(Ad s (0:Int).toNat).toNat) && decide ((Ad s (0:Int).toNat).toNat≤122)):=rfl
 by_cases k1:(Ad s (0:Int).toNat).toNat<97
 ·have g1:decide (((Ad s (0:Int).toNat).toNat:Int)<97)=true:=decide_eq_true j_
  have e:r=false:=by rw[hN,hx0,decide_eq_false j_];rfl
  subst e
  refine T ?_
  exact D
 have g1:decide (((Ad s (0:Int).toNat).toNat:Int)<97)=false:=decide_eq_false j_
 by_cases k2:(Ad s (0:Int).toNat).toNat>122
 ·have g2:decide (((Ad s (0:Int).toNat).toNat:Int)>122)=true:=decide_eq_true j_
  have e:r=false:=by rw[hN,hx0,decide_eq_false (by omega:¬ (Ad s (0:Int).toNat).toNat≤122),Bool.and_false];rfl
  subst e
  refine T ?_
  exact D
 have g2:decide (((Ad s (0:Int).toNat).toNat:Int)>122)=false:=decide_eq_false j_
 rw[hx0,decide_eq_true j_,decide_eq_true j_,Bool.true_and,Bool.true_and]at hN
 clear hx0 k1 k2
 refine T ?_
 refine B3 s.size (fun j=>J1 (fun _ c=>letB c || Cc c) s.data.toList j) (fun j=>[(0,Ab s),(3,Aa j)]) (fun _=>[]) [] (Cz _ _) U ?_
 intro j hj hI
 clear g1 g2
 refine T ?_
 refine⟨fun h=>?_,fun h=>?_⟩
 ·have hlt:j<s.data.toList.length:=qA h
  have hb:Ad s j=s.data.toList[j]:=Dj hlt
  have hno:=fun h=>@all_at' _ (fun c=>letB c || Cc c) s.data.toList j hlt h
  have hnx:=fun h=>Ce (p:=fun _ c=>letB c || Cc c) hI hlt h
  rw[← hb]at hno hnx
  clear h
  have hx:(letB (Ad s j) || Cc (Ad s j))=((decide (97≤(Ad s j).toNat) && decide ((Ad s j).toNat≤122)) || (decide (48≤(Ad s j).toNat) && decide ((Ad s j).toNat≤57))):=rfl
  have ej:Ad s ((j:Nat):Int).toNat=Ad s j:=rfl
  rw[hx]at hno hnx
  clear hx
  by_cases k1:(Ad s j).toNat<97
  ·have g1:decide (((Ad s ((j:Nat):Int).toNat).toNat:Int)<97)=true:=decide_eq_true (by rw[ej];omega)
   by_cases k3:(Ad s j).toNat<48
   ·have g3:decide (((Ad s ((j:Nat):Int).toNat).toNat:Int)<48)=true:=decide_eq_true (by rw[ej];omega)
    have e:r=false:=by rw[hN,hno (by rw[decide_eq_false (by omega:¬ 97≤(Ad s j).toNat),decide_eq_false (by omega:¬ 48≤(Ad s j).toNat)];rfl)]
    subst e
    refine T ?_
    exact D
   have g3:decide (((Ad s ((j:Nat):Int).toNat).toNat:Int)<48)=false:=decide_eq_false (by rw[ej];omega)
   by_cases k4:(Ad s j).toNat>57
   ·have g4:decide (((Ad s ((j:Nat):Int).toNat).toNat:Int)>57)=true:=decide_eq_true (by rw[ej];omega)
    have e:r=false:=by rw[hN,hno (by rw[decide_eq_false (by omega:¬ 97≤(Ad s j).toNat),decide_eq_false (by omega:¬ (Ad s j).toNat≤57),Bool.and_false];rfl)]
    subst e
    refine T ?_
    exact D
   have g4:decide (((Ad s ((j:Nat):Int).toNat).toNat:Int)>57)=false:=decide_eq_false (by rw[ej];omega)
   refine T ?_
   exact B5 [] hI j_ (hnx (by rw[decide_eq_true (by omega:48≤(Ad s j).toNat),decide_eq_true (by omega:(Ad s j).toNat≤57),Bool.and_self,Bool.or_true])) U
  have g1:decide (((Ad s ((j:Nat):Int).toNat).toNat:Int)<97)=false:=decide_eq_false (by rw[ej];omega)
  by_cases k2:(Ad s j).toNat>122
  ·have g2:decide (((Ad s ((j:Nat):Int).toNat).toNat:Int)>122)=true:=decide_eq_true (by rw[ej];omega)
   have g3:decide (((Ad s ((j:Nat):Int).toNat).toNat:Int)<48)=false:=decide_eq_false (by rw[ej];omega)
   have g4:decide (((Ad s ((j:Nat):Int).toNat).toNat:Int)>57)=true:=decide_eq_true (by rw[ej];omega)
   have e:r=false:=by rw[hN,hno (by rw[decide_eq_false (by omega:¬ (Ad s j).toNat≤122),decide_eq_false (by omega:¬ (Ad s j).toNat≤57),Bool.and_false,Bool.and_false];rfl)]
   subst e
   refine T ?_
   exact D
  have g2:decide (((Ad s ((j:Nat):Int).toNat).toNat:Int)>122)=false:=decide_eq_false (by rw[ej];omega)
  refine T ?_
  exact B5 [] hI j_ (hnx (by rw[decide_eq_true (by omega:97≤(Ad s j).toNat),decide_eq_true (by omega:(Ad s j).toNat≤122)];rfl)) U
 ·have hjs:j=s.size:=qB h
  subst hjs
  rw[D9 hI (Nat.le_refl _)]at hN
  subst hN
  clear h
  refine T ?_
  exact D
end Go.Sy.YtgblchnfjbkipaaGreatDoor
