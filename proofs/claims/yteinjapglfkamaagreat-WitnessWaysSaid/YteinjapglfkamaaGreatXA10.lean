/-
  D12 H5 O5 Z17 H8 J26: parts of a proof, joined by program.
-/
import Derived.Test.YteinjapglfkamaaGreatXA9
import Derived.Test.YteinjapglfkamaaGreatXA5
import Derived.Test.YteinjapglfkamaaGreatXA4
import Derived.Test.YteinjapglfkamaaGreatRows
import Derived.ProofKit
namespace Go.Sy.YteinjapglfkamaaGreat
open Go.Proofs
attribute [local irreducible] Go.Sy.G Go.Sy.DR
set_option maxRecDepth 20000
set_option maxHeartbeats 16000000
theorem Qr {n:Net} {S:Srch} (hS:Met n S) (hD:n.domains.length<100000) (hb:Ae n=true) {dev v:Int} (hv:v≠0) (hd:0≤B5 n dev v∧(B5 n dev v).toNat<n.domains.length) :
  Sy.Spec Tryz.prog 34 [.osl 0,Cj ⟨[],false⟩,A6 ⟨0,0,Mx n dev v,0⟩,Ad false] [(0,.row 2 Cj (Bz S.list))] (.osl 1) [(0,.non),(1,.row 2 Cj (Bz (He n dev S v).list))]:=by
 have ho:=M8 hS hD
 have e:B5 n dev v=Mx n dev v:=by rw[B5,if_pos hb]
 rw[e]at hd
 have q:=Apn (Bz S.list) ⟨[],false⟩ ⟨0,0,Mx n dev v,0⟩ false ho.1 ho.2.1 qy
 rw[Ahy hS (w:=⟨[],false⟩) (h:=⟨0,0,Mx n dev v,0⟩) (r:=false) (a:=-1) hd ⟨by omega,by omega⟩ (Ag8 _).symm]at q
 rw[He,if_neg hv,e]
 exact q
theorem Sx {n:Net} {S:Srch} (hS:Met n S) (hD:n.domains.length<100000) {l:List Fnd} {m:List Fnd} (hl:S.list=l++m) (hB:Backs l) {i:Nat} (hi:i<l.length) (h:Hop) (r:Bool) (rt:Bool) (hd:0≤h.domain∧h.domain.toNat<n.domains.length) :
  Sy.Spec Tryz.prog 34 [.osl 0,Cj ⟨backT l i,rt⟩,A6 h,Ad r] [(0,.row 2 Cj (Bz S.list))] (.osl 1) [(0,.non),(1,.row 2 Cj (Bz (meetT S h.domain (if r then 1 else 0) h i).list))]:=by
 have ho:=M8 hS hD
 have hlen:l.length≤S.list.length:=by rw[hl,List.length_append];omega
 have hbk:backT S.list i=backT l i:=by rw[hl];exact Tv hB qn
 have hb2:=ho.2.2 i qn
 rw[hbk]at hb2
 have q:=Apn (Bz S.list) ⟨backT l i,rt⟩ h r ho.1 ho.2.1 hb2
 rw[Ahy hS (w:=⟨backT l i,rt⟩) (h:=h) (r:=r) (a:=i) hd ⟨by omega,by omega⟩ hbk.symm]at q
 exact q
theorem Aoe (n:Net) (hn:n.Fin) (hu:Df n) (hb:Ae n=true) (from_ to:Int):Sy.Spec Tryz.prog 11 [Al n,Aa from_,Aa to] [] (.tup [.sl 4 A6 (wayT n from_ to).1,Ad (wayT n from_ to).2]) []:=Ab Γ hm 100 F11 Tryz.ntmps11 rfl fun F hF=>by
 have hlk:=wayT.eq_1 n from_ to
 generalize wayT n from_ to=res at *
 have h1:=Zh n hb from_
 have h2:=Zh n hb to
 have hD:n.domains.length<100000:=by have:=(Ah8 hb).2.2.2.1;omega
 conv=>whnf
 refine A3 3 8 (Al n) E E E ?_
 refine rg ?_;conv=>whnf
 refine Ag h1 F33 E E E E E ?_
 cases hf:Hv n from_
 ·rw[if_neg (by simp[hf])]at hlk
  subst hlk
  (refine rg ?_;(conv=>whnf);refine aT ?_;refine rg ?_;(conv=>whnf);refine aT ?_;refine rg ?_;(conv=>whnf);refine aT ?_;refine rg ?_;conv=>whnf)
  refine Ap 6 4 A6 E ?_
  refine rg ?_;conv=>whnf
  exact Ac E (.cons .tmp (.cons .tmp .nil)) E E
 (refine rg ?_;(conv=>whnf);refine aF ?_;refine rg ?_;conv=>whnf)
 refine Ag h2 F33 E E E E E ?_
 cases ht:Hv n to
 ·rw[if_neg (by simp[ht])]at hlk
  subst hlk
  (refine rg ?_;(conv=>whnf);refine aT ?_;refine rg ?_;(conv=>whnf);refine aT ?_;refine rg ?_;conv=>whnf)
  refine Ap 6 4 A6 E ?_
  refine rg ?_;conv=>whnf
  exact Ac E (.cons .tmp (.cons .tmp .nil)) E E
 (refine rg ?_;(conv=>whnf);refine aF ?_;refine rg ?_;conv=>whnf)
 refine⟨fun h=>?_,fun h=>?_⟩
 ·rw[if_neg (by have:from_=to:=(by simpa using h);simp[this])]at hlk
  subst hlk
  refine rg ?_;conv=>whnf
  refine Ap 6 4 A6 E ?_
  refine rg ?_;conv=>whnf
  exact Ac E (.cons .tmp (.cons .tmp .nil)) E E
 have hne:from_≠to:=by simpa using h
 rw[if_pos ⟨hf,ht,hne,hb⟩]at hlk
 have hp:=Mo hf
 have hvl:∀ v∈(n.ports[from_.toNat]'hp.2).native::(n.ports[from_.toNat]'hp.2).tagged,v≠0→_:=fun v hv h0=>Hk hb hp.2 hv h0
 have hnat:=(Qx hb hp.2).1
 have htp:∀ v∈(n.ports[from_.toNat]'hp.2).tagged,v≠0:=fun v hv=>Abl hb hp.2 hv
 have hts:=hn.tagged _ (List.getElem_mem hp.2)
 unfold An at hts
 rw[beginT,Ah hp.2]at hlk
 obtain ⟨p,hpp⟩:∃ p,n.ports[from_.toNat]'hp.2=p:=⟨_,rfl⟩
 rw[hpp]at hvl hnat htp hts hlk
 have hmt:=fun j=>Aju (n:=n) (dev:=p.dev) (l:=(p.native::p.tagged).take j) (fun v hv h0=>hvl v (List.mem_of_mem_take hv) h0)
 refine rg ?_;conv=>whnf
 refine⟨E,hp.1,hp.2,?_⟩
 rw[hpp]
 conv=>whnf
 refine⟨fun h=>?_,fun h=>?_⟩
 ·have h0:0<p.native:=of_decide_eq_true h
  have q:=Qr (hmt 0) hD hb (dev:=p.dev) (v:=p.native) qn (hvl p.native qy qn)
  have qa:=I9 n p.dev p.native hn.domains
  refine A3 8 7 (A5 p) E E E ?_
  refine B7 9 1000 2 Cj E E ?_
  refine rg ?_;conv=>whnf
  refine Ag qa F35 E E E E E ?_
  refine rg ?_;conv=>whnf
  refine Ai (Lm [(0,1000),(1,1001)] [] E F34 q (.cons (.refl _) (.cons (.agg (.cons .nil (.cons (.refl _) .nil))) (.cons (.refl _) (.cons (.refl _) .nil)))) ⟨E,Y⟩ E ⟨.inl E,.inr E,Y⟩ E) E E ?_
  refine rg ?_;conv=>whnf
  refine Aw p.tagged.length (fun j=>[(2,Aa to),(3,.ref 8 (Al n) 0),(8,.ref 7 (A5 p) 0),(9,.osl 1000),(10,Aa j)]) (fun j=>[(1000,.row 2 Cj (Bz (D2 n p.dev ((p.native::p.tagged).take (j+1))).list))]) [(1000,1001)]
   ⟨⟨rfl,rfl,rfl,rfl,rfl,rfl,rfl,rfl,rfl,rfl,trivial⟩,⟨.inl rfl,rfl,trivial⟩,rfl,rfl⟩ ?_
  intro j hj
  refine rg ?_;conv=>whnf
  refine⟨fun h=>?_,fun h=>?_⟩
  ·have hlt:j<p.tagged.length:=by simpa using h
   have hj0:((j:Nat):Int).toNat<p.tagged.length:=by simpa using hlt
   have hv:p.tagged[((j:Nat):Int).toNat]'hj0∈p.tagged:=List.getElem_mem hj0
   have q:=Qr (hmt (j+1)) hD hb (dev:=p.dev) (htp _ hv) (hvl _ (List.mem_cons_of_mem _ hv) (htp _ hv))
   have qa:=I9 n p.dev (p.tagged[((j:Nat):Int).toNat]'hj0) hn.domains
   have hs:=M0 n p.dev (l:=p.native::p.tagged) (j:=j+1) (v:=p.tagged[((j:Nat):Int).toNat]'hj0) (by simp;omega) rfl
   rw[← hs]at q
   refine rg ?_;conv=>whnf
   refine⟨E,by omega,hj0,?_⟩
   conv=>whnf
   refine Aq qa F35 E E E qq E ?_
   refine rd qq ?_;conv=>whnf
   refine Bn (Lm [(0,1000),(1,1001)] [] E F34 q (.cons (.refl _) (.cons (.agg (.cons .nil (.cons (.refl _) .nil))) (.cons (.refl _) (.cons (.refl _) .nil)))) ⟨E,Y⟩ E ⟨.inl E,.inr E,Y⟩ E) qq E ?_
   refine rd qq ?_;conv=>whnf
   refine⟨qq,?_⟩
   conv=>whnf
   refine⟨by unfold I64;omega,?_⟩
   conv=>whnf
   exact Ar [(1000,1001)] hlt ⟨⟨E,E,E,E,E,E,E,E,E,E,Y⟩,⟨.inl E,E,Y⟩,E,E⟩
  have hje:j=p.tagged.length:=by have:=of_decide_eq_false h;omega
  subst hje
  have hm0:=hmt (p.tagged.length+1)
  have e0:(p.native::p.tagged).take (p.tagged.length+1)=p.native::p.tagged:=List.take_of_length_le qy
  rw[e0]at hm0 ⊢
  generalize D2 n p.dev (p.native::p.tagged)=S0 at *
  refine rg ?_;conv=>whnf
  refine Oo (fun x:Srch × Nat=>Met n x.1∧x.2≤x.1.list.length∧res=Cy n to (2 * n.domains.length+1-x.2) x.1 x.2)
   (fun x=>[(2,Aa to),(3,.ref 8 (Al n) 0),(9,.osl 1000),(11,Aa x.2)]) (fun x=>[(1000,.row 2 Cj (Bz x.1.list))]) (fun x=>2 * n.domains.length+1-x.2) (S0,0) [] ⟨hm0,Nat.zero_le _,hlk⟩
   ⟨⟨rfl,rfl,rfl,rfl,rfl,rfl,rfl,rfl,trivial⟩,⟨.inl rfl,rfl,trivial⟩,rfl,rfl⟩ ?_
  clear hlk hm0 hmt
  rintro ⟨S,i⟩ ⟨mt,hi,hlk⟩
  dsimp only at mt hi hlk ⊢
  have hle:=mt.ok.le
  obtain ⟨fuel,hfu⟩:∃ k,2 * n.domains.length+1-i=k+1:=⟨2 * n.domains.length-i,by omega⟩
  rw[hfu,Cy]at hlk
  have hwlen:=Ex S.list
  refine rg ?_;conv=>whnf
  refine⟨fun h=>?_,fun h=>?_⟩
  rotate_left
  ·have hlt:¬ i<S.list.length:=by have:=of_decide_eq_false h;omega
   rw[if_neg hlt]at hlk
   subst hlk
   refine rg ?_;conv=>whnf
   refine Ap 6 4 A6 E ?_
   refine rg ?_;conv=>whnf
   exact Ac E (.cons .tmp (.cons .tmp .nil)) E E
  have hlt:i<S.list.length:=by have:=of_decide_eq_true h;omega
  have hi0:((i:Nat):Int).toNat<(Bz S.list).length:=by rw[hwlen];simpa using hlt
  have hk:((i:Nat):Int).toNat<S.list.length:=by simpa using hlt
  have hwi:(Bz S.list)[((i:Nat):Int).toNat]'hi0=⟨backT S.list i,decide ((nth S.list i).kind=1)⟩:=by rw[K3];rfl
  have hok:=M8 mt hD
  have hbl:=hok.2.2 i hlt
  have hbn:=(Il mt.bk (P:=fun _=>True) (fun _ _=>trivial) hlt).2.2
  have qe:=Aai ⟨backT S.list i,decide ((nth S.list i).kind=1)⟩ hbn (by show (backT S.list i).length<_;omega)
  rw[show (⟨backT S.list i,decide ((nth S.list i).kind=1)⟩:WayD).end_=(nth S.list i).domain from Abk mt.bk mt.dom hlt]at qe
  have hat:=mt.ok.at_ _ (List.getElem_mem hk)
  have hext:=extT.eq_1 n S i
  rw[if_pos hlt]at hlk
  rw[Ah hk]at hlk qe hwi hext
  obtain ⟨f,hf2⟩:∃ f,S.list[((i:Nat):Int).toNat]'hk=f:=⟨_,rfl⟩
  rw[hf2]at hlk qe hwi hat hext
  obtain ⟨fd,kd,fh,fa⟩:=f
  dsimp only at hlk qe hwi hat hext
  have hdo:Qi n fd:=⟨⟨hat.1.1,by omega⟩,hb⟩
  have hhe:E3 n fd=hopsL n fd:=by rw[E3,if_pos hdo]
  have q1:=Mc n hn hb fd
  have q2:=Hp (Bd n fd) to (C5 n hn fd)
  have q3:=Ac0 n hn fd hdo
  have q4:=W1 n hn hb hu fd ⟨hat.1.1,by omega⟩
  have hsh:=Mp hn fd
  have hsr:=Jz hn fd
  have hinh:=fun h hh=>@Ta n fd h hh
  have hinr:=fun q hq=>@Qo n fd q hq
  rw[hhe]at hsh hinh hext
  generalize Bd n fd=mem at *
  generalize hopsL n fd=hops at *
  generalize routesT n fd=leads at *
  refine rg ?_;conv=>whnf
  refine⟨by omega,hi0,?_⟩
  conv=>whnf
  refine⟨E,hi0,?_⟩
  rw[hwi]
  conv=>whnf
  refine Aq qe F38 E E E qq E ?_
  refine rd qq ?_;conv=>whnf
  refine Aq q1 F37 E E E qq E ?_
  refine rd qq ?_;conv=>whnf
  refine Aq q2 F36 E E E qq E ?_
  refine rd qq ?_;conv=>whnf
  refine⟨qq,?_⟩
  conv=>whnf
  generalize inB mem to=bm at *
  cases bm
  rotate_left
  ·refine aT ?_
   rw[if_pos rfl]at hlk
   subst hlk
   refine rg ?_;conv=>whnf
   exact Ac E (.cons .tmp (.cons .tmp .nil)) E E
  refine aF ?_
  rw[if_neg qy]at hlk
  refine A3 12 2 (Cj ⟨backT S.list i,decide (kd=1)⟩) E E E ?_
  refine rg ?_;conv=>whnf
  refine Aq qe F38 E E E qq E ?_
  refine rd qq ?_;conv=>whnf
  refine Aq q3 F39 E E E qq E ?_
  refine rd qq ?_;conv=>whnf
  refine⟨qq,?_⟩
  conv=>whnf
  have hm1:=fun j=>Met.ext1 (k:=kd) (i:=i) hat.2 (l:=hops.take j) mt ⟨by omega,by omega⟩ (fun h hh=>hinh h (List.mem_of_mem_take hh))
  have rk:(if decide (kd=1)=true then (1:Int) else 0)=kd:=by rcases hat.2 with h | h<;>rw[h]<;>rfl
  refine Aw hops.length (fun j=>[(2,Aa to),(3,.ref 8 (Al n) 0),(9,.osl 1000),(11,Aa i),(12,.ref 2 (Cj ⟨backT S.list i,decide (kd=1)⟩) 0),(13,.sl 4 A6 hops),(14,Aa j)]) (fun j=>[(1000,.row 2 Cj (Bz (ext1 S kd i (hops.take j)).list))]) []
   ⟨⟨rfl,rfl,rfl,rfl,rfl,rfl,rfl,rfl,rfl,rfl,rfl,rfl,rfl,rfl,trivial⟩,⟨.inl rfl,rfl,trivial⟩,rfl,rfl⟩ ?_
  intro j hj
  refine rg ?_;conv=>whnf
  refine⟨fun h=>?_,fun h=>?_⟩
  ·have hltj:j<hops.length:=by simpa using h
   have hj0:((j:Nat):Int).toNat<hops.length:=by simpa using hltj
   obtain ⟨m,hml⟩:=(hm1 j).2
   have q5:=Sx (hm1 j).1 hD hml mt.bk hlt (hops[((j:Nat):Int).toNat]'hj0) (decide (kd=1)) (decide (kd=1)) (hinh _ (List.getElem_mem hj0))
   rw[rk,← Us S kd i (h:=hops[((j:Nat):Int).toNat]'hj0) hltj rfl]at q5
   refine rg ?_;conv=>whnf
   refine⟨E,by omega,hj0,?_⟩
   conv=>whnf
   refine Bn (Ak [(0,1000),(1,1001)] E F34 q5 E ⟨E,Y⟩ E ⟨.inl E,.inr E,Y⟩) qq E ?_
   refine rd qq ?_;conv=>whnf
   refine⟨qq,?_⟩
   conv=>whnf
   refine⟨by unfold I64;omega,?_⟩
   conv=>whnf
   exact Ar [(1000,1001)] hltj ⟨⟨E,E,E,E,E,E,E,E,E,E,E,E,E,E,Y⟩,⟨.inl E,E,Y⟩,E,E⟩
  have hje:j=hops.length:=by have:=of_decide_eq_false h;omega
  subst hje
  obtain ⟨hmA,mA,hmlA⟩:=hm1 hops.length
  rw[List.take_length]at hmA hmlA ⊢
  clear hm1
  refine rg ?_;conv=>whnf
  refine Aq qe F38 E E E qq E ?_
  refine rd qq ?_;conv=>whnf
  refine Aq q4 F40 E E E qq E ?_
  refine rd qq ?_;conv=>whnf
  refine⟨qq,?_⟩
  conv=>whnf
  have hleA:S.list.length≤(ext1 S kd i hops).list.length:=by rw[hmlA,List.length_append];omega
  rcases hat.2 with hkd | hkd
  ·subst hkd
   rw[if_pos rfl]at hext
   rw[hext]at hlk
   clear hext
   generalize ext1 S 0 i hops=S1 at *
   have hm2:=fun j=>Met.ext2 (i:=i) (l:=leads.take j) hmA ⟨by omega,by omega⟩ (fun h hh=>hinr h (List.mem_of_mem_take hh))
   refine Aw leads.length (fun j=>[(2,Aa to),(3,.ref 8 (Al n) 0),(9,.osl 1000),(11,Aa i),(12,.ref 2 (Cj ⟨backT S.list i,false⟩) 0),(15,.sl 3 C9 leads),(16,Aa j)]) (fun j=>[(1000,.row 2 Cj (Bz (ext2 S1 i (leads.take j)).list))]) []
    ⟨⟨rfl,rfl,rfl,rfl,rfl,rfl,rfl,rfl,rfl,rfl,rfl,rfl,rfl,rfl,trivial⟩,⟨.inl rfl,rfl,trivial⟩,rfl,rfl⟩ ?_
   intro j hj
   refine rg ?_;conv=>whnf
   refine⟨fun h=>?_,fun h=>?_⟩
   ·have hltj:j<leads.length:=by simpa using h
    have hj0:((j:Nat):Int).toNat<leads.length:=by simpa using hltj
    obtain ⟨m,hml⟩:=(hm2 j).2
    have q5:=Sx (hm2 j).1 hD (l:=S.list) (m:=mA++m) (by rw[hml,hmlA,List.append_assoc]) mt.bk hlt ⟨3,0,(leads[((j:Nat):Int).toNat]'hj0).domain,(leads[((j:Nat):Int).toNat]'hj0).addr⟩ true false (hinr _ (List.getElem_mem hj0))
    rw[show (if true=true then (1:Int) else 0)=1 from rfl,← Ur S1 i (q:=leads[((j:Nat):Int).toNat]'hj0) hltj rfl]at q5
    (refine rg ?_;(conv=>whnf);refine aT ?_;refine rg ?_;conv=>whnf)
    refine⟨E,by omega,hj0,?_⟩
    conv=>whnf
    refine⟨E,by omega,hj0,?_⟩
    conv=>whnf
    refine Bn (Ak [(0,1000),(1,1001)] E F34 q5 E ⟨E,Y⟩ E ⟨.inl E,.inr E,Y⟩) qq E ?_
    refine rd qq ?_;conv=>whnf
    refine⟨qq,?_⟩
    conv=>whnf
    refine⟨by unfold I64;omega,?_⟩
    conv=>whnf
    exact Ar [(1000,1001)] hltj ⟨⟨E,E,E,E,E,E,E,E,E,E,E,E,E,E,Y⟩,⟨.inl E,E,Y⟩,E,E⟩
   ·have hje:j=leads.length:=by have:=of_decide_eq_false h;omega
    subst hje
    obtain ⟨hmB,mB,hmlB⟩:=hm2 leads.length
    rw[List.take_length]at hmB hmlB ⊢
    have hleB:S1.list.length≤(ext2 S1 i leads).list.length:=by rw[hmlB,List.length_append];omega
    (refine rg ?_;(conv=>whnf);refine aF ?_;refine rg ?_;conv=>whnf)
    refine⟨by unfold I64;omega,?_⟩
    conv=>whnf
    exact Ds (ext2 S1 i leads,i+1) [] ⟨hmB,by simp only;omega,by simp only;rw[show 2 * n.domains.length+1-(i+1)=fuel by omega];exact hlk⟩ (by simp only;omega) ⟨⟨E,E,E,E,E,E,E,E,Y⟩,⟨.inl E,E,Y⟩,E,E⟩
  ·subst hkd
   rw[if_neg qx]at hext
   rw[hext]at hlk
   clear hext
   generalize ext1 S 1 i hops=S1 at *
   refine Aw 0 (fun j=>[(2,Aa to),(3,.ref 8 (Al n) 0),(9,.osl 1000),(11,Aa i),(12,.ref 2 (Cj ⟨backT S.list i,true⟩) 0),(15,.sl 3 C9 leads),(16,Aa j)]) (fun j=>[(1000,.row 2 Cj (Bz S1.list))]) []
    ⟨⟨rfl,rfl,rfl,rfl,rfl,rfl,rfl,rfl,rfl,rfl,rfl,rfl,rfl,rfl,trivial⟩,⟨.inl rfl,rfl,trivial⟩,rfl,rfl⟩ ?_
   intro j hj
   refine rg ?_;conv=>whnf
   refine⟨fun h=>?_,fun h=>?_⟩
   ·(refine rg ?_;(conv=>whnf);refine aF ?_;refine rg ?_;conv=>whnf)
    refine⟨by unfold I64;omega,?_⟩
    conv=>whnf
    exact Ds (S1,i+1) [] ⟨hmA,by simp only;omega,by simp only;rw[show 2 * n.domains.length+1-(i+1)=fuel by omega];exact hlk⟩ (by simp only;omega) ⟨⟨E,E,E,E,E,E,E,E,Y⟩,⟨.inl E,E,Y⟩,E,E⟩
   ·(refine rg ?_;(conv=>whnf);refine aF ?_;refine rg ?_;conv=>whnf)
    refine⟨by unfold I64;omega,?_⟩
    conv=>whnf
    exact Ds (S1,i+1) [] ⟨hmA,by simp only;omega,by simp only;rw[show 2 * n.domains.length+1-(i+1)=fuel by omega];exact hlk⟩ (by simp only;omega) ⟨⟨E,E,E,E,E,E,E,E,Y⟩,⟨.inl E,E,Y⟩,E,E⟩
 ·have h0:p.native=0:=by have:=of_decide_eq_false h;omega
  have hz:D2 n p.dev ((p.native::p.tagged).take (0+1))=Is n:=by rw[h0];rfl
  refine A3 8 7 (A5 p) E E E ?_
  refine B7 9 1000 2 Cj E E ?_
  refine rg ?_;conv=>whnf
  refine Aw p.tagged.length (fun j=>[(2,Aa to),(3,.ref 8 (Al n) 0),(8,.ref 7 (A5 p) 0),(9,.osl 1000),(10,Aa j)]) (fun j=>[(1000,.row 2 Cj (Bz (D2 n p.dev ((p.native::p.tagged).take (j+1))).list))]) []
   ⟨⟨rfl,rfl,rfl,rfl,rfl,rfl,rfl,rfl,rfl,rfl,trivial⟩,⟨.inl (congrArg (fun z:Srch=>Ob.row 2 Cj (Bz z.list)) hz),rfl,trivial⟩,rfl,rfl⟩ ?_
  intro j hj
  refine rg ?_;conv=>whnf
  refine⟨fun h=>?_,fun h=>?_⟩
  ·have hlt:j<p.tagged.length:=by simpa using h
   have hj0:((j:Nat):Int).toNat<p.tagged.length:=by simpa using hlt
   have hv:p.tagged[((j:Nat):Int).toNat]'hj0∈p.tagged:=List.getElem_mem hj0
   have q:=Qr (hmt (j+1)) hD hb (dev:=p.dev) (htp _ hv) (hvl _ (List.mem_cons_of_mem _ hv) (htp _ hv))
   have qa:=I9 n p.dev (p.tagged[((j:Nat):Int).toNat]'hj0) hn.domains
   have hs:=M0 n p.dev (l:=p.native::p.tagged) (j:=j+1) (v:=p.tagged[((j:Nat):Int).toNat]'hj0) (by simp;omega) rfl
   rw[← hs]at q
   refine rg ?_;conv=>whnf
   refine⟨E,by omega,hj0,?_⟩
   conv=>whnf
   refine Aq qa F35 E E E qq E ?_
   refine rd qq ?_;conv=>whnf
   refine Bn (Lm [(0,1000),(1,1001)] [] E F34 q (.cons (.refl _) (.cons (.agg (.cons .nil (.cons (.refl _) .nil))) (.cons (.refl _) (.cons (.refl _) .nil)))) ⟨E,Y⟩ E ⟨.inl E,.inr E,Y⟩ E) qq E ?_
   refine rd qq ?_;conv=>whnf
   refine⟨qq,?_⟩
   conv=>whnf
   refine⟨by unfold I64;omega,?_⟩
   conv=>whnf
   exact Ar [(1000,1001)] hlt ⟨⟨E,E,E,E,E,E,E,E,E,E,Y⟩,⟨.inl E,E,Y⟩,E,E⟩
  have hje:j=p.tagged.length:=by have:=of_decide_eq_false h;omega
  subst hje
  have hm0:=hmt (p.tagged.length+1)
  have e0:(p.native::p.tagged).take (p.tagged.length+1)=p.native::p.tagged:=List.take_of_length_le qy
  rw[e0]at hm0 ⊢
  generalize D2 n p.dev (p.native::p.tagged)=S0 at *
  refine rg ?_;conv=>whnf
  refine Oo (fun x:Srch × Nat=>Met n x.1∧x.2≤x.1.list.length∧res=Cy n to (2 * n.domains.length+1-x.2) x.1 x.2)
   (fun x=>[(2,Aa to),(3,.ref 8 (Al n) 0),(9,.osl 1000),(11,Aa x.2)]) (fun x=>[(1000,.row 2 Cj (Bz x.1.list))]) (fun x=>2 * n.domains.length+1-x.2) (S0,0) [] ⟨hm0,Nat.zero_le _,hlk⟩
   ⟨⟨rfl,rfl,rfl,rfl,rfl,rfl,rfl,rfl,trivial⟩,⟨.inl rfl,rfl,trivial⟩,rfl,rfl⟩ ?_
  clear hlk hm0 hmt
  rintro ⟨S,i⟩ ⟨mt,hi,hlk⟩
  dsimp only at mt hi hlk ⊢
  have hle:=mt.ok.le
  obtain ⟨fuel,hfu⟩:∃ k,2 * n.domains.length+1-i=k+1:=⟨2 * n.domains.length-i,by omega⟩
  rw[hfu,Cy]at hlk
  have hwlen:=Ex S.list
  refine rg ?_;conv=>whnf
  refine⟨fun h=>?_,fun h=>?_⟩
  rotate_left
  ·have hlt:¬ i<S.list.length:=by have:=of_decide_eq_false h;omega
   rw[if_neg hlt]at hlk
   subst hlk
   refine rg ?_;conv=>whnf
   refine Ap 6 4 A6 E ?_
   refine rg ?_;conv=>whnf
   exact Ac E (.cons .tmp (.cons .tmp .nil)) E E
  have hlt:i<S.list.length:=by have:=of_decide_eq_true h;omega
  have hi0:((i:Nat):Int).toNat<(Bz S.list).length:=by rw[hwlen];simpa using hlt
  have hk:((i:Nat):Int).toNat<S.list.length:=by simpa using hlt
  have hwi:(Bz S.list)[((i:Nat):Int).toNat]'hi0=⟨backT S.list i,decide ((nth S.list i).kind=1)⟩:=by rw[K3];rfl
  have hok:=M8 mt hD
  have hbl:=hok.2.2 i hlt
  have hbn:=(Il mt.bk (P:=fun _=>True) (fun _ _=>trivial) hlt).2.2
  have qe:=Aai ⟨backT S.list i,decide ((nth S.list i).kind=1)⟩ hbn (by show (backT S.list i).length<_;omega)
  rw[show (⟨backT S.list i,decide ((nth S.list i).kind=1)⟩:WayD).end_=(nth S.list i).domain from Abk mt.bk mt.dom hlt]at qe
  have hat:=mt.ok.at_ _ (List.getElem_mem hk)
  have hext:=extT.eq_1 n S i
  rw[if_pos hlt]at hlk
  rw[Ah hk]at hlk qe hwi hext
  obtain ⟨f,hf2⟩:∃ f,S.list[((i:Nat):Int).toNat]'hk=f:=⟨_,rfl⟩
  rw[hf2]at hlk qe hwi hat hext
  obtain ⟨fd,kd,fh,fa⟩:=f
  dsimp only at hlk qe hwi hat hext
  have hdo:Qi n fd:=⟨⟨hat.1.1,by omega⟩,hb⟩
  have hhe:E3 n fd=hopsL n fd:=by rw[E3,if_pos hdo]
  have q1:=Mc n hn hb fd
  have q2:=Hp (Bd n fd) to (C5 n hn fd)
  have q3:=Ac0 n hn fd hdo
  have q4:=W1 n hn hb hu fd ⟨hat.1.1,by omega⟩
  have hsh:=Mp hn fd
  have hsr:=Jz hn fd
  have hinh:=fun h hh=>@Ta n fd h hh
  have hinr:=fun q hq=>@Qo n fd q hq
  rw[hhe]at hsh hinh hext
  generalize Bd n fd=mem at *
  generalize hopsL n fd=hops at *
  generalize routesT n fd=leads at *
  refine rg ?_;conv=>whnf
  refine⟨by omega,hi0,?_⟩
  conv=>whnf
  refine⟨E,hi0,?_⟩
  rw[hwi]
  conv=>whnf
  refine Aq qe F38 E E E qq E ?_
  refine rd qq ?_;conv=>whnf
  refine Aq q1 F37 E E E qq E ?_
  refine rd qq ?_;conv=>whnf
  refine Aq q2 F36 E E E qq E ?_
  refine rd qq ?_;conv=>whnf
  refine⟨qq,?_⟩
  conv=>whnf
  generalize inB mem to=bm at *
  cases bm
  rotate_left
  ·refine aT ?_
   rw[if_pos rfl]at hlk
   subst hlk
   refine rg ?_;conv=>whnf
   exact Ac E (.cons .tmp (.cons .tmp .nil)) E E
  refine aF ?_
  rw[if_neg qy]at hlk
  refine A3 12 2 (Cj ⟨backT S.list i,decide (kd=1)⟩) E E E ?_
  refine rg ?_;conv=>whnf
  refine Aq qe F38 E E E qq E ?_
  refine rd qq ?_;conv=>whnf
  refine Aq q3 F39 E E E qq E ?_
  refine rd qq ?_;conv=>whnf
  refine⟨qq,?_⟩
  conv=>whnf
  have hm1:=fun j=>Met.ext1 (k:=kd) (i:=i) hat.2 (l:=hops.take j) mt ⟨by omega,by omega⟩ (fun h hh=>hinh h (List.mem_of_mem_take hh))
  have rk:(if decide (kd=1)=true then (1:Int) else 0)=kd:=by rcases hat.2 with h | h<;>rw[h]<;>rfl
  refine Aw hops.length (fun j=>[(2,Aa to),(3,.ref 8 (Al n) 0),(9,.osl 1000),(11,Aa i),(12,.ref 2 (Cj ⟨backT S.list i,decide (kd=1)⟩) 0),(13,.sl 4 A6 hops),(14,Aa j)]) (fun j=>[(1000,.row 2 Cj (Bz (ext1 S kd i (hops.take j)).list))]) []
   ⟨⟨rfl,rfl,rfl,rfl,rfl,rfl,rfl,rfl,rfl,rfl,rfl,rfl,rfl,rfl,trivial⟩,⟨.inl rfl,rfl,trivial⟩,rfl,rfl⟩ ?_
  intro j hj
  refine rg ?_;conv=>whnf
  refine⟨fun h=>?_,fun h=>?_⟩
  ·have hltj:j<hops.length:=by simpa using h
   have hj0:((j:Nat):Int).toNat<hops.length:=by simpa using hltj
   obtain ⟨m,hml⟩:=(hm1 j).2
   have q5:=Sx (hm1 j).1 hD hml mt.bk hlt (hops[((j:Nat):Int).toNat]'hj0) (decide (kd=1)) (decide (kd=1)) (hinh _ (List.getElem_mem hj0))
   rw[rk,← Us S kd i (h:=hops[((j:Nat):Int).toNat]'hj0) hltj rfl]at q5
   refine rg ?_;conv=>whnf
   refine⟨E,by omega,hj0,?_⟩
   conv=>whnf
   refine Bn (Ak [(0,1000),(1,1001)] E F34 q5 E ⟨E,Y⟩ E ⟨.inl E,.inr E,Y⟩) qq E ?_
   refine rd qq ?_;conv=>whnf
   refine⟨qq,?_⟩
   conv=>whnf
   refine⟨by unfold I64;omega,?_⟩
   conv=>whnf
   exact Ar [(1000,1001)] hltj ⟨⟨E,E,E,E,E,E,E,E,E,E,E,E,E,E,Y⟩,⟨.inl E,E,Y⟩,E,E⟩
  have hje:j=hops.length:=by have:=of_decide_eq_false h;omega
  subst hje
  obtain ⟨hmA,mA,hmlA⟩:=hm1 hops.length
  rw[List.take_length]at hmA hmlA ⊢
  clear hm1
  refine rg ?_;conv=>whnf
  refine Aq qe F38 E E E qq E ?_
  refine rd qq ?_;conv=>whnf
  refine Aq q4 F40 E E E qq E ?_
  refine rd qq ?_;conv=>whnf
  refine⟨qq,?_⟩
  conv=>whnf
  have hleA:S.list.length≤(ext1 S kd i hops).list.length:=by rw[hmlA,List.length_append];omega
  rcases hat.2 with hkd | hkd
  ·subst hkd
   rw[if_pos rfl]at hext
   rw[hext]at hlk
   clear hext
   generalize ext1 S 0 i hops=S1 at *
   have hm2:=fun j=>Met.ext2 (i:=i) (l:=leads.take j) hmA ⟨by omega,by omega⟩ (fun h hh=>hinr h (List.mem_of_mem_take hh))
   refine Aw leads.length (fun j=>[(2,Aa to),(3,.ref 8 (Al n) 0),(9,.osl 1000),(11,Aa i),(12,.ref 2 (Cj ⟨backT S.list i,false⟩) 0),(15,.sl 3 C9 leads),(16,Aa j)]) (fun j=>[(1000,.row 2 Cj (Bz (ext2 S1 i (leads.take j)).list))]) []
    ⟨⟨rfl,rfl,rfl,rfl,rfl,rfl,rfl,rfl,rfl,rfl,rfl,rfl,rfl,rfl,trivial⟩,⟨.inl rfl,rfl,trivial⟩,rfl,rfl⟩ ?_
   intro j hj
   refine rg ?_;conv=>whnf
   refine⟨fun h=>?_,fun h=>?_⟩
   ·have hltj:j<leads.length:=by simpa using h
    have hj0:((j:Nat):Int).toNat<leads.length:=by simpa using hltj
    obtain ⟨m,hml⟩:=(hm2 j).2
    have q5:=Sx (hm2 j).1 hD (l:=S.list) (m:=mA++m) (by rw[hml,hmlA,List.append_assoc]) mt.bk hlt ⟨3,0,(leads[((j:Nat):Int).toNat]'hj0).domain,(leads[((j:Nat):Int).toNat]'hj0).addr⟩ true false (hinr _ (List.getElem_mem hj0))
    rw[show (if true=true then (1:Int) else 0)=1 from rfl,← Ur S1 i (q:=leads[((j:Nat):Int).toNat]'hj0) hltj rfl]at q5
    (refine rg ?_;(conv=>whnf);refine aT ?_;refine rg ?_;conv=>whnf)
    refine⟨E,by omega,hj0,?_⟩
    conv=>whnf
    refine⟨E,by omega,hj0,?_⟩
    conv=>whnf
    refine Bn (Ak [(0,1000),(1,1001)] E F34 q5 E ⟨E,Y⟩ E ⟨.inl E,.inr E,Y⟩) qq E ?_
    refine rd qq ?_;conv=>whnf
    refine⟨qq,?_⟩
    conv=>whnf
    refine⟨by unfold I64;omega,?_⟩
    conv=>whnf
    exact Ar [(1000,1001)] hltj ⟨⟨E,E,E,E,E,E,E,E,E,E,E,E,E,E,Y⟩,⟨.inl E,E,Y⟩,E,E⟩
   ·have hje:j=leads.length:=by have:=of_decide_eq_false h;omega
    subst hje
    obtain ⟨hmB,mB,hmlB⟩:=hm2 leads.length
    rw[List.take_length]at hmB hmlB ⊢
    have hleB:S1.list.length≤(ext2 S1 i leads).list.length:=by rw[hmlB,List.length_append];omega
    (refine rg ?_;(conv=>whnf);refine aF ?_;refine rg ?_;conv=>whnf)
    refine⟨by unfold I64;omega,?_⟩
    conv=>whnf
    exact Ds (ext2 S1 i leads,i+1) [] ⟨hmB,by simp only;omega,by simp only;rw[show 2 * n.domains.length+1-(i+1)=fuel by omega];exact hlk⟩ (by simp only;omega) ⟨⟨E,E,E,E,E,E,E,E,Y⟩,⟨.inl E,E,Y⟩,E,E⟩
  ·subst hkd
   rw[if_neg qx]at hext
   rw[hext]at hlk
   clear hext
   generalize ext1 S 1 i hops=S1 at *
   refine Aw 0 (fun j=>[(2,Aa to),(3,.ref 8 (Al n) 0),(9,.osl 1000),(11,Aa i),(12,.ref 2 (Cj ⟨backT S.list i,true⟩) 0),(15,.sl 3 C9 leads),(16,Aa j)]) (fun j=>[(1000,.row 2 Cj (Bz S1.list))]) []
    ⟨⟨rfl,rfl,rfl,rfl,rfl,rfl,rfl,rfl,rfl,rfl,rfl,rfl,rfl,rfl,trivial⟩,⟨.inl rfl,rfl,trivial⟩,rfl,rfl⟩ ?_
   intro j hj
   refine rg ?_;conv=>whnf
   refine⟨fun h=>?_,fun h=>?_⟩
   ·(refine rg ?_;(conv=>whnf);refine aF ?_;refine rg ?_;conv=>whnf)
    refine⟨by unfold I64;omega,?_⟩
    conv=>whnf
    exact Ds (S1,i+1) [] ⟨hmA,by simp only;omega,by simp only;rw[show 2 * n.domains.length+1-(i+1)=fuel by omega];exact hlk⟩ (by simp only;omega) ⟨⟨E,E,E,E,E,E,E,E,Y⟩,⟨.inl E,E,Y⟩,E,E⟩
   ·(refine rg ?_;(conv=>whnf);refine aF ?_;refine rg ?_;conv=>whnf)
    refine⟨by unfold I64;omega,?_⟩
    conv=>whnf
    exact Ds (S1,i+1) [] ⟨hmA,by simp only;omega,by simp only;rw[show 2 * n.domains.length+1-(i+1)=fuel by omega];exact hlk⟩ (by simp only;omega) ⟨⟨E,E,E,E,E,E,E,E,Y⟩,⟨.inl E,E,Y⟩,E,E⟩
end Go.Sy.YteinjapglfkamaaGreat
namespace Go.Sy.YteinjapglfkamaaGreat
open Go.Proofs Go.ChangeShapes Go.WideShapes Go.ChangeAt Go.RowKit
set_option maxRecDepth 100000
section
variable {H:Type} {enc:TypeId × Value→H} {W:World}
def Hop.In (x:Hop):Prop:=wI .i64 x.kind∧wI .i64 x.port∧wI .i64 x.domain∧wI .u32 x.addr
end
end Go.Sy.YteinjapglfkamaaGreat
namespace Go.Sy.YteinjapglfkamaaGreat
open Go.Proofs
attribute [local irreducible] Go.Sy.G Go.Sy.DR
set_option maxRecDepth 100000
set_option maxHeartbeats 8000000
theorem Ak1 {n:Net} (h:n.In):Df n:=fun x hx=>by
 have:=(h.irbs.1 x hx).2.2.2.1
 simp only[wI,Lit.wf,decide_eq_true_eq,Bool.and_eq_true]at this
 exact⟨this.1,Int.lt_of_le_of_lt this.2 qx⟩
theorem way_bad {n:Net} (hb:Ae n=false) (f t:Int):wayT n f t=([],false):=by
 rw[wayT,if_neg (fun x=>by rw[hb]at x;cases x.2.2.2)]
theorem An1 {n:Net} (hu:Df n) (hn:n.Fin) (f t:Int):(wayT n f t).1.length<1000000:=by
 have hfac:=@wayT_facts n hu f t
 cases h:(wayT n f t).2
 ·have:wayT n f t=([],false):=by
   rw[wayT]at h ⊢
   split
   ·rename_i hc
    rw[if_pos hc]at h
    have hno:∀ (k:Nat) (S:Srch) (i:Nat),(Cy n t k S i).2=false→Cy n t k S i=([],false):=by
     intro k
     induction k with
     | zero=>intro S i _;rfl
     | succ k ih =>
      intro S i h
      rw[Cy]at h ⊢
      split
      ·rename_i h1
       rw[if_pos h1]at h
       split
       ·rename_i h2;rw[if_pos h2]at h;cases h
       ·rename_i h2;rw[if_neg h2]at h;exact ih _ _ h
      ·rfl
    exact hno _ _ _ h
   ·rfl
  rw[this];decide
 ·have:=hfac h
  have:=Ah8 this.2.2.2
  omega
theorem Aah (n:Net) (hin:n.In) (f t:Int):Sy.Spec Tryz.prog 3 [Al n,Aa f,Aa t] [] (Ad true) []:=Ab Γ hm 100 F3 Tryz.ntmps3 rfl fun F hF=>by
 conv=>whnf
 refine A3 3 8 (Al n) E E E ?_
 refine T ?_
 refine C (greatS n) F7 ?_
 refine⟨fun hg=>?_,fun hg=>?_⟩
 ·refine T ?_
  refine C Wg F8 ?_
  exact D
 have hn:=Abg hg
 have hu:=Ak1 hin
 have q1:=wayS n hn hu f t
 have q2:=Ac2 n hn
 have hwb:=fun hb=>@way_bad n hb f t
 have q3:=fun hb=>Aoe n hn hu hb f t
 have hfew:=An1 hu hn f t
 refine T ?_
 refine C q1 F9 ?_
 refine C q2 F10 ?_
 cases hb:Ae n
 ·have hw:=hwb hb
  rw[hw]
  refine T ?_
  refine C Wg F8 ?_
  exact D
 have q3:=q3 hb
 generalize wayT n f t=w at *
 obtain ⟨l,ok⟩:=w
 dsimp only at *
 have q4:=toldS l qn
 have q5:=Als l qn
 cases ok <;>
 ·refine T ?_
  refine C q3 F11 ?_
  refine C q4 F13 ?_
  refine C q5 F12 ?_
  refine C Wg F8 ?_
  exact D
end Go.Sy.YteinjapglfkamaaGreat
namespace Go.Proofs.YteinjapglfkamaaGreat
open Go.ChangeShapes Go.WideShapes Go.ChangeAt Go.RowKit
set_option maxRecDepth 100000
theorem Ot:Tryz.checked.prog.inPlace 3=Rows.witnessWaysRow.inPlace:=by kernel_rfl
theorem K2:Tryz.checked.prog.unfollowed 3=Rows.witnessWaysRow.unfollowed:=by kernel_rfl
theorem L2:Tryz.checked.prog.recurses 3=Rows.witnessWaysRow.recurses:=by kernel_rfl
theorem Q4:Tryz.checked.prog.varsNamed 3=Rows.witnessWaysRow.named:=by kernel_rfl
theorem T4:Tryz.checked.prog.liftsFinal=Rows.witnessWaysRow.lifted:=by kernel_rfl
theorem Or:laidOutB Tryz.checked.prog=true:=by kernel_rfl
theorem Q7:Tryz.checked.prog.mayEnter=true:=by kernel_rfl
theorem Q5:Tryz.checked.prog.stopsHeard=true:=by kernel_rfl
theorem Q6:joinedFacts Tryz.checked.prog 3 Tryz.f3 Rows.witnessWaysSpec Rows.witnessWaysRow=true:=by
 unfold joinedFacts
 rw[Ot,K2,L2,Q4,T4,Or,Q7,Q5]
 kernel_rfl
end Go.Proofs.YteinjapglfkamaaGreat
